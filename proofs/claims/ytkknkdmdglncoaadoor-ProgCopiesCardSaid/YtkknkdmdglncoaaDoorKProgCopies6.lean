/- Part 6 of the proof of the law ProgCopies for every input: words, walks and plain laws. No condition. -/
import Derived.Test.YtkknkdmdglncoaaDoorCards
import Derived.Test.YtkknkdmdglncoaaDoorTie
import Derived.Deep.DeepHandedRow
import Derived.Test.YtkknkdmdglncoaaDoorRows
import Derived.WalkKit
import Derived.ProofKit
import Derived.OpenShut
import Derived.ShutString
import Derived.ChangeOld
import Derived.Below
import Derived.SizedLaws
import Derived.Test.YtkknkdmdglncoaaDoorKProgCopies5
section
namespace Go.Proofs.YtkknkdmdglncoaaDoor.XA
open Go.RowKit Go.Proofs.YtkknkdmdglncoaaDoorW.PrintWords Go.Proofs.YtkknkdmdglncoaaDoorW.PrintLast Go.Proofs.YtkknkdmdglncoaaDoorW.PrintMore
attribute [local go_sem] max2_int min2_int max_two min_two max_three min_three max_four min_four   -- for this text's walks alone
set_option linter.unusedVariables false
set_option linter.unusedSimpArgs false

/-! ### swageref08_Join: function 24 -/
mutual
def swageref08_Join.j0 : Nat → Bool → Int → Int → List (S37) → List Int → Int → Int → List (S37) → List Int → Option (Int × Int × (List (S37)) × List Int × Int)
  | 0, _, _, _, _, _, _, _, _, _ => none
  | k + 1, x36, x245000, x245001, x245002, x245003, x246000, x246001, x246002, x246003 => if x36 = true then (some (0, 0, ([] : List (S37)), ([] : List Int), 3)) else (if ([] : List (S37)).length + x245002.length < 3518437208883 then (swageref08_Join.l0 k 0 x245000 x245001 x245002 x245003 x246000 x246001 x246002 x246003 x245000 (wrap64 (x245001 + x246001)) (([] : List (S37)) ++ x245002)) else (none))
def swageref08_Join.l0 : Nat → Int → Int → Int → List (S37) → List Int → Int → Int → List (S37) → List Int → Int → Int → List (S37) → Option (Int × Int × (List (S37)) × List Int × Int)
  | 0, _, _, _, _, _, _, _, _, _, _, _, _ => none
  | k + 1, x7, x245000, x245001, x245002, x245003, x246000, x246001, x246002, x246003, x248000, x248001, x248002 => if x7 < (x245003.length : Int) then (if 0 ≤ x7 then (if x248002.length < 3518437208883 then (swageref08_Join.l0 k (wrap64 (x7 + 1)) x245000 x245001 x245002 x245003 x246000 x246001 x246002 x246003 x248000 x248001 (x248002 ++ [(⟨1, wrap64 (x245001 + x7), rd x245003 x7, 0, 0⟩ : S37)])) else (none)) else (none)) else (swageref08_Join.l1 k 0 x245000 x245001 x245002 x245003 x246000 x246001 x246002 x246003 x248000 x248001 x248002)
def swageref08_Join.l1 : Nat → Int → Int → Int → List (S37) → List Int → Int → Int → List (S37) → List Int → Int → Int → List (S37) → Option (Int × Int × (List (S37)) × List Int × Int)
  | 0, _, _, _, _, _, _, _, _, _, _, _, _ => none
  | k + 1, x8, x245000, x245001, x245002, x245003, x246000, x246001, x246002, x246003, x248000, x248001, x248002 => if x8 < (x246002.length : Int) then (if 0 ≤ x8 then (if ((rd_T37 x246002 x8).f0) = 3 then (if x248002.length < 3518437208883 then (swageref08_Join.l1 k (wrap64 (x8 + 1)) x245000 x245001 x245002 x245003 x246000 x246001 x246002 x246003 x248000 x248001 (x248002 ++ [(⟨(rd_T37 x246002 x8).f0, wrap64 (((rd_T37 x246002 x8).f1) + x245001), wrap64 (((rd_T37 x246002 x8).f2) + x245001), wrap64 (((rd_T37 x246002 x8).f3) + x245001), (rd_T37 x246002 x8).f4⟩ : S37)])) else (none)) else (if ((rd_T37 x246002 x8).f0) = 4 then (if x248002.length < 3518437208883 then (swageref08_Join.l1 k (wrap64 (x8 + 1)) x245000 x245001 x245002 x245003 x246000 x246001 x246002 x246003 x248000 x248001 (x248002 ++ [(⟨(rd_T37 x246002 x8).f0, wrap64 (((rd_T37 x246002 x8).f1) + x245001), wrap64 (((rd_T37 x246002 x8).f2) + x245001), wrap64 (((rd_T37 x246002 x8).f3) + x245001), (rd_T37 x246002 x8).f4⟩ : S37)])) else (none)) else (if x248002.length < 3518437208883 then (swageref08_Join.l1 k (wrap64 (x8 + 1)) x245000 x245001 x245002 x245003 x246000 x246001 x246002 x246003 x248000 x248001 (x248002 ++ [(⟨(rd_T37 x246002 x8).f0, wrap64 (((rd_T37 x246002 x8).f1) + x245001), wrap64 (((rd_T37 x246002 x8).f2) + x245001), (rd_T37 x246002 x8).f3, (rd_T37 x246002 x8).f4⟩ : S37)])) else (none)))) else (none)) else (swageref08_Join.l2 k 0 x245000 x245001 x245002 x245003 x246000 x246001 x246002 x246003 x248000 x248001 x248002 ([] : List Int))
def swageref08_Join.l2 : Nat → Int → Int → Int → List (S37) → List Int → Int → Int → List (S37) → List Int → Int → Int → List (S37) → List Int → Option (Int × Int × (List (S37)) × List Int × Int)
  | 0, _, _, _, _, _, _, _, _, _, _, _, _, _ => none
  | k + 1, x10, x245000, x245001, x245002, x245003, x246000, x246001, x246002, x246003, x248000, x248001, x248002, x248003 => if x10 < (x246003.length : Int) then (if 0 ≤ x10 then (if x248003.length < 17592186044416 then (swageref08_Join.l2 k (wrap64 (x10 + 1)) x245000 x245001 x245002 x245003 x246000 x246001 x246002 x246003 x248000 x248001 x248002 (x248003 ++ [wrap64 ((rd x246003 x10) + x245001)])) else (none)) else (none)) else (some (x248000, x248001, x248002, x248003, 0))
end
def swageref08_Join.f (k : Nat) (a0_0 : Int) (a0_1 : Int) (l0_2 : List (S37)) (l0_3 : List Int) (a1_0 : Int) (a1_1 : Int) (l1_2 : List (S37)) (l1_3 : List Int) : Option (Int × Int × (List (S37)) × List Int × Int) := if a1_0 = (l0_3.length : Int) then (if (wrap64 (a0_1 + a1_1)) > 128 then (swageref08_Join.j0 k true a0_0 a0_1 l0_2 l0_3 a1_0 a1_1 l1_2 l1_3) else (swageref08_Join.j0 k (decide ((wrap64 ((wrap64 ((l0_2.length : Int) + a1_0)) + (l1_2.length : Int))) > 16384)) a0_0 a0_1 l0_2 l0_3 a1_0 a1_1 l1_2 l1_3)) else (some (0, 0, ([] : List (S37)), ([] : List Int), 5))
end Go.Proofs.YtkknkdmdglncoaaDoor.XA
end

section
namespace Go.Proofs.YtkknkdmdglncoaaDoor.XA
open Go.RowKit Go.Proofs.YtkknkdmdglncoaaDoorW.PrintWords Go.Proofs.YtkknkdmdglncoaaDoorW.PrintLast Go.Proofs.YtkknkdmdglncoaaDoorW.PrintMore
attribute [local go_sem] max2_int min2_int max_two min_two max_three min_three max_four min_four   -- for this text's walks alone
set_option linter.unusedVariables false
set_option linter.unusedSimpArgs false

/-! ### prog_Depth: function 25 -/
mutual
def prog_Depth.l0 : Nat → List Int → List (S37) → Int → Int → Int → Int → List (S37) → List Int → Option (Int × Int)
  | 0, _, _, _, _, _, _, _, _ => none
  | k + 1, x4, x20, x21, x22, x271000, x271001, x271002, x271003 => if x22 < x21 then (if 0 ≤ x22 then (if x22 < (x20.length : Int) then ((prog_Asks.f k ((rd_T37 x20 x22).f0) ((rd_T37 x20 x22).f1) ((rd_T37 x20 x22).f2) ((rd_T37 x20 x22).f3) ((rd_T37 x20 x22).f4)).bind fun t277 => (prog_Depth.l1 k x4 0 x20 x21 x22 t277 (t277.length : Int) 0 x271000 x271001 x271002 x271003 ((rd_T37 x20 x22).f0) ((rd_T37 x20 x22).f1) ((rd_T37 x20 x22).f2) ((rd_T37 x20 x22).f3) ((rd_T37 x20 x22).f4))) else (none)) else (none)) else (prog_Depth.l2 k x4 0 x271003 (x271003.length : Int) 0)
def prog_Depth.l1 : Nat → List Int → Int → List (S37) → Int → Int → List Int → Int → Int → Int → Int → List (S37) → List Int → Int → Int → Int → Int → Int → Option (Int × Int)
  | 0, _, _, _, _, _, _, _, _, _, _, _, _, _, _, _, _, _ => none
  | k + 1, x4, x7, x20, x21, x22, x27, x28, x29, x271000, x271001, x271002, x271003, x277000, x277001, x277002, x277003, x277004 => if x29 < x28 then (if 0 ≤ x29 then (if x29 < (x27.length : Int) then (if 0 ≤ (rd x27 x29) then (if (rd x27 x29) < (x4.length : Int) then (prog_Depth.l1 k x4 (mx x7 (rd x4 (rd x27 x29))) x20 x21 x22 x27 x28 (wrap64 (x29 + 1)) x271000 x271001 x271002 x271003 x277000 x277001 x277002 x277003 x277004) else (none)) else (none)) else (none)) else (none)) else (if 0 ≤ x277001 then (if x277001 < (x4.length : Int) then (prog_Depth.l0 k (x4.set (x277001 : Int).toNat (wrap64 (x7 + 1))) x20 x21 (wrap64 (x22 + 1)) x271000 x271001 x271002 x271003) else (none)) else (none))
def prog_Depth.l2 : Nat → List Int → Int → List Int → Int → Int → Option (Int × Int)
  | 0, _, _, _, _, _ => none
  | k + 1, x4, x10, x48, x49, x50 => if x50 < x49 then (if 0 ≤ x50 then (if x50 < (x48.length : Int) then (if 0 ≤ (rd x48 x50) then (if (rd x48 x50) < (x4.length : Int) then (prog_Depth.l2 k x4 (mx x10 (rd x4 (rd x48 x50))) x48 x49 (wrap64 (x50 + 1))) else (none)) else (none)) else (none)) else (none)) else (some (x10, 0))
end
def prog_Depth.f (k : Nat) (a0_0 : Int) (a0_1 : Int) (l0_2 : List (S37)) (l0_3 : List Int) : Option (Int × Int) := (prog_right.f k a0_0 a0_1 l0_2 l0_3).bind fun t271 => (if t271 = true then (if 0 ≤ a0_1 then (if (a0_1 : Int).toNat ≤ 35184372088832 then (prog_Depth.l0 k (List.replicate (a0_1 : Int).toNat 0) l0_2 (l0_2.length : Int) 0 a0_0 a0_1 l0_2 l0_3) else (none)) else (none)) else (some (0, 80)))
end Go.Proofs.YtkknkdmdglncoaaDoor.XA
end

section
namespace Go.Proofs.YtkknkdmdglncoaaDoor.XA
open Go.RowKit Go.Proofs.YtkknkdmdglncoaaDoorW.PrintWords Go.Proofs.YtkknkdmdglncoaaDoorW.PrintLast Go.Proofs.YtkknkdmdglncoaaDoorW.PrintMore
attribute [local go_sem] max2_int min2_int max_two min_two max_three min_three max_four min_four   -- for this text's walks alone
set_option linter.unusedVariables false
set_option linter.unusedSimpArgs false

/-! ### swagelaw08_ProgJoins: function 6 -/
mutual
def swagelaw08_ProgJoins.j0 : Nat → Bool → Int → Int → List (S37) → List Int → Int → Int → List (S37) → List Int → Option (Bool)
  | 0, _, _, _, _, _, _, _, _, _ => none
  | k + 1, x26, x286000, x286001, x286002, x286003, x287000, x287001, x287002, x287003 => if x26 = true then (some true) else ((prog_Join.f k x286000 x286001 x286002 x286003 x287000 x287001 x287002 x287003).bind fun bt290 => ((swageref08_Right.f k x286000 x286001 x286002 x286003).bind fun t300 => ((swageref08_Right.f k x287000 x287001 x287002 x287003).bind fun t301 => (if t300 = true then (swagelaw08_ProgJoins.j1 k bt290.2.2.2.2 (!t301) x286000 x286001 x286002 x286003 x287000 x287001 x287002 x287003 bt290.1 bt290.2.1 bt290.2.2.1 bt290.2.2.2.1) else (swagelaw08_ProgJoins.j1 k bt290.2.2.2.2 true x286000 x286001 x286002 x286003 x287000 x287001 x287002 x287003 bt290.1 bt290.2.1 bt290.2.2.1 bt290.2.2.2.1)))))
def swagelaw08_ProgJoins.j1 : Nat → Int → Bool → Int → Int → List (S37) → List Int → Int → Int → List (S37) → List Int → Int → Int → List (S37) → List Int → Option (Bool)
  | 0, _, _, _, _, _, _, _, _, _, _, _, _, _, _ => none
  | k + 1, x6, x42, x286000, x286001, x286002, x286003, x287000, x287001, x287002, x287003, x300000, x300001, x300002, x300003 => if x42 = true then ((swagelaw08_empty.f x300000 x300001 x300002 x300003).bind fun t302 => (if t302 = true then (if x6 = 80 then ((swagelaw08_live.f k).bind fun t303 => (some t303)) else (some false)) else (some false))) else ((swageref08_Join.f k x286000 x286001 x286002 x286003 x287000 x287001 x287002 x287003).bind fun bt304 => (if x6 = bt304.2.2.2.2 then ((swageref08_Same.f k x300000 x300001 x300002 x300003 bt304.1 bt304.2.1 bt304.2.2.1 bt304.2.2.2.1).bind fun t314 => (if t314 = true then ((swagelaw08_live.f k).bind fun t315 => (swagelaw08_ProgJoins.j2 k x6 (!t315) x286000 x286001 x286002 x286003 x287000 x287001 x287002 x287003 x300000 x300001 x300002 x300003)) else (swagelaw08_ProgJoins.j2 k x6 true x286000 x286001 x286002 x286003 x287000 x287001 x287002 x287003 x300000 x300001 x300002 x300003))) else (swagelaw08_ProgJoins.j2 k x6 true x286000 x286001 x286002 x286003 x287000 x287001 x287002 x287003 x300000 x300001 x300002 x300003)))
def swagelaw08_ProgJoins.j2 : Nat → Int → Bool → Int → Int → List (S37) → List Int → Int → Int → List (S37) → List Int → Int → Int → List (S37) → List Int → Option (Bool)
  | 0, _, _, _, _, _, _, _, _, _, _, _, _, _, _ => none
  | k + 1, x6, x70, x286000, x286001, x286002, x286003, x287000, x287001, x287002, x287003, x300000, x300001, x300002, x300003 => if x70 = true then (some false) else (if x6 = 0 then ((prog_Depth.f k x286000 x286001 x286002 x286003).bind fun bt316 => ((prog_Depth.f k x287000 x287001 x287002 x287003).bind fun bt318 => ((prog_Depth.f k x300000 x300001 x300002 x300003).bind fun bt320 => ((prog_Check.f k x300000 x300001 x300002 x300003).bind fun bt322 => (if bt320.2 = 0 then (if bt322.2 = 0 then (some (decide (bt320.1 ≤ (wrap64 ((wrap64 (bt316.1 + bt318.1)) + 1))))) else (some false)) else (some false)))))) else (some true))
end
def swagelaw08_ProgJoins.f (k : Nat) (a0_0 : Int) (a0_1 : Int) (l0_2 : List (S37)) (l0_3 : List Int) (a1_0 : Int) (a1_1 : Int) (l1_2 : List (S37)) (l1_3 : List Int) : Option (Bool) := (swagelaw08_live.f k).bind fun t287 => (if t287 = true then ((swagelaw08_long.f a0_0 a0_1 l0_2 l0_3).bind fun t288 => (if t288 = true then (swagelaw08_ProgJoins.j0 k true a0_0 a0_1 l0_2 l0_3 a1_0 a1_1 l1_2 l1_3) else ((swagelaw08_long.f a1_0 a1_1 l1_2 l1_3).bind fun t289 => (swagelaw08_ProgJoins.j0 k t289 a0_0 a0_1 l0_2 l0_3 a1_0 a1_1 l1_2 l1_3)))) else (some false))
end Go.Proofs.YtkknkdmdglncoaaDoor.XA
end

section
namespace Go.Proofs.YtkknkdmdglncoaaDoor.SaidProgJoins
open Go.RowKit Go.Proofs.YtkknkdmdglncoaaDoorW.PrintWords Go.Proofs.YtkknkdmdglncoaaDoorW.PrintLast Go.Proofs.YtkknkdmdglncoaaDoor.Opn Go.Proofs.YtkknkdmdglncoaaDoor.XA
set_option linter.unusedVariables false
/-- What is known of whatever is read at this type. -/
def wfS37 (x : S37) : Prop := (Lit.int .i64 x.f0).wf = true ∧ (Lit.int .i64 x.f1).wf = true ∧ (Lit.int .i64 x.f2).wf = true ∧ (Lit.int .i64 x.f3).wf = true ∧ (Lit.int .i64 x.f4).wf = true
theorem opnS37 : Opn Tryd.prog 37 k37 wfS37 := opn_iso (fun x : S37 => (x.f0, x.f1, x.f2, x.f3, x.f4)) (fun p => ⟨p.1, p.2.1, p.2.2.1, p.2.2.2.1, p.2.2.2.2⟩) (fun _ => rfl) (opn_struct Tryd.underlying37 (by kernel_rfl) (fs_cons rfl (by kernel_rfl) (opn_int Tryd.underlying3) (fs_cons rfl (by kernel_rfl) (opn_int Tryd.underlying3) (fs_cons rfl (by kernel_rfl) (opn_int Tryd.underlying3) (fs_cons rfl (by kernel_rfl) (opn_int Tryd.underlying3) (fs_one rfl (by kernel_rfl) (opn_int Tryd.underlying3)))))))
/-- What is known of whatever is read at this type. -/
def wfS25 (x : S25) : Prop := (Lit.int .i64 x.f0).wf = true ∧ (Lit.int .i64 x.f1).wf = true ∧ (x.f2.length * 40 ≤ 140737488351232 ∧ x.f2.length ≤ 9223372036854775807 ∧ ∀ y ∈ x.f2, wfS37 y) ∧ (x.f3.length * 8 ≤ 140737488351232 ∧ x.f3.length ≤ 9223372036854775807 ∧ ∀ y ∈ x.f3, (Lit.int .i64 y).wf = true)
theorem opnS25 : Opn Tryd.prog 25 k25 wfS25 := opn_iso (fun x : S25 => (x.f0, x.f1, x.f2, x.f3)) (fun p => ⟨p.1, p.2.1, p.2.2.1, p.2.2.2⟩) (fun _ => rfl) (opn_struct Tryd.underlying25 (by kernel_rfl) (fs_cons rfl (by kernel_rfl) (opn_int Tryd.underlying3) (fs_cons rfl (by kernel_rfl) (opn_int Tryd.underlying3) (fs_cons rfl (by kernel_rfl) (opn_slice (B := 40) Tryd.underlying22 (by kernel_rfl) (by kernel_rfl) (opnS37)) (fs_one rfl (by kernel_rfl) (opn_slice (B := 8) Tryd.underlying23 (by kernel_rfl) (by kernel_rfl) (opn_int Tryd.underlying3)))))))
/-- THE PURE STATEMENT. -/
def Pure : Prop := ∀ (x0 : S25) (x1 : S25), wfS25 x0 → wfS25 x1 → ∃ k, swagelaw08_ProgJoins.f k x0.f0 x0.f1 x0.f2 x0.f3 x1.f0 x1.f1 x1.f2 x1.f3 = some true
end Go.Proofs.YtkknkdmdglncoaaDoor.SaidProgJoins
end

section
namespace Go.Proofs.YtkknkdmdglncoaaDoor.XA
open Go.RowKit Go.Proofs.YtkknkdmdglncoaaDoorW.PrintWords Go.Proofs.YtkknkdmdglncoaaDoorW.PrintLast Go.Proofs.YtkknkdmdglncoaaDoorW.PrintMore
attribute [local go_sem] max2_int min2_int max_two min_two max_three min_three max_four min_four   -- for this text's walks alone
set_option linter.unusedVariables false
set_option linter.unusedSimpArgs false

/-! ### swagelaw08_ProgChecks: function 3 -/
def swagelaw08_ProgChecks.j0 : Nat → Bool → Int → Int → List (S37) → List Int → Option (Bool)
  | 0, _, _, _, _, _ => none
  | k + 1, x18, x152000, x152001, x152002, x152003 => if x18 = true then (some true) else ((prog_Check.f k x152000 x152001 x152002 x152003).bind fun bt153 => ((swageref08_Check.f k x152000 x152001 x152002 x152003).bind fun bt155 => (if bt155.2 = true then (if bt153.1 = bt155.1 then (if bt153.2 = 80 then ((swagelaw08_live.f k).bind fun t157 => (some t157)) else (some false)) else (some false)) else (if bt153.1 = 0 then (some (bt153.2 == 0)) else (some false)))))
def swagelaw08_ProgChecks.f (k : Nat) (a0_0 : Int) (a0_1 : Int) (l0_2 : List (S37)) (l0_3 : List Int) : Option (Bool) := (swagelaw08_live.f k).bind fun t152 => (if t152 = true then (if (l0_2.length : Int) > 20000 then (swagelaw08_ProgChecks.j0 k true a0_0 a0_1 l0_2 l0_3) else (swagelaw08_ProgChecks.j0 k (decide (20000 < l0_3.length)) a0_0 a0_1 l0_2 l0_3)) else (some false))
end Go.Proofs.YtkknkdmdglncoaaDoor.XA
end

section
namespace Go.Proofs.YtkknkdmdglncoaaDoor.SaidProgChecks
open Go.RowKit Go.Proofs.YtkknkdmdglncoaaDoorW.PrintWords Go.Proofs.YtkknkdmdglncoaaDoorW.PrintLast Go.Proofs.YtkknkdmdglncoaaDoor.Opn Go.Proofs.YtkknkdmdglncoaaDoor.XA
set_option linter.unusedVariables false
/-- What is known of whatever is read at this type. -/
def wfS37 (x : S37) : Prop := (Lit.int .i64 x.f0).wf = true ∧ (Lit.int .i64 x.f1).wf = true ∧ (Lit.int .i64 x.f2).wf = true ∧ (Lit.int .i64 x.f3).wf = true ∧ (Lit.int .i64 x.f4).wf = true
theorem opnS37 : Opn Tryd.prog 37 k37 wfS37 := opn_iso (fun x : S37 => (x.f0, x.f1, x.f2, x.f3, x.f4)) (fun p => ⟨p.1, p.2.1, p.2.2.1, p.2.2.2.1, p.2.2.2.2⟩) (fun _ => rfl) (opn_struct Tryd.underlying37 (by kernel_rfl) (fs_cons rfl (by kernel_rfl) (opn_int Tryd.underlying3) (fs_cons rfl (by kernel_rfl) (opn_int Tryd.underlying3) (fs_cons rfl (by kernel_rfl) (opn_int Tryd.underlying3) (fs_cons rfl (by kernel_rfl) (opn_int Tryd.underlying3) (fs_one rfl (by kernel_rfl) (opn_int Tryd.underlying3)))))))
/-- What is known of whatever is read at this type. -/
def wfS25 (x : S25) : Prop := (Lit.int .i64 x.f0).wf = true ∧ (Lit.int .i64 x.f1).wf = true ∧ (x.f2.length * 40 ≤ 140737488351232 ∧ x.f2.length ≤ 9223372036854775807 ∧ ∀ y ∈ x.f2, wfS37 y) ∧ (x.f3.length * 8 ≤ 140737488351232 ∧ x.f3.length ≤ 9223372036854775807 ∧ ∀ y ∈ x.f3, (Lit.int .i64 y).wf = true)
theorem opnS25 : Opn Tryd.prog 25 k25 wfS25 := opn_iso (fun x : S25 => (x.f0, x.f1, x.f2, x.f3)) (fun p => ⟨p.1, p.2.1, p.2.2.1, p.2.2.2⟩) (fun _ => rfl) (opn_struct Tryd.underlying25 (by kernel_rfl) (fs_cons rfl (by kernel_rfl) (opn_int Tryd.underlying3) (fs_cons rfl (by kernel_rfl) (opn_int Tryd.underlying3) (fs_cons rfl (by kernel_rfl) (opn_slice (B := 40) Tryd.underlying22 (by kernel_rfl) (by kernel_rfl) (opnS37)) (fs_one rfl (by kernel_rfl) (opn_slice (B := 8) Tryd.underlying23 (by kernel_rfl) (by kernel_rfl) (opn_int Tryd.underlying3)))))))
/-- THE PURE STATEMENT. -/
def Pure : Prop := ∀ (x0 : S25), wfS25 x0 → ∃ k, swagelaw08_ProgChecks.f k x0.f0 x0.f1 x0.f2 x0.f3 = some true
end Go.Proofs.YtkknkdmdglncoaaDoor.SaidProgChecks
end

section
/- Rounds that suffice: words beside the printer's 'Ev'. -/
namespace Go.Proofs.YtkknkdmdglncoaaDoor.Evs
open Go.Proofs.YtkknkdmdglncoaaDoorW.PrintWords
section
variable {β : Type} {c : Prop} [Decidable c] {f g : Nat → Option β} {r : β}
theorem ev_pos (hc : c) (h : Ev f r) : Ev (fun n => if c then f n else g n) r := Ev.congr (fun _ => if_pos hc) h
theorem ev_neg (hc : ¬ c) (h : Ev g r) : Ev (fun n => if c then f n else g n) r := Ev.congr (fun _ => if_neg hc) h
end
end Go.Proofs.YtkknkdmdglncoaaDoor.Evs
end

section
/- Which programs may be, over lists: what both sides compute. -/
namespace Go.Proofs.YtkknkdmdglncoaaDoor.PlainProg
open Go.RowKit Go.Proofs.YtkknkdmdglncoaaDoorW.PrintWords Go.Proofs.YtkknkdmdglncoaaDoorW.PrintLast Go.Proofs.YtkknkdmdglncoaaDoor.XA Go.Proofs.YtkknkdmdglncoaaDoor.Evs
set_option linter.unusedVariables false
set_option linter.unusedSimpArgs false
theorem dec_iff {p q : Prop} [Decidable p] [Decidable q] (h : p ↔ q) : decide p = decide q := by
  by_cases hp : p
  · rw [decide_eq_true hp, decide_eq_true (h.1 hp)]
  · rw [decide_eq_false hp, decide_eq_false (fun hq => hp (h.2 hq))]
theorem wrapNext {j n : Nat} (h : j < n) (hn : n ≤ 4611686018427387904) : wrap64 ((j : Int) + 1) = ((j + 1 : Nat) : Int) := by unfold wrap64; omega
def ConstP (op c : Int) : Prop := (op = 5 ∨ op = 6 → ¬ c = 0 ∧ -512 ≤ c ∧ c ≤ 512) ∧ (op = 7 ∨ op = 8 → 1 ≤ c ∧ c ≤ 64) ∧ (¬ (op = 5 ∨ op = 6) ∧ ¬ (op = 7 ∨ op = 8) → c = 0)
instance (op c : Int) : Decidable (ConstP op c) := by unfold ConstP; exact inferInstance
def asks (op a b : Int) : List Int := if op = 3 ∨ op = 4 then [a, b] else if 1 ≤ op ∧ op ≤ 8 then [a] else []
def MayP (op t a b c regs : Int) : Prop := (1 ≤ op ∧ op ≤ 8) ∧ (0 ≤ t ∧ t < regs) ∧ (0 ≤ a ∧ a < regs) ∧ (op = 3 ∨ op = 4 → 0 ≤ b ∧ b < regs) ∧ (¬ (op = 3 ∨ op = 4) → b = 0) ∧ ConstP op c
instance (op t a b c regs : Int) : Decidable (MayP op t a b c regs) := by unfold MayP; exact inferInstance
theorem asks_at (k : Nat) (op t a b c : Int) : prog_Asks.f (k + 1) op t a b c = some (asks op a b) := by
  unfold prog_Asks.f asks
  rw [prog_Asks.j0, prog_Asks.j0]
  by_cases hr : 1 ≤ op ∧ op ≤ 8
  · have : op = 1 ∨ op = 2 ∨ op = 3 ∨ op = 4 ∨ op = 5 ∨ op = 6 ∨ op = 7 ∨ op = 8 := by omega
    rcases this with rfl | rfl | rfl | rfl | rfl | rfl | rfl | rfl <;> rfl
  · rw [if_neg (show ¬ op = 3 by omega), beq_eq_false_iff_ne.2 (show ¬ op = 4 by omega), if_neg (by decide), if_neg (show ¬ op = 1 by omega), if_neg (show ¬ op = 2 by omega), if_neg (show ¬ op = 5 by omega), if_neg (show ¬ op = 6 by omega), if_neg (show ¬ op = 7 by omega), if_neg (show ¬ op = 8 by omega), if_neg (show ¬ (op = 3 ∨ op = 4) by omega), if_neg hr]
/-- Whether an instruction may be. -/
def mayb (regs : Int) (i : S37) : Bool := decide (MayP i.f0 i.f1 i.f2 i.f3 i.f4 regs)
def Head (ins regs : Int) (code : List S37) (outs : List Int) : Prop := (1 ≤ ins ∧ ins ≤ regs) ∧ regs ≤ 128 ∧ code.length ≤ 16384 ∧ 1 ≤ outs.length ∧ outs.length ≤ 128
instance (ins regs : Int) (code : List S37) (outs : List Int) : Decidable (Head ins regs code outs) := by unfold Head; exact inferInstance
theorem live_at : swagelaw08_live.f 12 = some true := by decide +kernel
theorem live_ev : Ev (fun k => swagelaw08_live.f k) true := Ev.of (fun k => swagelaw08_live.mono k) live_at
end Go.Proofs.YtkknkdmdglncoaaDoor.PlainProg
end

section
/- Two programs, one behind the other, and depths, over lists. -/
namespace Go.Proofs.YtkknkdmdglncoaaDoor.PlainJoin
open Go.RowKit Go.Proofs.YtkknkdmdglncoaaDoorW.PrintWords Go.Proofs.YtkknkdmdglncoaaDoorW.PrintLast Go.Proofs.YtkknkdmdglncoaaDoorW.PrintMore Go.Proofs.YtkknkdmdglncoaaDoor.XA Go.Proofs.YtkknkdmdglncoaaDoor.PlainProg Go.Proofs.YtkknkdmdglncoaaDoor.Evs
set_option linter.unusedVariables false
set_option linter.unusedSimpArgs false
theorem wr {x : Int} (h1 : -9223372036854775808 ≤ x) (h2 : x ≤ 9223372036854775807) : wrap64 x = x := by unfold wrap64; omega
section
variable {x0 x1 : Int} {x2 : List S37} {x3 : List Int} {q0 q1 : Int} {q2 : List S37} {q3 : List Int} {y0 y1 : Int} {acc : List S37}
end
theorem clone_at (l : List S37) (h : l.length ≤ 20000) : api_Instr_41.f l = some l := by
  unfold api_Instr_41.f
  simp only [Option.bind_some]
  rw [if_pos (by simp; omega)]; rfl
structure Rt (a : S25) : Prop where
  h : Head a.f0 a.f1 a.f2 a.f3
  o : ∀ r ∈ a.f3, 0 ≤ r ∧ r < a.f1
  c : ∀ i ∈ a.f2, mayb a.f1 i = true
/- depths -/
def mxs (deep : List Int) (l : List Int) (d : Int) : Int := l.foldl (fun m r => mx m (rd deep r)) d
def stp (deep : List Int) (i : S37) : List Int := deep.set i.f1.toNat (wrap64 (mxs deep (asks i.f0 i.f2 i.f3) 0 + 1))
def dpr (deep : List Int) (code : List S37) : List Int := code.foldl stp deep
def dp (a : S25) : List Int := dpr (List.replicate a.f1.toNat 0) a.f2
def depth (a : S25) : Int := mxs (dp a) a.f3 0
section
variable {x0 x1 : Int} {x2 : List S37} {x3 : List Int}
end
/- the same -/
section
variable {a0 a1 : Int} {c : List S37} {o : List Int}
end
theorem long_at (a : S25) : swagelaw08_long.f a.f0 a.f1 a.f2 a.f3 = some (decide (a.f2.length > 400 ∨ a.f3.length > 400)) := by
  unfold swagelaw08_long.f
  by_cases h : (a.f2.length : Int) > 400
  · rw [if_pos h, decide_eq_true (by omega)]
  · rw [if_neg h]
    exact congrArg some (dec_iff (by omega))
end Go.Proofs.YtkknkdmdglncoaaDoor.PlainJoin
end

section
/- Two programs are one: what prog.Same and the document's answer tell. -/
namespace Go.Proofs.YtkknkdmdglncoaaDoor.PlainSame
open Go.RowKit Go.Proofs.YtkknkdmdglncoaaDoorW.PrintWords Go.Proofs.YtkknkdmdglncoaaDoorW.PrintLast Go.Proofs.YtkknkdmdglncoaaDoorW.PrintMore Go.Proofs.YtkknkdmdglncoaaDoor.XA Go.Proofs.YtkknkdmdglncoaaDoor.Evs
set_option linter.unusedVariables false
theorem wrapNext {j n : Nat} (h : j < n) (hn : n ≤ 4611686018427387904) : wrap64 ((j : Int) + 1) = ((j + 1 : Nat) : Int) := by unfold wrap64; omega
deriving instance DecidableEq for S37
/-- A loop that goes through two lists as long as each other, as long as they are alike. -/
theorem eqloop {α : Type} [DecidableEq α] {l : Nat → Int → Option Bool} {x y : List α} {R : Bool} (d : α) (hlen : x.length = y.length) (hb : x.length ≤ 4611686018427387904)
    (hstep : ∀ (k j : Nat), j < x.length → l (k + 1) (j : Int) = if x.getD j d = y.getD j d then l k (wrap64 ((j : Int) + 1)) else some false)
    (hend : ∃ K, ∀ k, K ≤ k → l k (x.length : Int) = some R) :
    ∀ m j : Nat, j + m = x.length → ∃ K, ∀ k, K ≤ k → l k (j : Int) = some (decide (x.drop j = y.drop j) && R) := by
  intro m
  induction m with
  | zero =>
    intro j hj
    obtain rfl : j = x.length := by omega
    obtain ⟨K, h⟩ := hend
    refine ⟨K, fun k hk => ?_⟩
    rw [h k hk, List.drop_length, List.drop_eq_nil_of_le (by omega)]
    simp
  | succ m ih =>
    intro j hj
    have hlt : j < x.length := by omega
    have hlt2 : j < y.length := by omega
    obtain ⟨K, h⟩ := ih (j + 1) (by omega)
    refine ⟨K + 1, fun k hk => ?_⟩
    obtain ⟨k, rfl⟩ : ∃ q, k = q + 1 := ⟨k - 1, by omega⟩
    rw [hstep k j hlt, List.drop_eq_getElem_cons hlt, List.drop_eq_getElem_cons hlt2, List.getD_eq_getElem?_getD, List.getD_eq_getElem?_getD, List.getElem?_eq_getElem hlt, List.getElem?_eq_getElem hlt2]
    simp only [Option.getD_some, List.cons.injEq]
    by_cases he : x[j] = y[j]
    · rw [if_pos he, wrapNext hlt hb, h k (by omega)]
      simp [he]
    · rw [if_neg he]
      simp [he]
theorem s37_ne (p q : S37) : ((!(p.f0 == q.f0) || (!(p.f1 == q.f1) || (!(p.f2 == q.f2) || (!(p.f3 == q.f3) || (!(p.f4 == q.f4)))))) = true) = ¬ p = q := by
  cases p with | mk p0 p1 p2 p3 p4 => cases q with | mk q0 q1 q2 q3 q4 =>
  simp only [S37.mk.injEq, Bool.or_eq_true, Bool.not_eq_true', beq_eq_false_iff_ne, ne_eq, eq_iff_iff]
  by_cases h0 : p0 = q0 <;> by_cases h1 : p1 = q1 <;> by_cases h2 : p2 = q2 <;> by_cases h3 : p3 = q3 <;> by_cases h4 : p4 = q4 <;> simp [h0, h1, h2, h3, h4]
theorem ints_ev {x y : List Int} (hb : x.length ≤ 4611686018427387904) : Ev (fun k => slices_Equal_int_int.f k x y) (decide (x = y)) := by
  unfold slices_Equal_int_int.f
  by_cases hl : (x.length : Int) = (y.length : Int)
  · refine ev_pos hl ?_
    have := eqloop (l := fun k i => slices_Equal_int_int.l0 k x y (x.length : Int) i) (x := x) (y := y) (R := true) 0 (by omega) hb
      (fun k j hj => by
        simp only [slices_Equal_int_int.l0]
        rw [if_pos (by omega), if_pos (by omega), if_pos (by omega), if_pos (by omega)]
        rfl)
      ⟨1, fun k hk => by obtain ⟨k, rfl⟩ : ∃ q, k = q + 1 := ⟨k - 1, by omega⟩; simp only [slices_Equal_int_int.l0]; rw [if_neg (by omega)]⟩ x.length 0 (by omega)
    simp only [List.drop_zero, Bool.and_true] at this
    exact this
  · refine ev_neg hl ?_
    have hne : x ≠ y := fun h => hl (by rw [h])
    rw [decide_eq_false hne]
    exact Ev.now _
theorem instrs_ev {x y : List S37} (hb : x.length ≤ 4611686018427387904) : Ev (fun k => api_Instr_39.f k x y) (decide (x = y)) := by
  unfold api_Instr_39.f
  by_cases hl : (x.length : Int) = (y.length : Int)
  · refine ev_pos hl ?_
    have := eqloop (l := fun k i => api_Instr_39.l0 k x y (x.length : Int) i) (x := x) (y := y) (R := true) z37 (by omega) hb
      (fun k j hj => by
        simp only [api_Instr_39.l0, s37_ne]
        rw [if_pos (by omega), if_pos (by omega), if_pos (by omega), if_pos (by omega)]
        show (if ¬ x.getD j z37 = y.getD j z37 then _ else _) = _
        rw [ite_not])
      ⟨1, fun k hk => by obtain ⟨k, rfl⟩ : ∃ q, k = q + 1 := ⟨k - 1, by omega⟩; simp only [api_Instr_39.l0]; rw [if_neg (by omega)]⟩ x.length 0 (by omega)
    simp only [List.drop_zero, Bool.and_true] at this
    exact this
  · refine ev_neg hl ?_
    have hne : x ≠ y := fun h => hl (by rw [h])
    rw [decide_eq_false hne]
    exact Ev.now _
/-- Two programs are one. -/
def psame (a0 a1 : Int) (c : List S37) (o : List Int) (b0 b1 : Int) (d : List S37) (p : List Int) : Bool := decide (a0 = b0) && (decide (a1 = b1) && (decide (c = d) && decide (o = p)))
section
variable {a0 a1 b0 b1 : Int} {c d : List S37} {o p : List Int}
theorem psame_ev (hc : c.length ≤ 4611686018427387904) (ho : o.length ≤ 4611686018427387904) : Ev (fun k => prog_Same.f k a0 a1 c o b0 b1 d p) (psame a0 a1 c o b0 b1 d p) := by
  unfold prog_Same.f psame
  by_cases h0 : a0 = b0
  · refine ev_pos h0 ?_
    by_cases h1 : a1 = b1
    · refine ev_pos h1 ?_
      rw [decide_eq_true h0, decide_eq_true h1, Bool.true_and, Bool.true_and]
      refine Ev.bind (instrs_ev hc) ?_
      by_cases h2 : c = d
      · rw [decide_eq_true h2, Bool.true_and]
        exact ev_pos rfl (Ev.bind (ints_ev ho) (Ev.now _))
      · rw [decide_eq_false h2, Bool.false_and]
        exact ev_neg (by decide) (Ev.now _)
    · refine ev_neg h1 ?_
      rw [decide_eq_false h1, Bool.false_and, Bool.and_false]
      exact Ev.now _
  · refine ev_neg h0 ?_
    rw [decide_eq_false h0, Bool.false_and]
    exact Ev.now _
theorem rsame_l1 (hl : o.length = p.length) (ho : o.length ≤ 4611686018427387904) : Ev (fun k => swageref08_Same.l1 k 0 a0 a1 c o b0 b1 d p) (decide (o = p)) := by
  have := eqloop (l := fun k i => swageref08_Same.l1 k i a0 a1 c o b0 b1 d p) (x := o) (y := p) (R := true) 0 hl ho
    (fun k j hj => by
      simp only [swageref08_Same.l1]
      rw [if_pos (by omega), if_pos (by omega), if_pos (by omega)]
      rfl)
    ⟨1, fun k hk => by obtain ⟨k, rfl⟩ : ∃ q, k = q + 1 := ⟨k - 1, by omega⟩; simp only [swageref08_Same.l1]; rw [if_neg (by omega)]⟩ o.length 0 (by omega)
  simp only [List.drop_zero, Bool.and_true] at this
  exact this
theorem rsame_l0 (hl : o.length = p.length) (hc2 : c.length = d.length) (hc : c.length ≤ 4611686018427387904) (ho : o.length ≤ 4611686018427387904) : Ev (fun k => swageref08_Same.l0 k 0 a0 a1 c o b0 b1 d p) (decide (c = d) && decide (o = p)) := by
  obtain ⟨K, hK⟩ := rsame_l1 (a0 := a0) (a1 := a1) (b0 := b0) (b1 := b1) (c := c) (d := d) hl ho
  have := eqloop (l := fun k i => swageref08_Same.l0 k i a0 a1 c o b0 b1 d p) (x := c) (y := d) (R := decide (o = p)) z37 hc2 hc
    (fun k j hj => by
      simp only [swageref08_Same.l0, s37_ne]
      rw [if_pos (by omega), if_pos (by omega), if_pos (by omega)]
      show (if ¬ c.getD j z37 = d.getD j z37 then _ else _) = _
      rw [ite_not])
    ⟨K + 1, fun k hk => by obtain ⟨k, rfl⟩ : ∃ q, k = q + 1 := ⟨k - 1, by omega⟩; simp only [swageref08_Same.l0]; rw [if_neg (by omega)]; exact hK k (by omega)⟩ c.length 0 (by omega)
  simp only [List.drop_zero] at this
  exact this
theorem rsame_ev (hc : c.length ≤ 4611686018427387904) (ho : o.length ≤ 4611686018427387904) : Ev (fun k => swageref08_Same.f k a0 a1 c o b0 b1 d p) (psame a0 a1 c o b0 b1 d p) := by
  have hj : Ev (fun k => swageref08_Same.j0 k true a0 a1 c o b0 b1 d p) false := ⟨1, fun k hk => by obtain ⟨k, rfl⟩ : ∃ q, k = q + 1 := ⟨k - 1, by omega⟩; simp only [swageref08_Same.j0]; rw [if_pos trivial]⟩
  unfold swageref08_Same.f psame
  by_cases h0 : a0 = b0
  · refine ev_pos h0 ?_
    by_cases h1 : a1 = b1
    · refine ev_pos h1 ?_
      rw [decide_eq_true h0, decide_eq_true h1, Bool.true_and, Bool.true_and]
      by_cases h2 : (c.length : Int) = (d.length : Int)
      · refine ev_pos h2 ?_
        by_cases h3 : (o.length : Int) = (p.length : Int)
        · obtain ⟨K, hK⟩ := rsame_l0 (a0 := a0) (a1 := a1) (b0 := b0) (b1 := b1) (c := c) (d := d) (o := o) (p := p) (by omega) (by omega) hc ho
          refine ⟨K + 1, fun k hk => ?_⟩
          obtain ⟨k, rfl⟩ : ∃ q, k = q + 1 := ⟨k - 1, by omega⟩
          simp only [swageref08_Same.j0]
          rw [if_neg (by simpa using h3)]
          exact hK k (by omega)
        · have hne : o ≠ p := fun h => h3 (by rw [h])
          rw [decide_eq_false hne, Bool.and_false, show ((o.length : Int) != (p.length : Int)) = true by simpa using h3]
          exact hj
      · refine ev_neg h2 ?_
        have hne : c ≠ d := fun h => h2 (by rw [h])
        rw [decide_eq_false hne, Bool.false_and]
        exact hj
    · refine ev_neg h1 ?_
      rw [decide_eq_false h1, Bool.false_and, Bool.and_false]
      exact hj
  · refine ev_neg h0 ?_
    rw [decide_eq_false h0, Bool.false_and]
    exact hj
end
theorem psame_self (a0 a1 : Int) (c : List S37) (o : List Int) : psame a0 a1 c o a0 a1 c o = true := by simp [psame]
end Go.Proofs.YtkknkdmdglncoaaDoor.PlainSame
end

section
/- The law ProgCopies, over lists. -/
namespace Go.Proofs.YtkknkdmdglncoaaDoor.Pure
open Go.RowKit Go.Proofs.YtkknkdmdglncoaaDoorW.PrintWords Go.Proofs.YtkknkdmdglncoaaDoorW.PrintLast Go.Proofs.YtkknkdmdglncoaaDoor.XA Go.Proofs.YtkknkdmdglncoaaDoor.SaidProgCopies Go.Proofs.YtkknkdmdglncoaaDoor.PlainProg Go.Proofs.YtkknkdmdglncoaaDoor.PlainJoin Go.Proofs.YtkknkdmdglncoaaDoor.PlainSame Go.Proofs.YtkknkdmdglncoaaDoor.Evs Go.Proofs.YtkknkdmdglncoaaDoor.Cop
set_option linter.unusedVariables false
theorem refasks_at (k : Nat) (op t a b c : Int) : swageref08_Asks.f (k + 1) op t a b c = some (asks op a b) := by
  unfold swageref08_Asks.f asks
  by_cases h3 : op = 3
  · rw [if_pos h3, if_pos (Or.inl h3)]
    simp [swageref08_Asks.j0]
  · rw [if_neg h3]
    by_cases h4 : op = 4
    · rw [if_pos (Or.inr h4), show (op == 4) = true by simpa using h4]
      simp [swageref08_Asks.j0]
    · rw [if_neg (by omega), show (op == 4) = false by simpa using h4]
      simp only [swageref08_Asks.j0]
      rw [if_neg (by decide)]
      by_cases h1 : op ≥ 1
      · rw [if_pos h1]
        by_cases h8 : op ≤ 8
        · rw [if_pos h8, if_pos ⟨h1, h8⟩]
        · rw [if_neg h8, if_neg (by omega)]
      · rw [if_neg h1, if_neg (by omega)]
theorem asks_all (k : Nat) (l : List S37) : l.all (asksOk (k + 1)) = true := by
  rw [List.all_eq_true]
  intro x _
  unfold asksOk
  rw [asks_at, refasks_at]
  simp
theorem cloneI_at (l : List Int) (h : l.length ≤ 20000) : slices_Clone_int_int.f l = some l := by
  unfold slices_Clone_int_int.f
  rw [Option.bind_some, if_pos (by rw [List.length_nil]; omega), List.nil_append]
theorem ProgCopies : SaidProgCopies.Pure := by
  intro a b hx hy
  have hl : a.f2.length ≤ 4611686018427387904 := by have := hx.2.2.1.1; omega
  have ho : a.f3.length ≤ 4611686018427387904 := by have := hx.2.2.2.1; omega
  apply Ev.rounds
  unfold swagelaw08_ProgCopies.f pcop
  refine Ev.bind live_ev (ev_pos rfl ?_)
  rw [long_at, long_at]
  by_cases h1 : a.f2.length > 400 ∨ a.f3.length > 400
  · rw [decide_eq_true h1]; exact Ev.bind (Ev.now true) (ev_pos rfl (Ev.now _))
  rw [decide_eq_false h1]
  refine Ev.bind (Ev.now false) (ev_neg (by decide) ?_)
  by_cases h2 : b.f2.length > 400 ∨ b.f3.length > 400
  · rw [decide_eq_true h2]; exact Ev.bind (Ev.now true) (ev_pos rfl (Ev.now _))
  rw [decide_eq_false h2]
  refine Ev.bind (Ev.now false) (ev_neg (by decide) ?_)
  have hself : Ev (fun k => prog_Same.f k a.f0 a.f1 a.f2 a.f3 a.f0 a.f1 a.f2 a.f3) true := by
    have := psame_ev (a0 := a.f0) (a1 := a.f1) (c := a.f2) (o := a.f3) (b0 := a.f0) (b1 := a.f1) (d := a.f2) (p := a.f3) hl ho
    rwa [psame_self] at this
  have rself : Ev (fun k => swageref08_Same.f k a.f0 a.f1 a.f2 a.f3 a.f0 a.f1 a.f2 a.f3) true := by
    have := rsame_ev (a0 := a.f0) (a1 := a.f1) (c := a.f2) (o := a.f3) (b0 := a.f0) (b1 := a.f1) (d := a.f2) (p := a.f3) hl ho
    rwa [psame_self] at this
  refine Ev.bind (rsame_ev hl ho) (Ev.bind (psame_ev hl ho) (ev_pos rfl (Ev.bind hself (ev_pos rfl ?_))))
  have hrc : swageref08_Copy.f a.f0 a.f1 a.f2 a.f3 = some (a.f0, a.f1, a.f2, a.f3) := by
    unfold swageref08_Copy.f
    rw [if_pos (by rw [List.length_nil]; omega), if_pos (by rw [List.length_nil]; omega), List.nil_append, List.nil_append]
  have hpc : prog_Copy.f a.f0 a.f1 a.f2 a.f3 = some (a.f0, a.f1, a.f2, a.f3) := by
    unfold prog_Copy.f
    rw [clone_at _ (by omega), Option.bind_some, cloneI_at _ (by omega), Option.bind_some]
  have rest : Ev (fun k => (swageref08_Copy.f a.f0 a.f1 a.f2 a.f3).bind fun o => (prog_Copy.f a.f0 a.f1 a.f2 a.f3).bind fun c =>
      (swageref08_Same.f k c.1 c.2.1 c.2.2.1 c.2.2.2 a.f0 a.f1 a.f2 a.f3).bind fun t1 => if t1 = true then
        (swageref08_Same.f k a.f0 a.f1 a.f2 a.f3 o.1 o.2.1 o.2.2.1 o.2.2.2).bind fun t2 => if t2 = true then some true else none
      else none) true := by
    rw [hrc, hpc]
    exact Ev.bind (Ev.now _) (Ev.bind (Ev.now _) (Ev.bind rself (ev_pos rfl (Ev.bind rself (ev_pos rfl (Ev.now _))))))
  obtain ⟨K, hK⟩ := rest
  refine ⟨K + 1, fun k hk => ?_⟩
  obtain ⟨k, rfl⟩ : ∃ q, k = q + 1 := ⟨k - 1, by omega⟩
  show (if a.f2.all (asksOk (k + 1)) = true then _ else none) = some true
  rw [if_pos (asks_all k _)]
  exact hK (k + 1) (by omega)
end Go.Proofs.YtkknkdmdglncoaaDoor.Pure
end

section
/- The row and the card of the law ProgCopies, for every input: out of the pure statement and the walk. No condition. -/
namespace Go.Proofs.YtkknkdmdglncoaaDoor.progCopies
open Go.ChangeShapes Go.WideShapes Go.ChangeAt Go.RowKit Go.Proofs.YtkknkdmdglncoaaDoorW.PrintWords Go.Proofs.YtkknkdmdglncoaaDoor.Opn Go.Proofs.YtkknkdmdglncoaaDoor.XA Go.Proofs.YtkknkdmdglncoaaDoor.SaidProgCopies
open Go.ChangeMaps (open_string shut_string)
set_option linter.unusedVariables false
theorem own : ownKnob Tryd.prog.godebug = none := by kernel_rfl
theorem laidOut : laidOutB Tryd.prog = true := by kernel_rfl
set_option maxRecDepth 100000 in
theorem contract (H : Type) (enc : TypeId × Value → H) (W : World) (base : Nat) (args : Array Value) (ds gs : List (DataW H)) (before : List MemPlace)
    (hval0 : ∀ (j : Nat) t v, Tryd.f5.params[j]? = some t → args[j]? = some v → Value.okWide Tryd.prog W .any base t v)
    (hW : DataW.Whole enc Tryd.prog Tryd.f5.params.toList Rows.progCopiesSpec.vars false W args.toList ds gs before)
    (hsz0 : (DataW.weightsEach Tryd.prog (Tryd.f5.params.toList ++ Rows.progCopiesSpec.plain.varTypes Tryd.prog) (ds ++ gs)).all (· ≤ reachBytes) = true) :
    Calls Tryd.prog 5 args W fun e W' => ∃ v, e = .returned v ∧ Rows.progCopiesSpec.post enc Tryd.prog Tryd.f5 false true false false W args v W' := by
  have hsz : (DataW.weightsEach Tryd.prog (Tryd.f5.params.toList ++ Rows.progCopiesSpec.plain.varTypes Tryd.prog) (ds ++ gs)).all (· ≤ reachBytes) = true := hsz0
  have hval : ∀ (j : Nat) t v, Tryd.f5.params[j]? = some t → args[j]? = some v → Value.okWide Tryd.prog W .any base t v := hval0
  have hW' := hW
  obtain ⟨p, q, hA0, hV, rfl, hfz, hnd⟩ := hW
  have hA : DataW.TrodAll enc Tryd.prog W 0 (fun _ => true) true Tryd.f5.params.toList args.toList ds p := hA0
  rw [Tryd.params5] at hA hval hsz
  obtain ⟨v0, vs0, d0, ds0, p0, q0, hargs, rfl, rfl, h0, r0⟩ := trodAll_cons hA
  obtain ⟨v1, vs1, d1, ds1, p1, q1, rfl, rfl, rfl, h1, r1⟩ := trodAll_cons r0
  obtain ⟨rfl, rfl, rfl⟩ := trodAll_nil r1
  obtain rfl : args = #[v0, v1] := by cases args; simp_all
  obtain ⟨rfl, rfl⟩ := trodVars_none hV
  have lt0 := trod_lt h0
  obtain ⟨⟨cs0⟩, rfl, _⟩ := okWide_struct Tryd.underlying25 (hval 0 25 v0 rfl rfl)
  obtain ⟨x0, hK00, w0⟩ := opened (opnS25) hsz (j := 0) (t := 25) rfl rfl h0
  have hK0 : k25.K W x0 cs0 := hK00
  clear hK00
  obtain ⟨_, _, rfl, rfl, ⟨_, _, rfl, rfl, ⟨_, _, rfl, ⟨A0_2, c0_2, rfl, hl0_2, hC0_2⟩, ⟨A0_3, c0_3, rfl, hl0_3, hC0_3⟩⟩⟩⟩ := hK0
  have lt1 := trod_lt h1
  obtain ⟨⟨cs1⟩, rfl, _⟩ := okWide_struct Tryd.underlying25 (hval 1 25 v1 rfl rfl)
  obtain ⟨x1, hK01, w1⟩ := opened (opnS25) hsz (j := 1) (t := 25) rfl rfl h1
  have hK1 : k25.K W x1 cs1 := hK01
  clear hK01
  obtain ⟨_, _, rfl, rfl, ⟨_, _, rfl, rfl, ⟨_, _, rfl, ⟨A1_2, c1_2, rfl, hl1_2, hC1_2⟩, ⟨A1_3, c1_3, rfl, hl1_3, hC1_3⟩⟩⟩⟩ := hK1
  clear hA0 hval0 hsz0 hsz
  obtain ⟨k, h⟩ := Pure.ProgCopies x0 x1 w0 w1
  refine (swagelaw08_ProgCopies.calls k x0.f0 x0.f1 A0_2 c0_2 x0.f2 A0_3 c0_3 x0.f3 x1.f0 x1.f1 A1_2 c1_2 x1.f2 A1_3 c1_3 x1.f3 true W hC0_2 hl0_2 hC0_3 hl0_3 hC1_2 hl1_2 hC1_3 hl1_3 h).mono fun e W' he_ => ?_
  obtain ⟨rfl, bel⟩ := he_
  exact ⟨_, rfl, _, _, _, [], _, [], hW', trodAll_mk1 (shut_bool Tryd.underlying4 _), (trodAll_cons_mk (Below.trod laidOut (by kernel_rfl) (of_decide_eq_true (by kernel_rfl)) h0 bel lt0) (trodAll_cons_mk (Below.trod laidOut (by kernel_rfl) (of_decide_eq_true (by kernel_rfl)) h1 bel lt1) trodAll_mk0)), rfl, bel.frame _, fun h => by cases h⟩
/-- The cells of a datum that is whole numbers and structs of them. -/
def flat : Nat → DataW Unit → List Value
  | 0, _ => []
  | _ + 1, .lit (.int k n) => [.int k n]
  | m + 1, .agg l => (l.map (flat m)).flatten
  | _ + 1, _ => []
/-- A world for the witness: the settled one, the listed variables holding what they hold. -/
noncomputable def laidWorld (os : Os) : World :=
  { World.holding Tryd.prog os ⟨#[], #[], []⟩ with heap := ((((World.holding Tryd.prog os ⟨#[], #[], []⟩).heap.modify ((Tryd.prog.globalNamed "math/bits.deBruijn32tab").getD 0) fun
      | .cells _ t frozen => .cells (flat 5 Rows.laid_math_bits_deBruijn32tab).toArray t frozen
      | o => o).modify ((Tryd.prog.globalNamed "math/bits.deBruijn64tab").getD 0) fun
      | .cells _ t frozen => .cells (flat 5 Rows.laid_math_bits_deBruijn64tab).toArray t frozen
      | o => o).modify ((Tryd.prog.globalNamed "internal/strconv.uint64pow10").getD 0) fun
      | .cells _ t frozen => .cells (flat 5 Rows.laid_internal_strconv_uint64pow10).toArray t frozen
      | o => o) }
theorem laid_met (os : Os) : laidMet Tryd.prog Rows.progCopiesRow.laid ((laidWorld os).forCall (fun _ _ => 0) ⟨#[], #[.agg #[.int .i64 0, .int .i64 0, .slice none 0 0, .slice none 0 0], .agg #[.int .i64 0, .int .i64 0, .slice none 0 0, .slice none 0 0]], []⟩).memory :=
  laidMet_of_run' 8 (by kernel_rfl) (by kernel_rfl)
theorem reads (os : Os) {H : Type} (enc : TypeId × Value → H) : ∃ places, DataW.whole enc Tryd.prog ((laidWorld os).forCall (fun _ _ => 0) ⟨#[], #[.agg #[.int .i64 0, .int .i64 0, .slice none 0 0, .slice none 0 0], .agg #[.int .i64 0, .int .i64 0, .slice none 0 0, .slice none 0 0]], []⟩).memory Tryd.f5.params.toList Rows.progCopiesSpec.vars false (#[.agg #[.int .i64 0, .int .i64 0, .slice none 0 0, .slice none 0 0], .agg #[.int .i64 0, .int .i64 0, .slice none 0 0, .slice none 0 0]] : Array Value).toList 8 = some ([.agg [.lit (.int .i64 0), .lit (.int .i64 0), .nil, .nil], .agg [.lit (.int .i64 0), .lit (.int .i64 0), .nil, .nil]], [], places) :=
  ⟨[], by kernel_rfl⟩
set_option maxRecDepth 100000 in
theorem lifted (os : Os) (started : os.Started) (H : Type) (enc : TypeId × Value → H) (F : Stop.Interp) :
    ReturnsInHanded {} Tryd.checked os 5 .any ((OpenSpec.ofChange Rows.progCopiesSpec).preRow enc Tryd.prog Tryd.f5 Rows.progCopiesRow.domain false Rows.progCopiesRow.laid) (((OpenSpec.ofChange Rows.progCopiesSpec).at F).post enc Tryd.prog Tryd.f5 false true false false) := by
  obtain ⟨places, hx⟩ := reads os enc
  refine returnsInHanded_of_row (C := Tryd.checked) (s := OpenSpec.ofChange Rows.progCopiesSpec) own started (by kernel_rfl) Tryd.func5
    (witness_row_at (enc := enc) (C := Tryd.checked) false (laidWorld os) #[.agg #[.int .i64 0, .int .i64 0, .slice none 0 0, .slice none 0 0], .agg #[.int .i64 0, .int .i64 0, .slice none 0 0, .slice none 0 0]] rfl (by kernel_rfl) (by kernel_rfl) (by kernel_rfl)
      (OpenSpec.preRow_of_cond 8 hx (by kernel_rfl) (fun k hk => by cases hk) (by kernel_rfl) (laid_met os))) ?_
  intro W base args ds gs before hval hW _ _ hsz _ _ _
  exact contract H enc W base args ds gs before hval hW hsz
theorem said : Rows.ProgCopiesSaid :=
  OpenClaim.holds_of_cond 5 Tryd.f5 rfl rfl rfl rfl rfl rfl rfl ⟨rfl, rfl, rfl, rfl, rfl⟩ rfl rfl rfl rfl rfl (by kernel_rfl) Tryd.func5 (by kernel_rfl)
    (of_decide_eq_true (by kernel_rfl)) (by unfold Func.isWrapper; first | (rw [if_pos (by decide +kernel)]; kernel_rfl) | (rw [if_neg (by decide +kernel)]; exact ⟨rfl, rfl⟩))
    (fun os started H enc _ F => by rw [OpenClaim.pre_eq_preRow]; exact lifted os started H enc F)
theorem plain (f : FuncId) (fn : Func) (hf : Tryd.pinned.checked.prog.funcNamed "swage/swagelaw08.ProgCopies" = some f) (hfn : Tryd.pinned.checked.prog.funcs[f]? = some fn) :
    true = Tryd.pinned.checked.prog.looks [] ∧ ∀ (j : Nat) t, fn.params[j]? = some t → Tryd.pinned.checked.prog.wantsStandIn t = false := by
  obtain rfl : f = 5 := Option.some.inj ((show Tryd.prog.funcNamed "swage/swagelaw08.ProgCopies" = some 5 by kernel_rfl).symm.trans hf) |>.symm
  obtain rfl : fn = Tryd.f5 := (Option.some.inj (Tryd.func5.symm.trans hfn)).symm
  refine ⟨by kernel_rfl, fun j t ht => ?_⟩
  rw [Tryd.params5] at ht
  have hm := Array.mem_of_getElem? ht
  have hall : (([25, 25] : List Nat).all fun t => !Tryd.prog.wantsStandIn t) = true := by kernel_rfl
  have := List.all_eq_true.1 hall t (by simpa using hm)
  exact (by simpa using this : Tryd.prog.wantsStandIn t = false)
theorem card : Rows.ProgCopiesCardSaid :=
  Claim7.holds_tied_plain_at .later [] _ _ _ _ said (fun _ h => by cases h) (by kernel_rfl) (fun _ h => by cases h) progCopies_row_tie rfl ⟨rfl, rfl⟩ (by kernel_rfl) rfl plain (by kernel_rfl)
#print axioms card
end Go.Proofs.YtkknkdmdglncoaaDoor.progCopies
namespace Go.Proofs.YtkknkdmdglncoaaDoor
/-- The card, under a short name, for the claim. -/
theorem progCopies_holds : Rows.ProgCopiesCardSaid := progCopies.card
end Go.Proofs.YtkknkdmdglncoaaDoor
end
