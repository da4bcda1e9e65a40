/- Part 10 of the proof of the law PointAll for every input: words, walks and plain laws. No condition. -/
import Derived.Test.YtfkjmmpolingbaaRows
import Derived.WalkKit
import Derived.ProofKit
import Derived.OpenShut
import Derived.ShutString
import Derived.ChangeOld
import Derived.Below
import Derived.SizedLaws
import Derived.Test.YtfkjmmpolingbaaKPointAll9
section
namespace Go.Proofs.Ytfkjmmpolingbaa.XA
open Go.RowKit Go.Proofs.YtfkjmmpolingbaaW.PrintWords Go.Proofs.YtfkjmmpolingbaaW.PrintLast Go.Proofs.YtfkjmmpolingbaaW.PrintMore
attribute [local go_sem] max2_int min2_int max_two min_two max_three min_three max_four min_four   -- for this text's walks alone
set_option linter.unusedVariables false
set_option linter.unusedSimpArgs false

/-! ### point_Twins: function 19 -/
mutual
def point_Twins.l0 : Nat → List (S23) → List (S23) → Int → Int → Option (Int × Int × Bool)
  | 0, _, _, _, _ => none
  | k + 1, x0, x11, x12, x13 => if x13 < x12 then (if 0 ≤ x13 then (if x13 < (x11.length : Int) then (if x13 ≤ (x0.length : Int) then ((some (x0.take (x13 : Int).toNat : List (S23))).bind fun y179 => (point_Twins.l1 k x0 x13 x11 x12 x13 y179 (y179.length : Int) 0 ((rd_T23 x11 x13).f0) ((rd_T23 x11 x13).f1))) else (none)) else (none)) else (none)) else (some (0, 0, false))
def point_Twins.l1 : Nat → List (S23) → Int → List (S23) → Int → Int → List (S23) → Int → Int → Int → Int → Option (Int × Int × Bool)
  | 0, _, _, _, _, _, _, _, _, _, _ => none
  | k + 1, x0, x5, x11, x12, x13, x20, x21, x22, x179000, x179001 => if x22 < x21 then (if 0 ≤ x22 then (if x22 < (x20.length : Int) then ((point_One.f k ((rd_T23 x20 x22).f0) ((rd_T23 x20 x22).f1) x179000 x179001).bind fun bt185 => (if bt185.1 = true then (some (x22, x5, true)) else (point_Twins.l1 k x0 x5 x11 x12 x13 x20 x21 (wrap64 (x22 + 1)) x179000 x179001))) else (none)) else (none)) else (point_Twins.l0 k x0 x11 x12 (wrap64 (x13 + 1)))
end
def point_Twins.f (k : Nat) (l0 : List (S23)) : Option (Int × Int × Bool) := point_Twins.l0 k l0 l0 (l0.length : Int) 0
end Go.Proofs.Ytfkjmmpolingbaa.XA
end

section
namespace Go.Proofs.Ytfkjmmpolingbaa.XA
open Go.RowKit Go.Proofs.YtfkjmmpolingbaaW.PrintWords Go.Proofs.YtfkjmmpolingbaaW.PrintLast Go.Proofs.YtfkjmmpolingbaaW.PrintMore
attribute [local go_sem] max2_int min2_int max_two min_two max_three min_three max_four min_four   -- for this text's walks alone
set_option linter.unusedVariables false
set_option linter.unusedSimpArgs false

/-! ### swageref06_Twins: function 20 -/
mutual
def swageref06_Twins.l0 : Nat → List (S23) → Int → Option (Int × Int × Bool)
  | 0, _, _ => none
  | k + 1, x0, x5 => if x5 < (x0.length : Int) then (swageref06_Twins.l1 k x0 x5 0) else (some (0, 0, false))
def swageref06_Twins.l1 : Nat → List (S23) → Int → Int → Option (Int × Int × Bool)
  | 0, _, _, _ => none
  | k + 1, x0, x5, x6 => if x6 < x5 then (if 0 ≤ x6 then (if x6 < (x0.length : Int) then ((swageref06_In.f ((rd_T23 x0 x6).f0) ((rd_T23 x0 x6).f1)).bind fun t188 => (if t188 = true then (if 0 ≤ x5 then (if x5 < (x0.length : Int) then ((swageref06_In.f ((rd_T23 x0 x5).f0) ((rd_T23 x0 x5).f1)).bind fun t190 => (if t190 = true then ((swageref06_One.f k ((rd_T23 x0 x6).f0) ((rd_T23 x0 x6).f1) ((rd_T23 x0 x5).f0) ((rd_T23 x0 x5).f1)).bind fun t193 => (if t193 = true then (some (x6, x5, true)) else (swageref06_Twins.l1 k x0 x5 (wrap64 (x6 + 1))))) else (swageref06_Twins.l1 k x0 x5 (wrap64 (x6 + 1))))) else (none)) else (none)) else (swageref06_Twins.l1 k x0 x5 (wrap64 (x6 + 1))))) else (none)) else (none)) else (swageref06_Twins.l0 k x0 (wrap64 (x5 + 1)))
end
def swageref06_Twins.f (k : Nat) (l0 : List (S23)) : Option (Int × Int × Bool) := swageref06_Twins.l0 k l0 0
end Go.Proofs.Ytfkjmmpolingbaa.XA
end

section
namespace Go.Proofs.Ytfkjmmpolingbaa.XA
open Go.RowKit Go.Proofs.YtfkjmmpolingbaaW.PrintWords Go.Proofs.YtfkjmmpolingbaaW.PrintLast Go.Proofs.YtfkjmmpolingbaaW.PrintMore
attribute [local go_sem] max2_int min2_int max_two min_two max_three min_three max_four min_four   -- for this text's walks alone
set_option linter.unusedVariables false
set_option linter.unusedSimpArgs false

/-! ### swagelaw06_PointTwins: function 4 -/
def swagelaw06_PointTwins.f (k : Nat) (l0 : List (S23)) : Option (Bool) := (swagelaw06_live.f k).bind fun t194 => (if t194 = true then (if (l0.length : Int) > 300 then (some true) else ((point_Twins.f k l0).bind fun bt195 => ((swageref06_Twins.f k l0).bind fun bt198 => (if bt195.1 = bt198.1 then (if bt195.2.1 = bt198.2.1 then (if (bt195.2.2 == bt198.2.2) = true then ((swagelaw06_live.f k).bind fun t201 => (some t201)) else (some false)) else (some false)) else (some false))))) else (some false))
end Go.Proofs.Ytfkjmmpolingbaa.XA
end

section
namespace Go.Proofs.Ytfkjmmpolingbaa.SaidPointTwins
open Go.RowKit Go.Proofs.YtfkjmmpolingbaaW.PrintWords Go.Proofs.YtfkjmmpolingbaaW.PrintLast Go.Proofs.Ytfkjmmpolingbaa.Opn Go.Proofs.Ytfkjmmpolingbaa.XA
set_option linter.unusedVariables false
/-- What is known of whatever is read at this type. -/
def wfS23 (x : S23) : Prop := (Lit.int .i64 x.f0).wf = true ∧ (Lit.int .i64 x.f1).wf = true
/-- THE PURE STATEMENT. -/
def Pure : Prop := ∀ (x0 : List (S23)), (x0.length * 16 ≤ 140737488351232 ∧ x0.length ≤ 9223372036854775807 ∧ ∀ y ∈ x0, wfS23 y) → ∃ k, swagelaw06_PointTwins.f k x0 = some true
end Go.Proofs.Ytfkjmmpolingbaa.SaidPointTwins
end

section
/- Points: what the printed functions come to, by numbers alone. -/
namespace Go.Proofs.Ytfkjmmpolingbaa.PlainPoint
open Go.RowKit Go.Proofs.YtfkjmmpolingbaaW.PrintWords Go.Proofs.YtfkjmmpolingbaaW.PrintLast Go.Proofs.Ytfkjmmpolingbaa.XA
set_option linter.unusedVariables false
set_option linter.unusedSimpArgs false

def inR (a b : Int) : Bool := decide (-16 ≤ a) && (decide (a ≤ 16) && (decide (-16 ≤ b) && decide (b ≤ 16)))
theorem inR_iff {a b : Int} : inR a b = true ↔ -16 ≤ a ∧ a ≤ 16 ∧ -16 ≤ b ∧ b ≤ 16 := by simp [inR]

theorem in_at (a b : Int) : point_In.f a b = some (inR a b) := by
  unfold point_In.f point_within.f inR
  by_cases h1 : -16 ≤ a <;> by_cases h2 : a ≤ 16 <;> by_cases h3 : -16 ≤ b <;> by_cases h4 : b ≤ 16 <;> simp [h1, h2, h3, h4]
/-- The norm, as it is reckoned. -/
def nrm (a b : Int) : Int × Int := (point_norm.f 60 a b).getD (0, 0)
def fac (a b : Int) : Int := if (nrm a b).1 = 0 then (if (nrm a b).2 = 0 then 0 else a + b / (nrm a b).2) else a / (nrm a b).1
def chk (a b : Int) : Bool :=
  point_norm.f 60 a b == some (nrm a b) && (swageref06_Norm.f 60 a b == some (nrm a b) && (inR (nrm a b).1 (nrm a b).2 && (point_norm.f 60 (nrm a b).1 (nrm a b).2 == some (nrm a b) &&
    (if a == 0 && b == 0 then nrm a b == (0, 0) else
      fac a b != 0 && (a == fac a b * (nrm a b).1 && (b == fac a b * (nrm a b).2 && (Int.gcd (nrm a b).1 (nrm a b).2 == 1 && (decide (0 < (nrm a b).2) || ((nrm a b).2 == 0 && decide (0 < (nrm a b).1))))))))))
theorem all_chk : ((List.range 33).all fun i => (List.range 33).all fun j => chk ((i : Int) - 16) ((j : Int) - 16)) = true := by decide +kernel
theorem chk_of {a b : Int} (h : inR a b = true) : chk a b = true := by
  obtain ⟨h1, h2, h3, h4⟩ := inR_iff.1 h
  have h0 := List.all_eq_true.1 all_chk (a + 16).toNat (by simp; omega)
  have h5 := List.all_eq_true.1 h0 (b + 16).toNat (by simp; omega)
  rw [show (((a + 16).toNat : Nat) : Int) - 16 = a by omega, show (((b + 16).toNat : Nat) : Int) - 16 = b by omega] at h5
  exact h5

theorem norm60 {a b : Int} (h : inR a b = true) : point_norm.f 60 a b = some (nrm a b) := by
  have := chk_of h
  simp only [chk, Bool.and_eq_true, beq_iff_eq] at this
  exact this.1
theorem norm_at {a b : Int} (h : inR a b = true) {k : Nat} (hk : 60 ≤ k) : point_norm.f k a b = some (nrm a b) := at_rounds (fun k => point_norm.mono a b k) hk (norm60 h)
/-- Are two points one? -/
def one (a b c d : Int) : Bool := (nrm a b).1 == (nrm c d).1 && (nrm a b).2 == (nrm c d).2
theorem Norm_at {a b : Int} (h : inR a b = true) {k : Nat} (hk : 60 ≤ k) : point_Norm.f k a b = some ((nrm a b).1, (nrm a b).2, 0) := by
  unfold point_Norm.f
  rw [in_at, h]
  simp [norm_at h hk]
theorem nrm46 : nrm 4 (-6) = (-2, 3) := by decide +kernel
theorem live_at {k : Nat} (hk : 60 ≤ k) : swagelaw06_live.f k = some true := by
  unfold swagelaw06_live.f
  rw [Norm_at (by decide) hk, nrm46]
  rfl
end Go.Proofs.Ytfkjmmpolingbaa.PlainPoint
end

section
/- The law PointAll, over numbers and lists: the reference's norms are those that the iterator hands out. -/
namespace Go.Proofs.Ytfkjmmpolingbaa.Pure
open Go.RowKit Go.Proofs.YtfkjmmpolingbaaW.PrintWords Go.Proofs.YtfkjmmpolingbaaW.PrintLast Go.Proofs.Ytfkjmmpolingbaa.XA Go.Proofs.Ytfkjmmpolingbaa.PlainPoint Go.Proofs.Ytfkjmmpolingbaa.Ring Go.Proofs.Ytfkjmmpolingbaa.SaidPointAll
set_option linter.unusedVariables false
set_option maxRecDepth 100000 in
theorem all16 : ((List.range 17).all fun n => n == 0 || ((swageref06_All.f 2500 (n : Int)).map (fun l => l.map toP)) == some (allL n)) = true := by decide +kernel
theorem PointAll : SaidPointAll.Pure := by
  intro x0 x1 _ _
  refine ⟨2500, ?_⟩
  unfold swagelaw06_PointAll.f pall
  rw [live_at (by omega), Option.bind_some, if_pos rfl]
  by_cases h1 : x0 < 1
  · have e : swageref06_All.f 2500 x0 = some [] := by unfold swageref06_All.f; rw [if_pos h1]; simp [swageref06_All.j0]
    rw [e, Option.bind_some, if_pos (by unfold allL; rw [if_pos h1]; rfl)]
  · by_cases h2 : 16 < x0
    · have e : swageref06_All.f 2500 x0 = some [] := by unfold swageref06_All.f; rw [if_neg h1, decide_eq_true (show x0 > 16 from h2)]; simp [swageref06_All.j0]
      rw [e, Option.bind_some, if_pos (by unfold allL; rw [if_neg h1, if_pos h2]; rfl)]
    · obtain ⟨n, rfl⟩ : ∃ n : Nat, x0 = n := ⟨x0.toNat, by omega⟩
      have h := List.all_eq_true.1 all16 n (by simp; omega)
      have hn : (n == 0) = false := by simp; omega
      rw [hn, Bool.false_or, beq_iff_eq] at h
      obtain ⟨l, hl, he⟩ := Option.map_eq_some_iff.1 h
      rw [hl, Option.bind_some, if_pos he]
end Go.Proofs.Ytfkjmmpolingbaa.Pure
end

section
/- The row of the law PointAll, for every input: out of the pure statement and the walk. No condition. -/
namespace Go.Proofs.Ytfkjmmpolingbaa.pointAll
open Go.ChangeShapes Go.WideShapes Go.ChangeAt Go.RowKit Go.Proofs.YtfkjmmpolingbaaW.PrintWords Go.Proofs.Ytfkjmmpolingbaa.Opn Go.Proofs.Ytfkjmmpolingbaa.XA Go.Proofs.Ytfkjmmpolingbaa.SaidPointAll
open Go.ChangeMaps (open_string shut_string)
set_option linter.unusedVariables false
theorem own : ownKnob Try.prog.godebug = none := by kernel_rfl
set_option maxRecDepth 100000 in
theorem lifted (os : Os) (started : os.Started) (H : Type) (enc : TypeId × Value → H) :
    ReturnsInHanded {} Try.checked os 6 .any (Rows.pointAllSpec.pre6 enc Try.prog Try.f6 Rows.pointAllRow.domain false) (Rows.pointAllSpec.post enc Try.prog Try.f6 false true false false) := by
  refine returnsInHanded_of_change_sized (C := Try.checked) own started (by kernel_rfl) Try.func6
    (ChangeSpec.witness6 (enc := enc) (C := Try.checked) false ⟨#[], #[.int .i64 0, .int .i64 0], []⟩ 8 (by kernel_rfl) (by kernel_rfl) (by kernel_rfl) (by kernel_rfl)) ?_
  intro W base args ds gs before hval0 hW hcnd hsz0 _
  have hsz : (DataW.weightsEach Try.prog (Try.f6.params.toList ++ Rows.pointAllSpec.plain.varTypes Try.prog) (ds ++ gs)).all (· ≤ reachBytes) = true := hsz0
  have hval : ∀ (j : Nat) t v, Try.f6.params[j]? = some t → args[j]? = some v → Value.okWide Try.prog W .any base t v := hval0
  have hW' := hW
  obtain ⟨p, q, hA0, hV, rfl, hfz, hnd⟩ := hW
  have hA : DataW.TrodAll enc Try.prog W 0 (fun _ => true) true Try.f6.params.toList args.toList ds p := hA0
  rw [Try.params6] at hA hval hsz
  obtain ⟨v0, vs0, d0, ds0, p0, q0, hargs, rfl, rfl, h0, r0⟩ := trodAll_cons hA
  obtain ⟨v1, vs1, d1, ds1, p1, q1, rfl, rfl, rfl, h1, r1⟩ := trodAll_cons r0
  obtain ⟨rfl, rfl, rfl⟩ := trodAll_nil r1
  obtain rfl : args = #[v0, v1] := by cases args; simp_all
  obtain ⟨rfl, rfl⟩ := trodVars_none hV
  obtain ⟨a0, rfl, rfl, rfl, w0⟩ := open_int Try.underlying3 (hval 0 3 v0 rfl rfl) h0
  obtain ⟨a1, rfl, rfl, rfl, w1⟩ := open_int Try.underlying3 (hval 1 3 v1 rfl rfl) h1
  clear hA0 hval0 hsz0 hsz
  obtain ⟨k, h⟩ := Pure.PointAll a0 a1 w0 w1
  refine (swagelaw06_PointAll.calls k a0 a1 true W h).mono fun e W' he_ => ?_
  obtain ⟨rfl, bel⟩ := he_
  exact ⟨_, rfl, _, _, _, [], _, [], hW', trodAll_mk1 (shut_bool Try.underlying4 _), (trodAll_cons_mk (shut_int Try.underlying3 w0) (trodAll_cons_mk (shut_int Try.underlying3 w1) trodAll_mk0)), rfl, bel.frame _, fun h => by cases h⟩
theorem over : Rows.pointAllRow.holds Try.pinned (OpenSpec.ofChange Rows.pointAllSpec) :=
  OpenClaim.holds_of_wide 6 Try.f6 rfl rfl rfl rfl rfl rfl rfl ⟨rfl, rfl, rfl, rfl, rfl⟩ rfl rfl rfl rfl rfl (by kernel_rfl) Try.func6 (by kernel_rfl)
    (of_decide_eq_true (by kernel_rfl)) (by unfold Func.isWrapper; first | (rw [if_pos (by decide +kernel)]; kernel_rfl) | (rw [if_neg (by decide +kernel)]; exact ⟨rfl, rfl⟩))
    (fun os started H enc _ => lifted os started H enc)
theorem proved : Rows.PointAllSaid := over
#print axioms proved
end Go.Proofs.Ytfkjmmpolingbaa.pointAll
namespace Go.Proofs.Ytfkjmmpolingbaa
/-- The row, under a short name, for the claim. -/
theorem pointAll_holds : Rows.PointAllSaid := pointAll.proved
end Go.Proofs.Ytfkjmmpolingbaa
end
