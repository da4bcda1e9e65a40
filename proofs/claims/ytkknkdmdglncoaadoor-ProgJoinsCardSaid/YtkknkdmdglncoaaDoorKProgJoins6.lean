/- Part 6 of the proof of the law ProgJoins for every input: words, walks and plain laws. No condition. -/
import Derived.Test.YtkknkdmdglncoaaDoorCards
import Derived.Test.YtkknkdmdglncoaaDoorTie
import Derived.Deep.DeepHandedRow
import Derived.Test.YtkknkdmdglncoaaDoorRows
import Derived.WalkKit
import Derived.ProofKit
import Derived.OpenShut
import Derived.ShutString
import Derived.ChangeOld
import Derived.Below
import Derived.SizedLaws
import Derived.Test.YtkknkdmdglncoaaDoorKProgJoins5
section
/- Which programs may be, over lists: what both sides compute. -/
namespace Go.Proofs.YtkknkdmdglncoaaDoor.PlainProg
open Go.RowKit Go.Proofs.YtkknkdmdglncoaaDoorW.PrintWords Go.Proofs.YtkknkdmdglncoaaDoorW.PrintLast Go.Proofs.YtkknkdmdglncoaaDoor.XA Go.Proofs.YtkknkdmdglncoaaDoor.Evs
set_option linter.unusedVariables false
set_option linter.unusedSimpArgs false
theorem dec_iff {p q : Prop} [Decidable p] [Decidable q] (h : p ↔ q) : decide p = decide q := by
  by_cases hp : p
  · rw [decide_eq_true hp, decide_eq_true (h.1 hp)]
  · rw [decide_eq_false hp, decide_eq_false (fun hq => hp (h.2 hq))]
theorem wrapNext {j n : Nat} (h : j < n) (hn : n ≤ 4611686018427387904) : wrap64 ((j : Int) + 1) = ((j + 1 : Nat) : Int) := by unfold wrap64; omega
theorem drop_rd {l : List Int} {j : Nat} (h : j < l.length) : l.drop j = rd l j :: l.drop (j + 1) := by
  rw [List.drop_eq_getElem_cons h]
  simp [rd, List.getD_eq_getElem?_getD, List.getElem?_eq_getElem h]
theorem drop_rdT {l : List S37} {j : Nat} (h : j < l.length) : l.drop j = rd_T37 l j :: l.drop (j + 1) := by
  rw [List.drop_eq_getElem_cons h]
  simp [rd_T37, List.getD_eq_getElem?_getD, List.getElem?_eq_getElem h]
def ConstP (op c : Int) : Prop := (op = 5 ∨ op = 6 → ¬ c = 0 ∧ -512 ≤ c ∧ c ≤ 512) ∧ (op = 7 ∨ op = 8 → 1 ≤ c ∧ c ≤ 64) ∧ (¬ (op = 5 ∨ op = 6) ∧ ¬ (op = 7 ∨ op = 8) → c = 0)
instance (op c : Int) : Decidable (ConstP op c) := by unfold ConstP; exact inferInstance
def asks (op a b : Int) : List Int := if op = 3 ∨ op = 4 then [a, b] else if 1 ≤ op ∧ op ≤ 8 then [a] else []
def MayP (op t a b c regs : Int) : Prop := (1 ≤ op ∧ op ≤ 8) ∧ (0 ≤ t ∧ t < regs) ∧ (0 ≤ a ∧ a < regs) ∧ (op = 3 ∨ op = 4 → 0 ≤ b ∧ b < regs) ∧ (¬ (op = 3 ∨ op = 4) → b = 0) ∧ ConstP op c
instance (op t a b c regs : Int) : Decidable (MayP op t a b c regs) := by unfold MayP; exact inferInstance
theorem two_at (op : Int) : prog_two.f op = some (decide (op = 3 ∨ op = 4)) := by
  unfold prog_two.f
  by_cases h3 : op = 3
  · rw [if_pos h3, decide_eq_true (.inl h3)]
  · rw [if_neg h3]
    by_cases h4 : op = 4
    · rw [decide_eq_true (.inr h4), h4]; rfl
    · rw [decide_eq_false (by omega), beq_eq_false_iff_ne.2 h4]
theorem asks_at (k : Nat) (op t a b c : Int) : prog_Asks.f (k + 1) op t a b c = some (asks op a b) := by
  unfold prog_Asks.f asks
  rw [prog_Asks.j0, prog_Asks.j0]
  by_cases hr : 1 ≤ op ∧ op ≤ 8
  · have : op = 1 ∨ op = 2 ∨ op = 3 ∨ op = 4 ∨ op = 5 ∨ op = 6 ∨ op = 7 ∨ op = 8 := by omega
    rcases this with rfl | rfl | rfl | rfl | rfl | rfl | rfl | rfl <;> rfl
  · rw [if_neg (show ¬ op = 3 by omega), beq_eq_false_iff_ne.2 (show ¬ op = 4 by omega), if_neg (by decide), if_neg (show ¬ op = 1 by omega), if_neg (show ¬ op = 2 by omega), if_neg (show ¬ op = 5 by omega), if_neg (show ¬ op = 6 by omega), if_neg (show ¬ op = 7 by omega), if_neg (show ¬ op = 8 by omega), if_neg (show ¬ (op = 3 ∨ op = 4) by omega), if_neg hr]
theorem range_at (c l h : Int) : (if c ≥ l then some (decide (c ≤ h)) else some false) = some (decide (l ≤ c ∧ c ≤ h)) := by
  by_cases hl : c ≥ l
  · rw [if_pos hl]; exact congrArg some (dec_iff (by omega))
  · rw [if_neg hl, decide_eq_false (by omega)]
theorem const_at (k : Nat) (op t a b c : Int) : prog_constant.f (k + 1) op t a b c = some (decide (ConstP op c)) := by
  unfold prog_constant.f
  rw [prog_constant.j0, prog_constant.j0]
  have h1 : op = 5 ∨ op = 6 → (if c = 0 then some false else (if c ≥ (-512) then (some (decide (c ≤ 512))) else (some false))) = some (decide (ConstP op c)) := by
    intro h
    by_cases h0 : c = 0
    · rw [if_pos h0, decide_eq_false (by unfold ConstP; omega)]
    · rw [if_neg h0, range_at]; exact congrArg some (dec_iff (by unfold ConstP; omega))
  have h2 : op = 7 ∨ op = 8 → (if c ≥ 1 then (some (decide (c ≤ 64))) else (some false)) = some (decide (ConstP op c)) := by
    intro h
    rw [range_at]; exact congrArg some (dec_iff (by unfold ConstP; omega))
  by_cases h5 : op = 5
  · rw [if_pos h5, h5, if_pos (by decide), ← h5]; exact h1 (.inl h5)
  · rw [if_neg h5]
    by_cases h6 : op = 6
    · rw [h6, if_pos (by decide), ← h6]; exact h1 (.inr h6)
    · rw [beq_eq_false_iff_ne.2 h6, if_neg (by decide)]
      by_cases h7 : op = 7
      · rw [if_pos h7]; exact h2 (.inl h7)
      · rw [if_neg h7]
        by_cases h8 : op = 8
        · rw [if_pos h8]; exact h2 (.inr h8)
        · rw [if_neg h8]
          have : (c == 0) = decide (c = 0) := rfl
          rw [this]
          exact congrArg some (dec_iff (by unfold ConstP; omega))
theorem mayl_at (regs : Int) (l : List Int) (hl : l.length ≤ 2) : ∀ k, prog_may.l0 (k + 3) regs l l.length 0 = some (l.all fun r => decide (0 ≤ r ∧ r < regs)) := by
  intro k
  have one : ∀ (r : Int) (X : Option Bool) (b : Bool), X = some b → (if r < 0 then (some false) else (if r ≥ regs then (some false) else X)) = some (decide (0 ≤ r ∧ r < regs) && b) := by
    intro r X b hX
    by_cases h0 : r < 0
    · rw [if_pos h0, decide_eq_false (by omega)]; rfl
    · rw [if_neg h0]
      by_cases h1 : r ≥ regs
      · rw [if_pos h1, decide_eq_false (by omega)]; rfl
      · rw [if_neg h1, decide_eq_true (by omega), hX]; rfl
  match l, hl with
  | [], _ => unfold prog_may.l0; rfl
  | [r], _ =>
    unfold prog_may.l0
    rw [if_pos (by simp), if_pos (by decide), if_pos (by simp)]
    refine (one _ _ true ?_).trans (by simp [rd])
    rw [show wrap64 (0 + 1) = 1 by unfold wrap64; omega]
    show prog_may.l0 (k + 2) regs [r] 1 1 = _
    unfold prog_may.l0; rfl
  | [r, s], _ =>
    unfold prog_may.l0
    rw [if_pos (by simp), if_pos (by decide), if_pos (by simp)]
    refine (one _ _ (decide (0 ≤ s ∧ s < regs)) ?_).trans (by simp [rd])
    rw [show wrap64 (0 + 1) = 1 by unfold wrap64; omega]
    show prog_may.l0 (k + 2) regs [r, s] 2 1 = _
    unfold prog_may.l0
    rw [if_pos (by decide), if_pos (by decide), if_pos (by simp)]
    refine (one _ _ true ?_).trans (by simp [rd])
    rw [show wrap64 (1 + 1) = 2 by unfold wrap64; omega]
    show prog_may.l0 (k + 1) regs [r, s] 2 2 = _
    unfold prog_may.l0; rfl
theorem may_at (k : Nat) (op t a b c regs : Int) : prog_may.f (k + 4) op t a b c regs = some (decide (MayP op t a b c regs)) := by
  have no : ∀ Y : Bool, prog_may.j0 (k + 4) regs true op t a b c = some false := fun _ => by rw [prog_may.j0]; rfl
  have go : 1 ≤ op ∧ op ≤ 8 → prog_may.j0 (k + 4) regs false op t a b c = some ((asks op a b).all fun r => decide (0 ≤ r ∧ r < regs)) := by
    intro h
    rw [prog_may.j0]
    rw [if_neg (by decide), asks_at]
    have : (asks op a b).length ≤ 2 := by unfold asks; split <;> (try split) <;> simp
    exact mayl_at regs _ this k
  unfold prog_may.f
  by_cases h1 : op < 1
  · rw [if_pos h1, no true, decide_eq_false (by unfold MayP; omega)]
  rw [if_neg h1]
  by_cases h2 : op > 8
  · rw [if_pos h2, no true, decide_eq_false (by unfold MayP; omega)]
  rw [if_neg h2]
  by_cases h3 : t < 0
  · rw [if_pos h3, no true, decide_eq_false (by unfold MayP; omega)]
  rw [if_neg h3]
  by_cases h4 : t ≥ regs
  · rw [if_pos h4, no true, decide_eq_false (by unfold MayP; omega)]
  rw [if_neg h4, two_at]
  simp only [Option.bind_some, const_at]
  have hop : 1 ≤ op ∧ op ≤ 8 := by omega
  by_cases h5 : op = 3 ∨ op = 4
  · rw [if_pos (decide_eq_true h5)]
    by_cases h6 : ConstP op c
    · rw [decide_eq_true h6]
      refine (go hop).trans (congrArg some ?_)
      unfold asks
      rw [if_pos h5]
      simp only [List.all_cons, List.all_nil, Bool.and_true]
      by_cases ha : 0 ≤ a ∧ a < regs
      · rw [decide_eq_true ha, Bool.true_and]
        refine dec_iff ?_
        unfold MayP
        exact ⟨fun h => ⟨hop, by omega, ha, fun _ => h, fun h' => absurd h5 h', h6⟩, fun h => h.2.2.2.1 h5⟩
      · rw [decide_eq_false ha, Bool.false_and, decide_eq_false (fun h : MayP op t a b c regs => ha h.2.2.1)]
    · rw [decide_eq_false h6]
      refine (no true).trans ?_
      rw [decide_eq_false (fun h : MayP op t a b c regs => h6 h.2.2.2.2.2)]
  · rw [if_neg (by rw [decide_eq_false h5]; decide)]
    by_cases h7 : b = 0
    · rw [if_pos h7]
      by_cases h6 : ConstP op c
      · rw [decide_eq_true h6]
        refine (go hop).trans (congrArg some ?_)
        unfold asks
        rw [if_neg h5, if_pos hop]
        simp only [List.all_cons, List.all_nil, Bool.and_true]
        refine dec_iff ?_
        unfold MayP
        exact ⟨fun h => ⟨hop, by omega, h, fun h' => absurd h' h5, fun _ => h7, h6⟩, fun h => h.2.2.1⟩
      · rw [decide_eq_false h6]
        refine (no true).trans ?_
        rw [decide_eq_false (fun h : MayP op t a b c regs => h6 h.2.2.2.2.2)]
    · rw [if_neg h7]
      refine (no true).trans ?_
      rw [decide_eq_false (fun h : MayP op t a b c regs => h7 (h.2.2.2.2.1 h5))]
theorem refmay_at (k : Nat) (op t a b c regs : Int) : swageref08_May.f (k + 4) op t a b c regs = some (decide (MayP op t a b c regs)) := by
  have no : swageref08_May.j0 (k + 4) regs true op t a b c = some false := by rw [swageref08_May.j0]; rfl
  unfold swageref08_May.f
  by_cases h1 : op < 1
  · rw [if_pos h1, no, decide_eq_false (by unfold MayP; omega)]
  rw [if_neg h1]
  by_cases h2 : op > 8
  · rw [if_pos h2, no, decide_eq_false (by unfold MayP; omega)]
  rw [if_neg h2]
  by_cases h3 : t < 0
  · rw [if_pos h3, no, decide_eq_false (by unfold MayP; omega)]
  rw [if_neg h3]
  by_cases h4 : t ≥ regs
  · rw [if_pos h4, no, decide_eq_false (by unfold MayP; omega)]
  rw [if_neg h4]
  by_cases h5 : a < 0
  · rw [if_pos h5, no, decide_eq_false (by unfold MayP; omega)]
  rw [if_neg h5]
  by_cases h6 : a ≥ regs
  · rw [decide_eq_true h6, no, decide_eq_false (by unfold MayP; omega)]
  rw [decide_eq_false h6]
  have two : op = 3 ∨ op = 4 → swageref08_May.j1 (k + 3) regs true op t a b c = some (decide (MayP op t a b c regs)) := by
    intro h
    rw [swageref08_May.j1]
    rw [if_pos rfl]
    by_cases g1 : b ≥ 0
    · rw [if_pos g1]
      by_cases g2 : b < regs
      · rw [if_pos g2]
        have : (c == 0) = decide (c = 0) := rfl
        rw [this]
        exact congrArg some (dec_iff (by unfold MayP ConstP; omega))
      · rw [if_neg g2, decide_eq_false (by unfold MayP; omega)]
    · rw [if_neg g1, decide_eq_false (by unfold MayP; omega)]
  have cst : ¬ (op = 3 ∨ op = 4) → b = 0 → decide (ConstP op c) = decide (MayP op t a b c regs) := by
    intro h hb
    exact dec_iff ⟨fun hc => ⟨by omega, by omega, by omega, fun h' => absurd h' h, fun _ => hb, hc⟩, fun hm => hm.2.2.2.2.2⟩
  rw [swageref08_May.j0]
  rw [if_neg (by decide)]
  by_cases h7 : op = 3
  · rw [if_pos h7]; exact two (.inl h7)
  rw [if_neg h7]
  by_cases h8 : op = 4
  · rw [beq_iff_eq.2 h8]; exact two (.inr h8)
  rw [beq_eq_false_iff_ne.2 h8]
  rw [swageref08_May.j1]
  rw [if_neg (by decide)]
  by_cases h9 : b = 0
  · rw [if_pos h9]
    have hn : ¬ (op = 3 ∨ op = 4) := by omega
    have b1 : op = 5 ∨ op = 6 → swageref08_May.j2 (k + 2) true op t a b c = some (decide (MayP op t a b c regs)) := by
      intro h
      rw [swageref08_May.j2]
      rw [if_pos rfl, ← cst hn h9]
      by_cases h0 : c = 0
      · rw [if_pos h0, decide_eq_false (by unfold ConstP; omega)]
      · rw [if_neg h0, range_at]; exact congrArg some (dec_iff (by unfold ConstP; omega))
    by_cases h10 : op = 5
    · rw [if_pos h10]; exact b1 (.inl h10)
    rw [if_neg h10]
    by_cases h11 : op = 6
    · rw [beq_iff_eq.2 h11]; exact b1 (.inr h11)
    rw [beq_eq_false_iff_ne.2 h11]
    rw [swageref08_May.j2]
    rw [if_neg (by decide), ← cst hn h9]
    by_cases h12 : op = 7
    · rw [if_pos h12, range_at]; exact congrArg some (dec_iff (by unfold ConstP; omega))
    rw [if_neg h12]
    by_cases h13 : op = 8
    · rw [if_pos h13, range_at]; exact congrArg some (dec_iff (by unfold ConstP; omega))
    rw [if_neg h13]
    have : (c == 0) = decide (c = 0) := rfl
    rw [this]
    exact congrArg some (dec_iff (by unfold ConstP; omega))
  · rw [if_neg h9, decide_eq_false (fun h : MayP op t a b c regs => h9 (h.2.2.2.2.1 (by omega)))]
/-- Whether an instruction may be. -/
def mayb (regs : Int) (i : S37) : Bool := decide (MayP i.f0 i.f1 i.f2 i.f3 i.f4 regs)
theorem may_ev (regs : Int) (i : S37) : Ev (fun k => prog_may.f k i.f0 i.f1 i.f2 i.f3 i.f4 regs) (mayb regs i) :=
  ⟨4, fun k hk => by obtain ⟨j, rfl⟩ : ∃ j, k = j + 4 := ⟨k - 4, by omega⟩; exact may_at j _ _ _ _ _ _⟩
theorem refmay_ev (regs : Int) (i : S37) : Ev (fun k => swageref08_May.f k i.f0 i.f1 i.f2 i.f3 i.f4 regs) (mayb regs i) :=
  ⟨4, fun k hk => by obtain ⟨j, rfl⟩ : ∃ j, k = j + 4 := ⟨k - 4, by omega⟩; exact refmay_at j _ _ _ _ _ _⟩
/-- The first instruction that may not be. -/
def bad (regs : Int) : List S37 → Nat → Option Nat
  | [], _ => none
  | i :: l, j => if mayb regs i = true then bad regs l (j + 1) else some j
def outsOk (regs : Int) (l : List Int) : Bool := l.all fun r => decide (0 ≤ r ∧ r < regs)
def Head (ins regs : Int) (code : List S37) (outs : List Int) : Prop := (1 ≤ ins ∧ ins ≤ regs) ∧ regs ≤ 128 ∧ code.length ≤ 16384 ∧ 1 ≤ outs.length ∧ outs.length ≤ 128
instance (ins regs : Int) (code : List S37) (outs : List Int) : Decidable (Head ins regs code outs) := by unfold Head; exact inferInstance
def codeOf (regs : Int) (code : List S37) (j : Nat) : Int × Bool := match bad regs (code.drop j) j with
  | none => (0, false)
  | some m => ((m : Int), true)
def chk (ins regs : Int) (code : List S37) (outs : List Int) : Int × Bool := if Head ins regs code outs then (if outsOk regs outs = true then codeOf regs code 0 else (-1, true)) else (-1, true)
def err (x : Int × Bool) : Int × Int := (x.1, if x.2 = true then 80 else 0)
theorem codeOf_step {regs : Int} {code : List S37} {j : Nat} (h : j < code.length) : codeOf regs code j = if mayb regs (rd_T37 code j) = true then codeOf regs code (j + 1) else ((j : Int), true) := by
  unfold codeOf
  rw [drop_rdT h, bad]
  by_cases hm : mayb regs (rd_T37 code j) = true
  · rw [if_pos hm, if_pos hm]
  · rw [if_neg hm, if_neg hm]
theorem codeOf_end {regs : Int} {code : List S37} : codeOf regs code code.length = (0, false) := by
  unfold codeOf
  rw [List.drop_length]
  rfl
theorem l1_ev {ins regs : Int} {code : List S37} {outs : List Int} (hl : code.length ≤ 4611686018427387904) : ∀ (m j : Nat), j + m = code.length → Ev (fun k => prog_Check.l1 k code code.length j ins regs code outs) (err (codeOf regs code j)) := by
  intro m
  induction m with
  | zero =>
    intro j hj
    obtain rfl : j = code.length := by omega
    rw [codeOf_end]
    refine Ev.step (f := fun _ => some (0, 0)) (fun k => ?_) (Ev.now _)
    simp only [prog_Check.l1]
    rw [if_neg (by omega)]
  | succ m ih =>
    intro j hj
    have hlt : j < code.length := by omega
    refine Ev.step (f := fun k => (prog_may.f k (rd_T37 code j).f0 (rd_T37 code j).f1 (rd_T37 code j).f2 (rd_T37 code j).f3 (rd_T37 code j).f4 regs).bind fun t => if t = true then prog_Check.l1 k code code.length ((j + 1 : Nat) : Int) ins regs code outs else some ((j : Int), 80)) (fun k => ?_) ?_
    · simp only [prog_Check.l1]
      rw [if_pos (by omega), if_pos (by omega), if_pos (by omega), wrapNext hlt hl]
    · refine Ev.bind (may_ev regs _) ?_
      rw [codeOf_step hlt]
      by_cases hm : mayb regs (rd_T37 code j) = true
      · rw [if_pos hm]
        exact ev_pos hm (ih (j + 1) (by omega))
      · rw [if_neg hm]
        exact ev_neg hm (Ev.now _)
theorem l0_ev {ins regs : Int} {code : List S37} {outs : List Int} (hl : code.length ≤ 4611686018427387904) (ho : outs.length ≤ 4611686018427387904) : ∀ (m j : Nat), j + m = outs.length → Ev (fun k => prog_Check.l0 k outs outs.length j ins regs code outs) (err (if outsOk regs (outs.drop j) = true then codeOf regs code 0 else (-1, true))) := by
  intro m
  induction m with
  | zero =>
    intro j hj
    obtain rfl : j = outs.length := by omega
    rw [List.drop_length, if_pos (show outsOk regs [] = true from rfl)]
    refine Ev.step (f := fun k => prog_Check.l1 k code code.length ((0 : Nat) : Int) ins regs code outs) (fun k => ?_) (l1_ev hl code.length 0 (by omega))
    simp only [prog_Check.l0]
    rw [if_neg (by omega)]
    rfl
  | succ m ih =>
    intro j hj
    have hlt : j < outs.length := by omega
    refine Ev.step (f := fun k => if rd outs j < 0 then some (-1, 80) else if rd outs j ≥ regs then some (-1, 80) else prog_Check.l0 k outs outs.length ((j + 1 : Nat) : Int) ins regs code outs) (fun k => ?_) ?_
    · simp only [prog_Check.l0]
      rw [if_pos (by omega), if_pos (by omega), if_pos (by omega), wrapNext hlt ho]
    · rw [drop_rd hlt]
      by_cases h0 : rd outs j < 0
      · refine ev_pos h0 ?_
        rw [if_neg (by simp [outsOk]; omega)]
        exact Ev.now _
      · refine ev_neg h0 ?_
        by_cases h1 : rd outs j ≥ regs
        · refine ev_pos h1 ?_
          rw [if_neg (by simp [outsOk]; omega)]
          exact Ev.now _
        · refine ev_neg h1 ?_
          have : outsOk regs (rd outs j :: outs.drop (j + 1)) = outsOk regs (outs.drop (j + 1)) := by
            unfold outsOk
            rw [List.all_cons, decide_eq_true (by omega), Bool.true_and]
          rw [this]
          exact ih (j + 1) (by omega)
theorem check_ev {ins regs : Int} {code : List S37} {outs : List Int} (hl : code.length ≤ 4611686018427387904) (ho : outs.length ≤ 4611686018427387904) : Ev (fun k => prog_Check.f k ins regs code outs) (err (chk ins regs code outs)) := by
  have no : ¬ Head ins regs code outs → Ev (fun k => prog_Check.j0 k true ins regs code outs) (err (chk ins regs code outs)) := by
    intro h
    unfold chk
    rw [if_neg h]
    exact Ev.step (f := fun _ => some (-1, 80)) (fun k => by simp only [prog_Check.j0]; rfl) (Ev.now _)
  unfold prog_Check.f
  by_cases h1 : ins < 1
  · exact ev_pos h1 (no (by unfold Head; omega))
  refine ev_neg h1 ?_
  by_cases h2 : ins > regs
  · exact ev_pos h2 (no (by unfold Head; omega))
  refine ev_neg h2 ?_
  by_cases h3 : regs > 128
  · exact ev_pos h3 (no (by unfold Head; omega))
  refine ev_neg h3 ?_
  by_cases h4 : (code.length : Int) > 16384
  · exact ev_pos h4 (no (by unfold Head; omega))
  refine ev_neg h4 ?_
  by_cases h5 : (outs.length : Int) < 1
  · exact ev_pos h5 (no (by unfold Head; omega))
  refine ev_neg h5 ?_
  by_cases h6 : 128 < outs.length
  · rw [decide_eq_true h6]; exact no (by unfold Head; omega)
  rw [decide_eq_false h6]
  unfold chk
  rw [if_pos (show Head ins regs code outs by unfold Head; omega)]
  refine Ev.step (f := fun k => prog_Check.l0 k outs outs.length ((0 : Nat) : Int) ins regs code outs) (fun k => by simp only [prog_Check.j0]; rfl) ?_
  exact l0_ev hl ho outs.length 0 (by omega)
theorem refl1_ev {ins regs : Int} {code : List S37} {outs : List Int} (hl : code.length ≤ 4611686018427387904) : ∀ (m j : Nat), j + m = code.length → Ev (fun k => swageref08_Check.l1 k j ins regs code outs) (codeOf regs code j) := by
  intro m
  induction m with
  | zero =>
    intro j hj
    obtain rfl : j = code.length := by omega
    rw [codeOf_end]
    refine Ev.step (f := fun _ => some (0, false)) (fun k => ?_) (Ev.now _)
    simp only [swageref08_Check.l1]
    rw [if_neg (by omega)]
  | succ m ih =>
    intro j hj
    have hlt : j < code.length := by omega
    refine Ev.step (f := fun k => (swageref08_May.f k (rd_T37 code j).f0 (rd_T37 code j).f1 (rd_T37 code j).f2 (rd_T37 code j).f3 (rd_T37 code j).f4 regs).bind fun t => if t = true then swageref08_Check.l1 k ((j + 1 : Nat) : Int) ins regs code outs else some ((j : Int), true)) (fun k => ?_) ?_
    · simp only [swageref08_Check.l1]
      rw [if_pos (by omega), if_pos (by omega), wrapNext hlt hl]
    · refine Ev.bind (refmay_ev regs _) ?_
      rw [codeOf_step hlt]
      by_cases hm : mayb regs (rd_T37 code j) = true
      · rw [if_pos hm]
        exact ev_pos hm (ih (j + 1) (by omega))
      · rw [if_neg hm]
        exact ev_neg hm (Ev.now _)
theorem refl0_ev {ins regs : Int} {code : List S37} {outs : List Int} (hl : code.length ≤ 4611686018427387904) (ho : outs.length ≤ 4611686018427387904) : ∀ (m j : Nat), j + m = outs.length → Ev (fun k => swageref08_Check.l0 k j ins regs code outs) (if outsOk regs (outs.drop j) = true then codeOf regs code 0 else (-1, true)) := by
  intro m
  induction m with
  | zero =>
    intro j hj
    obtain rfl : j = outs.length := by omega
    rw [List.drop_length, if_pos (show outsOk regs [] = true from rfl)]
    refine Ev.step (f := fun k => swageref08_Check.l1 k ((0 : Nat) : Int) ins regs code outs) (fun k => ?_) (refl1_ev hl code.length 0 (by omega))
    simp only [swageref08_Check.l0]
    rw [if_neg (by omega)]
    rfl
  | succ m ih =>
    intro j hj
    have hlt : j < outs.length := by omega
    refine Ev.step (f := fun k => if rd outs j < 0 then some (-1, true) else if rd outs j ≥ regs then some (-1, true) else swageref08_Check.l0 k ((j + 1 : Nat) : Int) ins regs code outs) (fun k => ?_) ?_
    · simp only [swageref08_Check.l0]
      rw [if_pos (by omega), if_pos (by omega), wrapNext hlt ho]
    · rw [drop_rd hlt]
      by_cases h0 : rd outs j < 0
      · refine ev_pos h0 ?_
        rw [if_neg (by simp [outsOk]; omega)]
        exact Ev.now _
      · refine ev_neg h0 ?_
        by_cases h1 : rd outs j ≥ regs
        · refine ev_pos h1 ?_
          rw [if_neg (by simp [outsOk]; omega)]
          exact Ev.now _
        · refine ev_neg h1 ?_
          have : outsOk regs (rd outs j :: outs.drop (j + 1)) = outsOk regs (outs.drop (j + 1)) := by
            unfold outsOk
            rw [List.all_cons, decide_eq_true (by omega), Bool.true_and]
          rw [this]
          exact ih (j + 1) (by omega)
theorem refcheck_ev {ins regs : Int} {code : List S37} {outs : List Int} (hl : code.length ≤ 4611686018427387904) (ho : outs.length ≤ 4611686018427387904) : Ev (fun k => swageref08_Check.f k ins regs code outs) (chk ins regs code outs) := by
  have no : ¬ Head ins regs code outs → Ev (fun k => swageref08_Check.j0 k true ins regs code outs) (chk ins regs code outs) := by
    intro h
    unfold chk
    rw [if_neg h]
    exact Ev.step (f := fun _ => some (-1, true)) (fun k => by simp only [swageref08_Check.j0]; rfl) (Ev.now _)
  unfold swageref08_Check.f
  by_cases h1 : ins < 1
  · exact ev_pos h1 (no (by unfold Head; omega))
  refine ev_neg h1 ?_
  by_cases h2 : ins > regs
  · exact ev_pos h2 (no (by unfold Head; omega))
  refine ev_neg h2 ?_
  by_cases h3 : regs > 128
  · exact ev_pos h3 (no (by unfold Head; omega))
  refine ev_neg h3 ?_
  by_cases h4 : (code.length : Int) > 16384
  · exact ev_pos h4 (no (by unfold Head; omega))
  refine ev_neg h4 ?_
  by_cases h5 : (outs.length : Int) < 1
  · exact ev_pos h5 (no (by unfold Head; omega))
  refine ev_neg h5 ?_
  by_cases h6 : 128 < outs.length
  · rw [decide_eq_true h6]; exact no (by unfold Head; omega)
  rw [decide_eq_false h6]
  unfold chk
  rw [if_pos (show Head ins regs code outs by unfold Head; omega)]
  refine Ev.step (f := fun k => swageref08_Check.l0 k ((0 : Nat) : Int) ins regs code outs) (fun k => by simp only [swageref08_Check.j0]; rfl) ?_
  exact refl0_ev hl ho outs.length 0 (by omega)
theorem right_ev {ins regs : Int} {code : List S37} {outs : List Int} (hl : code.length ≤ 4611686018427387904) (ho : outs.length ≤ 4611686018427387904) : Ev (fun k => prog_right.f k ins regs code outs) (!(chk ins regs code outs).2) := by
  unfold prog_right.f
  refine Ev.bind (check_ev hl ho) ?_
  unfold err
  cases (chk ins regs code outs).2 with
  | true => exact Ev.now _
  | false => exact Ev.now _
theorem live_at : swagelaw08_live.f 12 = some true := by decide +kernel
theorem live_ev : Ev (fun k => swagelaw08_live.f k) true := Ev.of (fun k => swagelaw08_live.mono k) live_at
end Go.Proofs.YtkknkdmdglncoaaDoor.PlainProg
end

section
/- Two programs, one behind the other, and depths, over lists. -/
namespace Go.Proofs.YtkknkdmdglncoaaDoor.PlainJoin
open Go.RowKit Go.Proofs.YtkknkdmdglncoaaDoorW.PrintWords Go.Proofs.YtkknkdmdglncoaaDoorW.PrintLast Go.Proofs.YtkknkdmdglncoaaDoorW.PrintMore Go.Proofs.YtkknkdmdglncoaaDoor.XA Go.Proofs.YtkknkdmdglncoaaDoor.PlainProg Go.Proofs.YtkknkdmdglncoaaDoor.Evs
set_option linter.unusedVariables false
set_option linter.unusedSimpArgs false
theorem wr {x : Int} (h1 : -9223372036854775808 ≤ x) (h2 : x ≤ 9223372036854775807) : wrap64 x = x := by unfold wrap64; omega
def mvs (regs : Int) (outs : List Int) (n : Nat) : List S37 := (List.range n).map fun (k : Nat) => (⟨1, wrap64 (regs + (k : Int)), rd outs (k : Int), 0, 0⟩ : S37)
theorem mvs_succ (regs : Int) (outs : List Int) (n : Nat) : mvs regs outs (n + 1) = mvs regs outs n ++ [(⟨1, wrap64 (regs + (n : Int)), rd outs (n : Int), 0, 0⟩ : S37)] := by
  unfold mvs
  rw [List.range_succ, List.map_append]; rfl
theorem mvs_len (regs : Int) (outs : List Int) (n : Nat) : (mvs regs outs n).length = n := by simp [mvs]
def mv (b : Int) (i : S37) : S37 := ⟨i.f0, wrap64 (i.f1 + b), wrap64 (i.f2 + b), if i.f0 = 3 ∨ i.f0 = 4 then wrap64 (i.f3 + b) else i.f3, i.f4⟩
theorem moved_at (i : S37) (b : Int) : prog_moved.f i.f0 i.f1 i.f2 i.f3 i.f4 b = some ((mv b i).f0, (mv b i).f1, (mv b i).f2, (mv b i).f3, (mv b i).f4) := by
  unfold prog_moved.f mv
  rw [two_at]
  by_cases h : i.f0 = 3 ∨ i.f0 = 4
  · rw [decide_eq_true h]
    rw [if_pos h]; rfl
  · rw [decide_eq_false h]
    rw [if_neg h]; rfl
def mvc (b : Int) (code : List S37) (n : Nat) : List S37 := (code.take n).map (mv b)
theorem mvc_succ {b : Int} {code : List S37} {n : Nat} (h : n < code.length) : mvc b code (n + 1) = mvc b code n ++ [mv b (rd_T37 code (n : Int))] := by
  unfold mvc
  rw [List.take_add_one, List.map_append, List.getElem?_eq_getElem h]
  simp [rd_T37, List.getD_eq_getElem?_getD, List.getElem?_eq_getElem h]
theorem mvc_len {b : Int} {code : List S37} {n : Nat} (h : n ≤ code.length) : (mvc b code n).length = n := by simp [mvc]; omega
def mvo (b : Int) (outs : List Int) (n : Nat) : List Int := (outs.take n).map fun r => wrap64 (r + b)
theorem mvo_succ {b : Int} {outs : List Int} {n : Nat} (h : n < outs.length) : mvo b outs (n + 1) = mvo b outs n ++ [wrap64 (rd outs (n : Int) + b)] := by
  unfold mvo
  rw [List.take_add_one, List.map_append, List.getElem?_eq_getElem h]
  simp [rd, List.getD_eq_getElem?_getD, List.getElem?_eq_getElem h]
theorem mvo_len {b : Int} {outs : List Int} {n : Nat} (h : n ≤ outs.length) : (mvo b outs n).length = n := by simp [mvo]; omega
/-- What the program's Join answers of programs that may be. -/
def jn (a b : S25) : S25 := ⟨a.f0, wrap64 (a.f1 + b.f1), a.f2 ++ mvs a.f1 a.f3 a.f3.length ++ mvc a.f1 b.f2 b.f2.length, mvo a.f1 b.f3 b.f3.length⟩
section
variable {x0 x1 : Int} {x2 : List S37} {x3 : List Int} {q0 q1 : Int} {q2 : List S37} {q3 : List Int} {y0 y1 : Int} {acc : List S37}
theorem pl2 (hb : q3.length ≤ 20000) : ∀ m j : Nat, j + m = q3.length → ∃ K, ∀ k, K ≤ k → prog_Join.l2 k q3 (q3.length : Int) (j : Int) x0 x1 x2 x3 y0 y1 acc (mvo x1 q3 j) = some (y0, y1, acc, mvo x1 q3 q3.length, 0) := by
  intro m
  induction m with
  | zero =>
    intro j hj
    obtain rfl : j = q3.length := by omega
    refine ⟨1, fun k hk => ?_⟩
    obtain ⟨k, rfl⟩ : ∃ q, k = q + 1 := ⟨k - 1, by omega⟩
    simp only [prog_Join.l2]
    rw [if_neg (by omega)]
  | succ m ih =>
    intro j hj
    have hlt : j < q3.length := by omega
    obtain ⟨K, h⟩ := ih (j + 1) (by omega)
    refine ⟨K + 1, fun k hk => ?_⟩
    obtain ⟨k, rfl⟩ : ∃ q, k = q + 1 := ⟨k - 1, by omega⟩
    have h1 := h k (by omega)
    rw [mvo_succ hlt] at h1
    have hn : (mvo x1 q3 j).length = j := mvo_len (by omega)
    simp only [prog_Join.l2]
    rw [if_pos (by omega), if_pos (by omega), if_pos (by omega), if_pos (by omega), wrapNext hlt (by omega)]
    exact h1
theorem pl1 (hb : q3.length ≤ 20000) (hc : q2.length ≤ 20000) (ha : acc.length ≤ 40000) : ∀ m j : Nat, j + m = q2.length → ∃ K, ∀ k, K ≤ k → prog_Join.l1 k q2 (q2.length : Int) (j : Int) x0 x1 x2 x3 q0 q1 q2 q3 y0 y1 (acc ++ mvc x1 q2 j) = some (y0, y1, acc ++ mvc x1 q2 q2.length, mvo x1 q3 q3.length, 0) := by
  intro m
  induction m with
  | zero =>
    intro j hj
    obtain rfl : j = q2.length := by omega
    obtain ⟨K, h⟩ := pl2 (x0 := x0) (x1 := x1) (x2 := x2) (x3 := x3) (y0 := y0) (y1 := y1) (acc := acc ++ mvc x1 q2 q2.length) hb q3.length 0 (by omega)
    refine ⟨K + 1, fun k hk => ?_⟩
    obtain ⟨k, rfl⟩ : ∃ q, k = q + 1 := ⟨k - 1, by omega⟩
    simp only [prog_Join.l1]
    rw [if_neg (by omega)]
    exact h k (by omega)
  | succ m ih =>
    intro j hj
    have hlt : j < q2.length := by omega
    obtain ⟨K, h⟩ := ih (j + 1) (by omega)
    refine ⟨K + 1, fun k hk => ?_⟩
    obtain ⟨k, rfl⟩ : ∃ q, k = q + 1 := ⟨k - 1, by omega⟩
    have h1 := h k (by omega)
    rw [mvc_succ hlt, ← List.append_assoc] at h1
    have hn : (mvc x1 q2 j).length = j := mvc_len (by omega)
    simp only [prog_Join.l1]
    rw [if_pos (by omega), if_pos (by omega), if_pos (by omega), moved_at]
    simp only [Option.bind_some]
    rw [if_pos (by rw [List.length_append]; omega), wrapNext hlt (by omega)]
    exact h1
theorem pl0 (hb : q3.length ≤ 20000) (hc : q2.length ≤ 20000) (ho : x3.length ≤ 20000) (ha : acc.length ≤ 20000) : ∀ m j : Nat, j + m = x3.length → ∃ K, ∀ k, K ≤ k → prog_Join.l0 k x3 (x3.length : Int) (j : Int) x0 x1 x2 x3 q0 q1 q2 q3 y0 y1 (acc ++ mvs x1 x3 j) = some (y0, y1, acc ++ mvs x1 x3 x3.length ++ mvc x1 q2 q2.length, mvo x1 q3 q3.length, 0) := by
  intro m
  induction m with
  | zero =>
    intro j hj
    obtain rfl : j = x3.length := by omega
    obtain ⟨K, h⟩ := pl1 (x0 := x0) (x1 := x1) (x2 := x2) (x3 := x3) (q0 := q0) (q1 := q1) (y0 := y0) (y1 := y1) (acc := acc ++ mvs x1 x3 x3.length) hb hc (by rw [List.length_append, mvs_len]; omega) q2.length 0 (by omega)
    refine ⟨K + 1, fun k hk => ?_⟩
    obtain ⟨k, rfl⟩ : ∃ q, k = q + 1 := ⟨k - 1, by omega⟩
    have h1 := h k (by omega)
    rw [show mvc x1 q2 0 = [] from rfl, List.append_nil] at h1
    simp only [prog_Join.l0]
    rw [if_neg (by omega)]
    exact h1
  | succ m ih =>
    intro j hj
    have hlt : j < x3.length := by omega
    obtain ⟨K, h⟩ := ih (j + 1) (by omega)
    refine ⟨K + 1, fun k hk => ?_⟩
    obtain ⟨k, rfl⟩ : ∃ q, k = q + 1 := ⟨k - 1, by omega⟩
    have h1 := h k (by omega)
    rw [mvs_succ, ← List.append_assoc] at h1
    have hn := mvs_len x1 x3 j
    simp only [prog_Join.l0]
    rw [if_pos (by omega), if_pos (by omega), if_pos (by omega), if_pos (by rw [List.length_append]; omega), wrapNext hlt (by omega)]
    exact h1
theorem rl2 (hb : q3.length ≤ 20000) : ∀ m j : Nat, j + m = q3.length → ∃ K, ∀ k, K ≤ k → swageref08_Join.l2 k (j : Int) x0 x1 x2 x3 q0 q1 q2 q3 y0 y1 acc (mvo x1 q3 j) = some (y0, y1, acc, mvo x1 q3 q3.length, 0) := by
  intro m
  induction m with
  | zero =>
    intro j hj
    obtain rfl : j = q3.length := by omega
    refine ⟨1, fun k hk => ?_⟩
    obtain ⟨k, rfl⟩ : ∃ q, k = q + 1 := ⟨k - 1, by omega⟩
    simp only [swageref08_Join.l2]
    rw [if_neg (by omega)]
  | succ m ih =>
    intro j hj
    have hlt : j < q3.length := by omega
    obtain ⟨K, h⟩ := ih (j + 1) (by omega)
    refine ⟨K + 1, fun k hk => ?_⟩
    obtain ⟨k, rfl⟩ : ∃ q, k = q + 1 := ⟨k - 1, by omega⟩
    have h1 := h k (by omega)
    rw [mvo_succ hlt] at h1
    have hn : (mvo x1 q3 j).length = j := mvo_len (by omega)
    simp only [swageref08_Join.l2]
    rw [if_pos (by omega), if_pos (by omega), if_pos (by omega), wrapNext hlt (by omega)]
    exact h1
theorem rl1 (hb : q3.length ≤ 20000) (hc : q2.length ≤ 20000) (ha : acc.length ≤ 40000) : ∀ m j : Nat, j + m = q2.length → ∃ K, ∀ k, K ≤ k → swageref08_Join.l1 k (j : Int) x0 x1 x2 x3 q0 q1 q2 q3 y0 y1 (acc ++ mvc x1 q2 j) = some (y0, y1, acc ++ mvc x1 q2 q2.length, mvo x1 q3 q3.length, 0) := by
  intro m
  induction m with
  | zero =>
    intro j hj
    obtain rfl : j = q2.length := by omega
    obtain ⟨K, h⟩ := rl2 (x0 := x0) (x1 := x1) (x2 := x2) (x3 := x3) (q0 := q0) (q1 := q1) (q2 := q2) (y0 := y0) (y1 := y1) (acc := acc ++ mvc x1 q2 q2.length) hb q3.length 0 (by omega)
    refine ⟨K + 1, fun k hk => ?_⟩
    obtain ⟨k, rfl⟩ : ∃ q, k = q + 1 := ⟨k - 1, by omega⟩
    simp only [swageref08_Join.l1]
    rw [if_neg (by omega)]
    exact h k (by omega)
  | succ m ih =>
    intro j hj
    have hlt : j < q2.length := by omega
    obtain ⟨K, h⟩ := ih (j + 1) (by omega)
    refine ⟨K + 1, fun k hk => ?_⟩
    obtain ⟨k, rfl⟩ : ∃ q, k = q + 1 := ⟨k - 1, by omega⟩
    have h1 := h k (by omega)
    rw [mvc_succ hlt, ← List.append_assoc] at h1
    have hn : (mvc x1 q2 j).length = j := mvc_len (by omega)
    have hL : (acc ++ mvc x1 q2 j).length < 3518437208883 := by rw [List.length_append]; omega
    simp only [swageref08_Join.l1]
    rw [if_pos (by omega), if_pos (by omega)]
    unfold mv at h1
    by_cases h3 : (rd_T37 q2 (j : Int)).f0 = 3
    · rw [if_pos h3, if_pos hL, wrapNext hlt (by omega)]
      rw [if_pos (.inl h3)] at h1
      exact h1
    · rw [if_neg h3]
      by_cases h4 : (rd_T37 q2 (j : Int)).f0 = 4
      · rw [if_pos h4, if_pos hL, wrapNext hlt (by omega)]
        rw [if_pos (.inr h4)] at h1
        exact h1
      · rw [if_neg h4, if_pos hL, wrapNext hlt (by omega)]
        rw [if_neg (by omega)] at h1
        exact h1
theorem rl0 (hb : q3.length ≤ 20000) (hc : q2.length ≤ 20000) (ho : x3.length ≤ 20000) (ha : acc.length ≤ 20000) : ∀ m j : Nat, j + m = x3.length → ∃ K, ∀ k, K ≤ k → swageref08_Join.l0 k (j : Int) x0 x1 x2 x3 q0 q1 q2 q3 y0 y1 (acc ++ mvs x1 x3 j) = some (y0, y1, acc ++ mvs x1 x3 x3.length ++ mvc x1 q2 q2.length, mvo x1 q3 q3.length, 0) := by
  intro m
  induction m with
  | zero =>
    intro j hj
    obtain rfl : j = x3.length := by omega
    obtain ⟨K, h⟩ := rl1 (x0 := x0) (x1 := x1) (x2 := x2) (x3 := x3) (q0 := q0) (q1 := q1) (y0 := y0) (y1 := y1) (acc := acc ++ mvs x1 x3 x3.length) hb hc (by rw [List.length_append, mvs_len]; omega) q2.length 0 (by omega)
    refine ⟨K + 1, fun k hk => ?_⟩
    obtain ⟨k, rfl⟩ : ∃ q, k = q + 1 := ⟨k - 1, by omega⟩
    have h1 := h k (by omega)
    rw [show mvc x1 q2 0 = [] from rfl, List.append_nil] at h1
    simp only [swageref08_Join.l0]
    rw [if_neg (by omega)]
    exact h1
  | succ m ih =>
    intro j hj
    have hlt : j < x3.length := by omega
    obtain ⟨K, h⟩ := ih (j + 1) (by omega)
    refine ⟨K + 1, fun k hk => ?_⟩
    obtain ⟨k, rfl⟩ : ∃ q, k = q + 1 := ⟨k - 1, by omega⟩
    have h1 := h k (by omega)
    rw [mvs_succ, ← List.append_assoc] at h1
    have hn := mvs_len x1 x3 j
    simp only [swageref08_Join.l0]
    rw [if_pos (by omega), if_pos (by omega), if_pos (by rw [List.length_append]; omega), wrapNext hlt (by omega)]
    exact h1
end
/-- The error of two programs that may be. -/
def jerr (a b : S25) : Int := if b.f0 = (a.f3.length : Int) then (if a.f1 + b.f1 > 128 ∨ (a.f2.length : Int) + b.f0 + (b.f2.length : Int) > 16384 then 3 else 0) else 5
theorem clone_at (l : List S37) (h : l.length ≤ 20000) : api_Instr_41.f l = some l := by
  unfold api_Instr_41.f
  simp only [Option.bind_some]
  rw [if_pos (by simp; omega)]; rfl
structure Rt (a : S25) : Prop where
  h : Head a.f0 a.f1 a.f2 a.f3
  o : ∀ r ∈ a.f3, 0 ≤ r ∧ r < a.f1
  c : ∀ i ∈ a.f2, mayb a.f1 i = true
theorem bad_none {regs : Int} : ∀ {l : List S37} {j : Nat}, bad regs l j = none → ∀ i ∈ l, mayb regs i = true
  | [], _, _ => fun i hi => by cases hi
  | x :: l, j, h => by
    unfold bad at h
    by_cases hx : mayb regs x = true
    · rw [if_pos hx] at h
      intro i hi
      rcases List.mem_cons.1 hi with rfl | hi
      · exact hx
      · exact bad_none h i hi
    · rw [if_neg hx] at h; cases h
theorem bad_all {regs : Int} : ∀ {l : List S37} {j : Nat}, (∀ i ∈ l, mayb regs i = true) → bad regs l j = none
  | [], _, _ => rfl
  | x :: l, j, h => by
    unfold bad
    rw [if_pos (h x (List.mem_cons_self ..))]
    exact bad_all (fun i hi => h i (List.mem_cons_of_mem _ hi))
theorem rt_of {a : S25} (h : (chk a.f0 a.f1 a.f2 a.f3).2 = false) : Rt a := by
  unfold chk at h
  by_cases hh : Head a.f0 a.f1 a.f2 a.f3
  · rw [if_pos hh] at h
    by_cases ho : outsOk a.f1 a.f3 = true
    · rw [if_pos ho] at h
      refine ⟨hh, ?_, ?_⟩
      · intro r hr
        have := List.all_eq_true.1 ho r hr
        exact of_decide_eq_true this
      · unfold codeOf at h
        rw [List.drop_zero] at h
        cases hb : bad a.f1 a.f2 0 with
        | none => exact bad_none hb
        | some m => rw [hb] at h; cases h
    · rw [if_neg ho] at h; cases h
  · rw [if_neg hh] at h; cases h
theorem rt_chk {a : S25} (h : Rt a) : chk a.f0 a.f1 a.f2 a.f3 = (0, false) := by
  unfold chk
  rw [if_pos h.h, if_pos (show outsOk a.f1 a.f3 = true from List.all_eq_true.2 fun r hr => decide_eq_true (h.o r hr))]
  unfold codeOf
  rw [List.drop_zero, bad_all h.c]
/-- The program's Join. -/
theorem join_ev {a b : S25} (ha : Rt a) (hb : Rt b) : Ev (fun k => prog_Join.f k a.f0 a.f1 a.f2 a.f3 b.f0 b.f1 b.f2 b.f3) (if jerr a b = 0 then ((jn a b).f0, (jn a b).f1, (jn a b).f2, (jn a b).f3, 0) else (0, 0, [], [], jerr a b)) := by
  have hA := ha.h; have hB := hb.h; unfold Head at hA hB
  unfold prog_Join.f
  have e1 : (chk a.f0 a.f1 a.f2 a.f3).2 = false := by rw [rt_chk ha]
  have e2 : (chk b.f0 b.f1 b.f2 b.f3).2 = false := by rw [rt_chk hb]
  have r1 := right_ev (ins := a.f0) (regs := a.f1) (code := a.f2) (outs := a.f3) (by omega) (by omega)
  have r2 := right_ev (ins := b.f0) (regs := b.f1) (code := b.f2) (outs := b.f3) (by omega) (by omega)
  rw [e1] at r1
  rw [e2] at r2
  refine Ev.bind r1 (ev_pos rfl (Ev.bind r2 ?_))
  have w1 : wrap64 (a.f1 + b.f1) = a.f1 + b.f1 := wr (by omega) (by omega)
  have w2 : wrap64 ((a.f2.length : Int) + b.f0) = (a.f2.length : Int) + b.f0 := wr (by omega) (by omega)
  have w3 : wrap64 ((a.f2.length : Int) + b.f0 + (b.f2.length : Int)) = (a.f2.length : Int) + b.f0 + (b.f2.length : Int) := wr (by omega) (by omega)
  obtain ⟨K, h⟩ := pl0 (x0 := a.f0) (x1 := a.f1) (x2 := a.f2) (x3 := a.f3) (q0 := b.f0) (q1 := b.f1) (q2 := b.f2) (q3 := b.f3) (y0 := a.f0) (y1 := a.f1 + b.f1) (acc := a.f2) (by omega) (by omega) (by omega) (by omega) a.f3.length 0 (by omega)
  refine ⟨K + 1, fun k hk => ?_⟩
  obtain ⟨k, rfl⟩ : ∃ q, k = q + 1 := ⟨k - 1, by omega⟩
  have h1 := h k (by omega)
  rw [show mvs a.f1 a.f3 0 = [] from rfl, List.append_nil] at h1
  simp only [prog_Join.j0]
  rw [if_neg (by decide), w1, w2, w3, clone_at _ (by omega)]
  simp only [Option.bind_some]
  by_cases c1 : b.f0 = (a.f3.length : Int)
  · rw [if_pos c1]
    by_cases c2 : a.f1 + b.f1 > 128
    · rw [if_pos c2, show jerr a b = 3 by unfold jerr; rw [if_pos c1, if_pos (Or.inl c2)], if_neg (by decide)]
    · rw [if_neg c2]
      by_cases c3 : (a.f2.length : Int) + b.f0 + (b.f2.length : Int) > 16384
      · rw [if_pos c3, show jerr a b = 3 by unfold jerr; rw [if_pos c1, if_pos (Or.inr c3)], if_neg (by decide)]
      · rw [if_neg c3, show jerr a b = 0 by unfold jerr; rw [if_pos c1, if_neg (by omega)], if_pos rfl]
        unfold jn
        rw [w1]
        exact h1
  · rw [if_neg c1, show jerr a b = 5 by unfold jerr; rw [if_neg c1], if_neg (by decide)]
theorem refjoin_ev {a b : S25} (ha : Rt a) (hb : Rt b) : Ev (fun k => swageref08_Join.f k a.f0 a.f1 a.f2 a.f3 b.f0 b.f1 b.f2 b.f3) (if jerr a b = 0 then ((jn a b).f0, (jn a b).f1, (jn a b).f2, (jn a b).f3, 0) else (0, 0, [], [], jerr a b)) := by
  have hA := ha.h; have hB := hb.h; unfold Head at hA hB
  unfold swageref08_Join.f
  have w1 : wrap64 (a.f1 + b.f1) = a.f1 + b.f1 := wr (by omega) (by omega)
  have w2 : wrap64 ((a.f2.length : Int) + b.f0) = (a.f2.length : Int) + b.f0 := wr (by omega) (by omega)
  have w3 : wrap64 ((a.f2.length : Int) + b.f0 + (b.f2.length : Int)) = (a.f2.length : Int) + b.f0 + (b.f2.length : Int) := wr (by omega) (by omega)
  obtain ⟨K, h⟩ := rl0 (x0 := a.f0) (x1 := a.f1) (x2 := a.f2) (x3 := a.f3) (q0 := b.f0) (q1 := b.f1) (q2 := b.f2) (q3 := b.f3) (y0 := a.f0) (y1 := a.f1 + b.f1) (acc := a.f2) (by omega) (by omega) (by omega) (by omega) a.f3.length 0 (by omega)
  refine ⟨K + 1, fun k hk => ?_⟩
  obtain ⟨k, rfl⟩ : ∃ q, k = q + 1 := ⟨k - 1, by omega⟩
  have h1 := h k (by omega)
  rw [show mvs a.f1 a.f3 0 = [] from rfl, List.append_nil] at h1
  show (if b.f0 = (a.f3.length : Int) then _ else _) = _
  rw [w1, w2, w3]
  simp only [swageref08_Join.j0]
  by_cases c1 : b.f0 = (a.f3.length : Int)
  · rw [if_pos c1]
    by_cases c2 : a.f1 + b.f1 > 128
    · rw [if_pos c2, show jerr a b = 3 by unfold jerr; rw [if_pos c1, if_pos (Or.inl c2)], if_neg (show ¬ ((3 : Int) = 0) by decide)]
      exact if_pos trivial
    · rw [if_neg c2]
      by_cases c3 : (a.f2.length : Int) + b.f0 + (b.f2.length : Int) > 16384
      · rw [decide_eq_true c3, show jerr a b = 3 by unfold jerr; rw [if_pos c1, if_pos (Or.inr c3)], if_neg (show ¬ ((3 : Int) = 0) by decide)]
        exact if_pos rfl
      · rw [decide_eq_false c3, show jerr a b = 0 by unfold jerr; rw [if_pos c1, if_neg (by omega)], if_pos (rfl : (0 : Int) = 0), if_neg (by decide), if_pos (by simp; omega)]
        unfold jn
        rw [w1]
        exact h1
  · rw [if_neg c1, show jerr a b = 5 by unfold jerr; rw [if_neg c1], if_neg (by decide)]
/- depths -/
def mxs (deep : List Int) (l : List Int) (d : Int) : Int := l.foldl (fun m r => mx m (rd deep r)) d
def stp (deep : List Int) (i : S37) : List Int := deep.set i.f1.toNat (wrap64 (mxs deep (asks i.f0 i.f2 i.f3) 0 + 1))
def dpr (deep : List Int) (code : List S37) : List Int := code.foldl stp deep
def dp (a : S25) : List Int := dpr (List.replicate a.f1.toNat 0) a.f2
def depth (a : S25) : Int := mxs (dp a) a.f3 0
theorem mayb_ask {regs : Int} {i : S37} (h : mayb regs i = true) : (∀ r ∈ asks i.f0 i.f2 i.f3, 0 ≤ r ∧ r < regs) ∧ 0 ≤ i.f1 ∧ i.f1 < regs := by
  have h := of_decide_eq_true h
  unfold MayP at h
  refine ⟨?_, h.2.1.1, h.2.1.2⟩
  intro r hr
  unfold asks at hr
  by_cases h3 : i.f0 = 3 ∨ i.f0 = 4
  · rw [if_pos h3] at hr
    have := h.2.2.2.1 h3
    rcases List.mem_cons.1 hr with rfl | hr
    · exact h.2.2.1
    · obtain rfl := List.mem_singleton.1 hr
      exact this
  · rw [if_neg h3, if_pos h.1] at hr
    obtain rfl := List.mem_singleton.1 hr
    exact h.2.2.1
theorem asks_len (op a b : Int) : (asks op a b).length ≤ 2 := by unfold asks; split <;> (try split) <;> simp
section
variable {x0 x1 : Int} {x2 : List S37} {x3 : List Int}
theorem dl2 (deep outs : List Int) (hlen : outs.length ≤ 20000) (hr : ∀ r ∈ outs, 0 ≤ r ∧ r < (deep.length : Int)) : ∀ (m j : Nat) (d : Int), j + m = outs.length → ∃ K, ∀ k, K ≤ k → prog_Depth.l2 k deep d outs (outs.length : Int) (j : Int) = some (mxs deep (outs.drop j) d, 0) := by
  intro m
  induction m with
  | zero =>
    intro j d hj
    obtain rfl : j = outs.length := by omega
    refine ⟨1, fun k hk => ?_⟩
    obtain ⟨k, rfl⟩ : ∃ q, k = q + 1 := ⟨k - 1, by omega⟩
    simp only [prog_Depth.l2]
    rw [if_neg (by omega), List.drop_length]; rfl
  | succ m ih =>
    intro j d hj
    have hlt : j < outs.length := by omega
    obtain ⟨K, h⟩ := ih (j + 1) (mx d (rd deep (rd outs (j : Int)))) (by omega)
    refine ⟨K + 1, fun k hk => ?_⟩
    obtain ⟨k, rfl⟩ : ∃ q, k = q + 1 := ⟨k - 1, by omega⟩
    have h1 := h k (by omega)
    have hm := hr (rd outs (j : Int)) (by have := drop_rd hlt; exact List.mem_of_mem_drop (this ▸ List.mem_cons_self ..))
    simp only [prog_Depth.l2]
    rw [if_pos (by omega), if_pos (by omega), if_pos (by omega), if_pos hm.1, if_pos hm.2, wrapNext hlt (by omega), drop_rd hlt]
    exact h1
theorem dl1 (deep code : List _) (idx : Int) (l : List Int) (i : S37) (R : Int × Int) (hlen : l.length ≤ 20000) (hr : ∀ r ∈ l, 0 ≤ r ∧ r < (deep.length : Int)) (ht : 0 ≤ i.f1 ∧ i.f1 < (deep.length : Int)) : ∀ (m j : Nat) (d : Int), j + m = l.length →
    (∃ K, ∀ k, K ≤ k → prog_Depth.l0 k (deep.set i.f1.toNat (wrap64 (mxs deep (l.drop j) d + 1))) code (code.length : Int) (wrap64 (idx + 1)) x0 x1 x2 x3 = some R) →
    ∃ K, ∀ k, K ≤ k → prog_Depth.l1 k deep d code (code.length : Int) idx l (l.length : Int) (j : Int) x0 x1 x2 x3 i.f0 i.f1 i.f2 i.f3 i.f4 = some R := by
  intro m
  induction m with
  | zero =>
    intro j d hj hn
    obtain rfl : j = l.length := by omega
    obtain ⟨K, h⟩ := hn
    rw [List.drop_length] at h
    refine ⟨K + 1, fun k hk => ?_⟩
    obtain ⟨k, rfl⟩ : ∃ q, k = q + 1 := ⟨k - 1, by omega⟩
    simp only [prog_Depth.l1]
    rw [if_neg (by omega), if_pos ht.1, if_pos ht.2]
    exact h k (by omega)
  | succ m ih =>
    intro j d hj hn
    have hlt : j < l.length := by omega
    rw [drop_rd hlt] at hn
    obtain ⟨K, h⟩ := ih (j + 1) (mx d (rd deep (rd l (j : Int)))) (by omega) hn
    refine ⟨K + 1, fun k hk => ?_⟩
    obtain ⟨k, rfl⟩ : ∃ q, k = q + 1 := ⟨k - 1, by omega⟩
    have h1 := h k (by omega)
    have hm := hr (rd l (j : Int)) (by have := drop_rd hlt; exact List.mem_of_mem_drop (this ▸ List.mem_cons_self ..))
    simp only [prog_Depth.l1]
    rw [if_pos (by omega), if_pos (by omega), if_pos (by omega), if_pos hm.1, if_pos hm.2, wrapNext hlt (by omega)]
    exact h1
theorem dpr_len (deep : List Int) (code : List S37) : (dpr deep code).length = deep.length := by
  unfold dpr
  induction code generalizing deep with
  | nil => rfl
  | cons i l ih => rw [List.foldl_cons, ih]; simp [stp]
theorem dl0 (regs : Int) (code : List S37) (hc : ∀ i ∈ code, mayb regs i = true) (hlen : code.length ≤ 20000) (ho : x3.length ≤ 20000) (hr : ∀ r ∈ x3, 0 ≤ r ∧ r < regs) : ∀ (m j : Nat) (deep : List Int), (deep.length : Int) = regs → j + m = code.length →
    ∃ K, ∀ k, K ≤ k → prog_Depth.l0 k deep code (code.length : Int) (j : Int) x0 x1 x2 x3 = some (mxs (dpr deep (code.drop j)) x3 0, 0) := by
  intro m
  induction m with
  | zero =>
    intro j deep hd hj
    obtain rfl : j = code.length := by omega
    obtain ⟨K, h⟩ := dl2 deep x3 ho (by rw [hd]; exact hr) x3.length 0 0 (by omega)
    rw [List.drop_zero] at h
    refine ⟨K + 1, fun k hk => ?_⟩
    obtain ⟨k, rfl⟩ : ∃ q, k = q + 1 := ⟨k - 1, by omega⟩
    simp only [prog_Depth.l0]
    rw [if_neg (by omega), List.drop_length]
    exact h k (by omega)
  | succ m ih =>
    intro j deep hd hj
    have hlt : j < code.length := by omega
    have hmem : rd_T37 code (j : Int) ∈ code := by have := drop_rdT hlt; exact List.mem_of_mem_drop (this ▸ List.mem_cons_self ..)
    have hm := mayb_ask (hc _ hmem)
    have hal := asks_len (rd_T37 code (j : Int)).f0 (rd_T37 code (j : Int)).f2 (rd_T37 code (j : Int)).f3
    obtain ⟨K, h⟩ := dl1 (x0 := x0) (x1 := x1) (x2 := x2) (x3 := x3) deep code (j : Int) (asks (rd_T37 code (j : Int)).f0 (rd_T37 code (j : Int)).f2 (rd_T37 code (j : Int)).f3) (rd_T37 code (j : Int)) (mxs (dpr deep (code.drop j)) x3 0, 0) (by omega) (by rw [hd]; exact hm.1) (by rw [hd]; exact hm.2) _ 0 0 (Nat.zero_add _) (by
      rw [List.drop_zero, wrapNext hlt (by omega), drop_rdT hlt]
      exact ih (j + 1) (stp deep (rd_T37 code (j : Int))) (by unfold stp; rw [List.length_set]; exact hd) (by omega))
    refine ⟨K + 2, fun k hk => ?_⟩
    obtain ⟨k, rfl⟩ : ∃ q, k = q + 2 := ⟨k - 2, by omega⟩
    simp only [prog_Depth.l0]
    rw [if_pos (by omega), if_pos (by omega), if_pos (by omega), asks_at]
    simp only [Option.bind_some]
    exact h (k + 1) (by omega)
end
theorem depth_ev {a : S25} (ha : Rt a) : Ev (fun k => prog_Depth.f k a.f0 a.f1 a.f2 a.f3) (depth a, 0) := by
  have hA := ha.h; unfold Head at hA
  unfold prog_Depth.f
  have e1 : (chk a.f0 a.f1 a.f2 a.f3).2 = false := by rw [rt_chk ha]
  have r1 := right_ev (ins := a.f0) (regs := a.f1) (code := a.f2) (outs := a.f3) (by omega) (by omega)
  rw [e1] at r1
  refine Ev.bind r1 (ev_pos rfl (ev_pos (by omega) (ev_pos (by omega) ?_)))
  obtain ⟨K, h⟩ := dl0 (x0 := a.f0) (x1 := a.f1) (x2 := a.f2) (x3 := a.f3) a.f1 a.f2 ha.c (by omega) (by omega) ha.o a.f2.length 0 (List.replicate a.f1.toNat 0) (by rw [List.length_replicate]; omega) (by omega)
  exact ⟨K, h⟩
theorem mx_le {a b M : Int} (h1 : a ≤ M) (h2 : b ≤ M) : mx a b ≤ M := by unfold mx; split <;> omega
theorem mx_l (a b : Int) : a ≤ mx a b := by unfold mx; split <;> omega
theorem mx_r (a b : Int) : b ≤ mx a b := by unfold mx; split <;> omega
theorem mxs_le {D : List Int} {M : Int} : ∀ {l : List Int} {d : Int}, (∀ r ∈ l, rd D r ≤ M) → d ≤ M → mxs D l d ≤ M
  | [], _, _, hd => hd
  | r :: l, d, h, hd => mxs_le (D := D) (l := l) (d := mx d (rd D r)) (fun s hs => h s (List.mem_cons_of_mem _ hs)) (mx_le hd (h r (List.mem_cons_self ..)))
theorem mxs_d {D : List Int} : ∀ {l : List Int} {d : Int}, d ≤ mxs D l d
  | [], _ => Int.le_refl _
  | r :: l, d => Int.le_trans (mx_l d (rd D r)) (mxs_d (D := D) (l := l) (d := mx d (rd D r)))
theorem mxs_ge {D : List Int} {s : Int} : ∀ {l : List Int} {d : Int}, s ∈ l → rd D s ≤ mxs D l d
  | r :: l, d, h => by
    rcases List.mem_cons.1 h with rfl | h
    · exact Int.le_trans (mx_r d (rd D s)) (mxs_d (D := D) (l := l) (d := mx d (rd D s)))
    · exact mxs_ge (D := D) (l := l) (d := mx d (rd D r)) h
theorem mxs_congr {D D' : List Int} : ∀ {l : List Int} {d : Int}, (∀ r ∈ l, rd D r = rd D' r) → mxs D l d = mxs D' l d
  | [], _, _ => rfl
  | r :: l, d, h => by
    show mxs D l (mx d (rd D r)) = mxs D' l (mx d (rd D' r))
    rw [h r (List.mem_cons_self ..)]
    exact mxs_congr (fun s hs => h s (List.mem_cons_of_mem _ hs))
theorem rd_set {l : List Int} {t r v : Int} (h0 : 0 ≤ t) (h1 : t < (l.length : Int)) (hr : 0 ≤ r) : rd (l.set t.toNat v) r = if r = t then v else rd l r := by
  unfold rd
  rw [List.getD_eq_getElem?_getD, List.getElem?_set]
  by_cases e : r = t
  · subst e
    rw [if_pos rfl, if_pos (by omega), if_pos rfl]; rfl
  · rw [if_neg (by omega), if_neg e, List.getD_eq_getElem?_getD]
theorem rd_zeros (n : Nat) (r : Int) : rd (List.replicate n 0) r = 0 := by
  unfold rd
  rw [List.getD_eq_getElem?_getD, List.getElem?_replicate]
  split <;> rfl
/-- How deep at most. -/
def Bd (D : List Int) (c : Int) : Prop := ∀ r, 0 ≤ r → 0 ≤ rd D r ∧ rd D r ≤ c
theorem bd_stp {D : List Int} {c regs : Int} {i : S37} (hD : Bd D c) (hi : mayb regs i = true) (hl : (D.length : Int) = regs) (h0 : 0 ≤ c) (hc : c ≤ 100000) : Bd (stp D i) (c + 1) := by
  have hm := mayb_ask hi
  have h1 : mxs D (asks i.f0 i.f2 i.f3) 0 ≤ c := mxs_le (fun r hr => (hD r (hm.1 r hr).1).2) h0
  have h2 : 0 ≤ mxs D (asks i.f0 i.f2 i.f3) 0 := mxs_d
  intro r hr
  unfold stp
  rw [rd_set hm.2.1 (by omega) hr, wr (by omega) (by omega)]
  have := hD r hr
  split <;> omega
theorem bd_dpr {regs : Int} : ∀ {code : List S37} {D : List Int} {c : Int}, Bd D c → (∀ i ∈ code, mayb regs i = true) → (D.length : Int) = regs → 0 ≤ c → c + code.length ≤ 100000 → Bd (dpr D code) (c + code.length)
  | [], D, c, h, _, _, _, _ => by
    rw [show c + (([] : List S37).length : Int) = c by simp]; exact h
  | i :: code, D, c, h, hc, hl, h0, hb => by
    rw [List.length_cons] at hb
    have h1 := bd_dpr (regs := regs) (code := code) (D := stp D i) (c := c + 1) (bd_stp h (hc i (List.mem_cons_self ..)) hl h0 (by omega)) (fun j hj => hc j (List.mem_cons_of_mem _ hj)) (by unfold stp; rw [List.length_set]; exact hl) (by omega) (by omega)
    rw [List.length_cons]
    have e : c + ((code.length + 1 : Nat) : Int) = c + 1 + (code.length : Int) := by omega
    rw [e]
    exact h1
theorem bd_dp {a : S25} (ha : Rt a) : Bd (dp a) 16384 := by
  have hA := ha.h; unfold Head at hA
  have h := bd_dpr (regs := a.f1) (code := a.f2) (D := List.replicate a.f1.toNat 0) (c := 0) (fun r hr => by rw [rd_zeros]; omega) ha.c (by rw [List.length_replicate]; omega) (by omega) (by omega)
  intro r hr
  have := h r hr
  unfold dp
  omega
theorem depth_bd {a : S25} (ha : Rt a) : 0 ≤ depth a ∧ depth a ≤ 16384 := ⟨mxs_d, mxs_le (fun r hr => (bd_dp ha r (ha.o r hr).1).2) (by decide)⟩
/-- The first program's registers are as they are in it alone; the others are as they were. -/
theorem rel1 {rp : Int} : ∀ {code : List S37} {D D' : List Int}, (∀ i ∈ code, mayb rp i = true) → rp ≤ (D.length : Int) → (D'.length : Int) = rp → (∀ r, 0 ≤ r → r < rp → rd D r = rd D' r) →
    (∀ r, 0 ≤ r → r < rp → rd (dpr D code) r = rd (dpr D' code) r) ∧ (∀ r, rp ≤ r → rd (dpr D code) r = rd D r)
  | [], D, D', _, _, _, h => ⟨h, fun _ _ => rfl⟩
  | i :: code, D, D', hc, hl, hl', h => by
    have hm := mayb_ask (hc i (List.mem_cons_self ..))
    have e : mxs D (asks i.f0 i.f2 i.f3) 0 = mxs D' (asks i.f0 i.f2 i.f3) 0 := mxs_congr (fun r hr => h r (hm.1 r hr).1 (hm.1 r hr).2)
    have h1 := rel1 (rp := rp) (code := code) (D := stp D i) (D' := stp D' i) (fun j hj => hc j (List.mem_cons_of_mem _ hj)) (by unfold stp; rw [List.length_set]; exact hl) (by unfold stp; rw [List.length_set]; exact hl') (by
      intro r h0 hr
      unfold stp
      rw [rd_set hm.2.1 (by omega) h0, rd_set hm.2.1 (by omega) h0, e, h r h0 hr])
    refine ⟨h1.1, fun r hr => ?_⟩
    refine (h1.2 r hr).trans ?_
    unfold stp
    rw [rd_set hm.2.1 (by omega) (by omega), if_neg (by omega)]
/-- The moves between. -/
theorem rel2 {rp rq M : Int} {outs : List Int} (ho : ∀ r ∈ outs, 0 ≤ r ∧ r < rp) (h0 : 1 ≤ rp) (hM : 0 ≤ M ∧ M ≤ 100000) (h128 : rp + rq ≤ 128) : ∀ (n : Nat) {D : List Int}, n ≤ outs.length → (n : Int) ≤ rq → (D.length : Int) = rp + rq → (∀ r ∈ outs, 0 ≤ rd D r ∧ rd D r ≤ M) → (∀ r, rp ≤ r → 0 ≤ rd D r ∧ rd D r ≤ M + 1) →
    (∀ r, 0 ≤ r → r < rp → rd (dpr D (mvs rp outs n)) r = rd D r) ∧ (∀ r, rp ≤ r → 0 ≤ rd (dpr D (mvs rp outs n)) r ∧ rd (dpr D (mvs rp outs n)) r ≤ M + 1)
  | 0, D, _, _, _, _, h => ⟨fun _ _ _ => rfl, h⟩
  | n + 1, D, hn, hq, hl, hm, h => by
    have ih := rel2 (rq := rq) ho h0 hM h128 n (D := D) (by omega) (by omega) hl hm h
    have hs : dpr D (mvs rp outs (n + 1)) = stp (dpr D (mvs rp outs n)) (⟨1, wrap64 (rp + (n : Int)), rd outs (n : Int), 0, 0⟩ : S37) := by
      rw [mvs_succ]; unfold dpr; rw [List.foldl_append]; rfl
    have hr : rd outs (n : Int) ∈ outs := by have hlt : n < outs.length := by omega
                                             have := drop_rd hlt; exact List.mem_of_mem_drop (this ▸ List.mem_cons_self ..)
    have hv := hm _ hr
    have hb := ho _ hr
    have e := ih.1 _ hb.1 hb.2
    have hlen := dpr_len D (mvs rp outs n)
    have hx : mxs (dpr D (mvs rp outs n)) (asks 1 (rd outs (n : Int)) 0) 0 = rd D (rd outs (n : Int)) := by
      show mx 0 (rd _ _) = _
      rw [e]; unfold mx; split <;> omega
    rw [hs]
    refine ⟨fun r h0 hr => ?_, fun r hr => ?_⟩
    · unfold stp
      simp only
      rw [wr (x := rp + (n : Int)) (by omega) (by omega), rd_set (by omega) (by omega) h0, if_neg (by omega)]
      exact ih.1 r h0 hr
    · unfold stp
      simp only
      rw [wr (x := rp + (n : Int)) (by omega) (by omega), rd_set (by omega) (by omega) (by omega), hx]
      have := ih.2 r hr
      split
      · rw [wr (by omega) (by omega)]; omega
      · exact this
theorem ask_mv {b : Int} {i : S37} {regs : Int} (hb : 0 ≤ b ∧ b ≤ 1000) (hg : regs ≤ 128) (hi : mayb regs i = true) : ∀ r ∈ asks (mv b i).f0 (mv b i).f2 (mv b i).f3, ∃ s ∈ asks i.f0 i.f2 i.f3, r = s + b := by
  have hm := of_decide_eq_true hi
  unfold MayP at hm
  intro r hr
  unfold mv asks at hr
  unfold asks
  simp only at hr
  by_cases h3 : i.f0 = 3 ∨ i.f0 = 4
  · rw [if_pos h3] at hr ⊢
    rw [if_pos h3] at hr
    have h4 := hm.2.2.2.1 h3
    rcases List.mem_cons.1 hr with rfl | hr
    · exact ⟨i.f2, List.mem_cons_self .., wr (by omega) (by omega)⟩
    · obtain rfl := List.mem_singleton.1 hr
      exact ⟨i.f3, List.mem_cons_of_mem _ (List.mem_cons_self ..), wr (by omega) (by omega)⟩
  · rw [if_neg h3] at hr ⊢
    rw [if_pos hm.1] at hr ⊢
    obtain rfl := List.mem_singleton.1 hr
    exact ⟨i.f2, List.mem_cons_self .., wr (by omega) (by omega)⟩
/-- The second program, moved. -/
theorem rel3 {rp rq M : Int} (hp : 1 ≤ rp) (hM : 0 ≤ M ∧ M ≤ 100000) (h128 : rp + rq ≤ 128) : ∀ {code : List S37} {D D' : List Int} {c : Int}, (∀ i ∈ code, mayb rq i = true) → (D.length : Int) = rp + rq → (D'.length : Int) = rq → 0 ≤ c → c + code.length ≤ 100000 → Bd D' c →
    (∀ r, 0 ≤ r → r < rq → 0 ≤ rd D (r + rp) ∧ rd D (r + rp) ≤ M + rd D' r) → (∀ r, 0 ≤ r → r < rq → 0 ≤ rd (dpr D (code.map (mv rp))) (r + rp) ∧ rd (dpr D (code.map (mv rp))) (r + rp) ≤ M + rd (dpr D' code) r)
  | [], D, D', c, _, _, _, _, _, _, h => h
  | i :: code, D, D', c, hc, hl, hl', h0, hcb, hB, h => by
    rw [List.length_cons] at hcb
    have hi := hc i (List.mem_cons_self ..)
    have hm := mayb_ask hi
    have hB' := bd_stp hB hi hl' h0 (by omega)
    have e1 : (mv rp i).f1 = i.f1 + rp := wr (by omega) (by omega)
    have hx0 : 0 ≤ mxs D (asks (mv rp i).f0 (mv rp i).f2 (mv rp i).f3) 0 := mxs_d
    have hy0 : 0 ≤ mxs D' (asks i.f0 i.f2 i.f3) 0 := mxs_d
    have hy : mxs D' (asks i.f0 i.f2 i.f3) 0 ≤ c := mxs_le (fun r hr => (hB r (hm.1 r hr).1).2) h0
    have hx : mxs D (asks (mv rp i).f0 (mv rp i).f2 (mv rp i).f3) 0 ≤ M + mxs D' (asks i.f0 i.f2 i.f3) 0 := mxs_le (fun r hr => by
      obtain ⟨s, hs, rfl⟩ := ask_mv (by omega) (by omega) hi r hr
      have h1 := h s (hm.1 s hs).1 (hm.1 s hs).2
      have h2 := mxs_ge (D := D') (d := 0) hs
      omega) (by omega)
    refine rel3 hp hM h128 (code := code) (D := stp D (mv rp i)) (D' := stp D' i) (c := c + 1) (fun j hj => hc j (List.mem_cons_of_mem _ hj)) (by unfold stp; rw [List.length_set]; exact hl) (by unfold stp; rw [List.length_set]; exact hl') (by omega) (by omega) hB' ?_
    intro r hr0 hr
    unfold stp
    rw [e1, rd_set (by omega) (by omega) (by omega), rd_set hm.2.1 (by omega) hr0, wr (x := mxs D _ 0 + 1) (by omega) (by omega), wr (x := mxs D' _ 0 + 1) (by omega) (by omega)]
    have := h r hr0 hr
    by_cases e : r = i.f1
    · rw [if_pos (by omega), if_pos e]; omega
    · rw [if_neg (by omega), if_neg e]; exact this
theorem mvs_mem {regs : Int} {outs : List Int} {n : Nat} {i : S37} (h : i ∈ mvs regs outs n) : ∃ k : Nat, k < n ∧ i = ⟨1, wrap64 (regs + (k : Int)), rd outs (k : Int), 0, 0⟩ := by
  unfold mvs at h
  obtain ⟨k, hk, rfl⟩ := List.mem_map.1 h
  exact ⟨k, List.mem_range.1 hk, rfl⟩
theorem jerr0 {a b : S25} (h : jerr a b = 0) : b.f0 = (a.f3.length : Int) ∧ a.f1 + b.f1 ≤ 128 ∧ (a.f2.length : Int) + b.f0 + (b.f2.length : Int) ≤ 16384 := by
  unfold jerr at h
  by_cases c1 : b.f0 = (a.f3.length : Int)
  · rw [if_pos c1] at h
    by_cases c2 : a.f1 + b.f1 > 128 ∨ (a.f2.length : Int) + b.f0 + (b.f2.length : Int) > 16384
    · rw [if_pos c2] at h; exact absurd h (by decide)
    · exact ⟨c1, by omega, by omega⟩
  · rw [if_neg c1] at h; exact absurd h (by decide)
theorem may_more {r s : Int} {i : S37} (h : mayb r i = true) (hrs : r ≤ s) : mayb s i = true := by
  have h := of_decide_eq_true h
  unfold MayP at h
  refine decide_eq_true ?_
  unfold MayP
  exact ⟨h.1, ⟨h.2.1.1, by omega⟩, ⟨h.2.2.1.1, by omega⟩, fun h3 => ⟨(h.2.2.2.1 h3).1, by have := (h.2.2.2.1 h3).2; omega⟩, h.2.2.2.2.1, h.2.2.2.2.2⟩
theorem may_mv {r b : Int} {i : S37} (h : mayb r i = true) (hb : 0 ≤ b) (hs : b + r ≤ 128) : mayb (b + r) (mv b i) = true := by
  have h := of_decide_eq_true h
  unfold MayP at h
  refine decide_eq_true ?_
  unfold MayP mv
  simp only
  rw [wr (x := i.f1 + b) (by omega) (by omega), wr (x := i.f2 + b) (by omega) (by omega)]
  refine ⟨h.1, by omega, by omega, fun h3 => ?_, fun h3 => ?_, h.2.2.2.2.2⟩
  · have := h.2.2.2.1 h3
    rw [if_pos h3, wr (x := i.f3 + b) (by omega) (by omega)]; omega
  · rw [if_neg h3]; exact h.2.2.2.2.1 h3
theorem rt_jn {a b : S25} (ha : Rt a) (hb : Rt b) (h : jerr a b = 0) : Rt (jn a b) := by
  have hA := ha.h; have hB := hb.h; unfold Head at hA hB
  obtain ⟨j1, j2, j3⟩ := jerr0 h
  have w1 : wrap64 (a.f1 + b.f1) = a.f1 + b.f1 := wr (by omega) (by omega)
  unfold jn
  rw [w1]
  refine ⟨?_, ?_, ?_⟩
  · unfold Head
    simp only [List.length_append, mvs_len, mvc_len (Nat.le_refl _), mvo_len (Nat.le_refl _)]
    omega
  · intro r hr
    simp only at hr
    unfold mvo at hr
    rw [List.take_length] at hr
    obtain ⟨s, hs, rfl⟩ := List.mem_map.1 hr
    have := hb.o s hs
    rw [wr (by omega) (by omega)]
    simp only
    omega
  · intro i hi
    simp only at hi ⊢
    rcases List.mem_append.1 hi with hi | hi
    · rcases List.mem_append.1 hi with hi | hi
      · exact may_more (ha.c i hi) (by omega)
      · obtain ⟨k, hk, rfl⟩ := mvs_mem hi
        have hr : rd a.f3 (k : Int) ∈ a.f3 := by have := drop_rd hk; exact List.mem_of_mem_drop (this ▸ List.mem_cons_self ..)
        have := ha.o _ hr
        refine decide_eq_true ?_
        have hw : wrap64 (a.f1 + (k : Int)) = a.f1 + (k : Int) := wr (by omega) (by omega)
        refine ⟨(by decide : (1 : Int) ≤ 1 ∧ (1 : Int) ≤ 8), ?_, ?_, fun h => absurd h (by decide : ¬ ((1 : Int) = 3 ∨ (1 : Int) = 4)), fun _ => rfl, fun h => absurd h (by decide : ¬ ((1 : Int) = 5 ∨ (1 : Int) = 6)), fun h => absurd h (by decide : ¬ ((1 : Int) = 7 ∨ (1 : Int) = 8)), fun _ => rfl⟩
        · show 0 ≤ wrap64 (a.f1 + (k : Int)) ∧ wrap64 (a.f1 + (k : Int)) < a.f1 + b.f1
          rw [hw]; omega
        · show 0 ≤ rd a.f3 (k : Int) ∧ rd a.f3 (k : Int) < a.f1 + b.f1
          omega
    · unfold mvc at hi
      rw [List.take_length] at hi
      obtain ⟨i', hi', rfl⟩ := List.mem_map.1 hi
      exact may_mv (hb.c i' hi') (by omega) (by omega)
theorem depth_jn {a b : S25} (ha : Rt a) (hb : Rt b) (h : jerr a b = 0) : depth (jn a b) ≤ depth a + depth b + 1 := by
  have hA := ha.h; have hB := hb.h; unfold Head at hA hB
  obtain ⟨j1, j2, j3⟩ := jerr0 h
  have w1 : wrap64 (a.f1 + b.f1) = a.f1 + b.f1 := wr (by omega) (by omega)
  have da := depth_bd ha
  have db := depth_bd hb
  have s1 := rel1 (rp := a.f1) (code := a.f2) (D := List.replicate (a.f1 + b.f1).toNat 0) (D' := List.replicate a.f1.toNat 0) ha.c (by rw [List.length_replicate]; omega) (by rw [List.length_replicate]; omega) (fun r _ _ => by rw [rd_zeros, rd_zeros])
  have hl1 := dpr_len (List.replicate (a.f1 + b.f1).toNat 0) a.f2
  rw [List.length_replicate] at hl1
  have s2 := rel2 (rp := a.f1) (rq := b.f1) (M := depth a) (outs := a.f3) ha.o (by omega) (by omega) (by omega) a.f3.length (D := dpr (List.replicate (a.f1 + b.f1).toNat 0) a.f2) (Nat.le_refl _) (by omega) (by omega) (fun r hr => by
    rw [s1.1 r (ha.o r hr).1 (ha.o r hr).2]
    exact ⟨(bd_dp ha r (ha.o r hr).1).1, mxs_ge (D := dp a) hr⟩) (fun r hr => by rw [s1.2 r hr, rd_zeros]; omega)
  have hl2 := dpr_len (dpr (List.replicate (a.f1 + b.f1).toNat 0) a.f2) (mvs a.f1 a.f3 a.f3.length)
  have s3 := rel3 (rp := a.f1) (rq := b.f1) (M := depth a + 1) (by omega) (by omega) (by omega) (code := b.f2) (D := dpr (dpr (List.replicate (a.f1 + b.f1).toNat 0) a.f2) (mvs a.f1 a.f3 a.f3.length)) (D' := List.replicate b.f1.toNat 0) (c := 0) hb.c (by omega) (by rw [List.length_replicate]; omega) (by omega) (by omega) (fun r _ => by rw [rd_zeros]; omega) (fun r h0 hr => by
    rw [rd_zeros]
    have := s2.2 (r + a.f1) (by omega)
    omega)
  have e : dp (jn a b) = dpr (dpr (dpr (List.replicate (a.f1 + b.f1).toNat 0) a.f2) (mvs a.f1 a.f3 a.f3.length)) (b.f2.map (mv a.f1)) := by
    unfold dp jn mvc
    simp only
    rw [w1, List.take_length]
    unfold dpr
    rw [List.foldl_append, List.foldl_append]
  unfold depth
  rw [e]
  refine mxs_le (fun r hr => ?_) (by have h1 : 0 ≤ mxs (dp a) a.f3 0 := mxs_d; have h2 : 0 ≤ mxs (dp b) b.f3 0 := mxs_d; omega)
  have hr' : r ∈ mvo a.f1 b.f3 b.f3.length := hr
  unfold mvo at hr'
  rw [List.take_length] at hr'
  obtain ⟨s, hs, rfl⟩ := List.mem_map.1 hr'
  have ho := hb.o s hs
  rw [wr (by omega) (by omega)]
  have h1 := (s3 s ho.1 ho.2).2
  have h2 := mxs_ge (D := dp b) (d := 0) hs
  have h3 : rd (dpr (List.replicate b.f1.toNat 0) b.f2) s = rd (dp b) s := rfl
  have h4 : depth a = mxs (dp a) a.f3 0 := rfl
  omega
/- the same -/
section
variable {a0 a1 : Int} {c : List S37} {o : List Int}
theorem sm1 (ho : o.length ≤ 20000) : ∀ m j : Nat, j + m = o.length → ∃ K, ∀ k, K ≤ k → swageref08_Same.l1 k (j : Int) a0 a1 c o a0 a1 c o = some true := by
  intro m
  induction m with
  | zero =>
    intro j hj
    refine ⟨1, fun k hk => ?_⟩
    obtain ⟨k, rfl⟩ : ∃ q, k = q + 1 := ⟨k - 1, by omega⟩
    simp only [swageref08_Same.l1]
    rw [if_neg (by omega)]
  | succ m ih =>
    intro j hj
    have hlt : j < o.length := by omega
    obtain ⟨K, h⟩ := ih (j + 1) (by omega)
    refine ⟨K + 1, fun k hk => ?_⟩
    obtain ⟨k, rfl⟩ : ∃ q, k = q + 1 := ⟨k - 1, by omega⟩
    simp only [swageref08_Same.l1]
    rw [if_pos (by omega), if_pos (by omega), if_pos (by omega), if_pos trivial, wrapNext hlt (by omega)]
    exact h k (by omega)
theorem sm0 (hc : c.length ≤ 40000) (ho : o.length ≤ 20000) : ∀ m j : Nat, j + m = c.length → ∃ K, ∀ k, K ≤ k → swageref08_Same.l0 k (j : Int) a0 a1 c o a0 a1 c o = some true := by
  intro m
  induction m with
  | zero =>
    intro j hj
    obtain ⟨K, h⟩ := sm1 (a0 := a0) (a1 := a1) (c := c) (o := o) ho o.length 0 (by omega)
    refine ⟨K + 1, fun k hk => ?_⟩
    obtain ⟨k, rfl⟩ : ∃ q, k = q + 1 := ⟨k - 1, by omega⟩
    simp only [swageref08_Same.l0]
    rw [if_neg (by omega)]
    exact h k (by omega)
  | succ m ih =>
    intro j hj
    have hlt : j < c.length := by omega
    obtain ⟨K, h⟩ := ih (j + 1) (by omega)
    refine ⟨K + 1, fun k hk => ?_⟩
    obtain ⟨k, rfl⟩ : ∃ q, k = q + 1 := ⟨k - 1, by omega⟩
    simp only [swageref08_Same.l0]
    rw [if_pos (by omega), if_pos (by omega), if_pos (by omega), if_neg (by simp), wrapNext hlt (by omega)]
    exact h k (by omega)
theorem same_refl (hc : c.length ≤ 40000) (ho : o.length ≤ 20000) : Ev (fun k => swageref08_Same.f k a0 a1 c o a0 a1 c o) true := by
  obtain ⟨K, h⟩ := sm0 (a0 := a0) (a1 := a1) (c := c) (o := o) hc ho c.length 0 (by omega)
  unfold swageref08_Same.f
  refine ⟨K + 1, fun k hk => ?_⟩
  obtain ⟨k, rfl⟩ : ∃ q, k = q + 1 := ⟨k - 1, by omega⟩
  show (if a0 = a0 then _ else _) = _
  rw [if_pos rfl, if_pos rfl, if_pos rfl]
  simp only [swageref08_Same.j0]
  rw [if_neg (by simp)]
  exact h k (by omega)
end
theorem refright_ev {a : S25} (hl : a.f2.length ≤ 4611686018427387904) (ho : a.f3.length ≤ 4611686018427387904) : Ev (fun k => swageref08_Right.f k a.f0 a.f1 a.f2 a.f3) (!(chk a.f0 a.f1 a.f2 a.f3).2) := by
  unfold swageref08_Right.f
  exact Ev.bind (refcheck_ev hl ho) (Ev.now _)
theorem long_at (a : S25) : swagelaw08_long.f a.f0 a.f1 a.f2 a.f3 = some (decide (a.f2.length > 400 ∨ a.f3.length > 400)) := by
  unfold swagelaw08_long.f
  by_cases h : (a.f2.length : Int) > 400
  · rw [if_pos h, decide_eq_true (by omega)]
  · rw [if_neg h]
    exact congrArg some (dec_iff (by omega))
end Go.Proofs.YtkknkdmdglncoaaDoor.PlainJoin
end

section
/- The law ProgJoins, over lists. -/
namespace Go.Proofs.YtkknkdmdglncoaaDoor.Pure
open Go.RowKit Go.Proofs.YtkknkdmdglncoaaDoorW.PrintWords Go.Proofs.YtkknkdmdglncoaaDoorW.PrintLast Go.Proofs.YtkknkdmdglncoaaDoor.XA Go.Proofs.YtkknkdmdglncoaaDoor.SaidProgJoins Go.Proofs.YtkknkdmdglncoaaDoor.PlainProg Go.Proofs.YtkknkdmdglncoaaDoor.PlainJoin Go.Proofs.YtkknkdmdglncoaaDoor.Evs
set_option linter.unusedVariables false
set_option linter.unusedSimpArgs false
theorem ProgJoins : SaidProgJoins.Pure := by
  intro a b hx hy
  have hl : a.f2.length ≤ 4611686018427387904 := by have := hx.2.2.1.1; omega
  have ho : a.f3.length ≤ 4611686018427387904 := by have := hx.2.2.2.1; omega
  have hl' : b.f2.length ≤ 4611686018427387904 := by have := hy.2.2.1.1; omega
  have ho' : b.f3.length ≤ 4611686018427387904 := by have := hy.2.2.2.1; omega
  apply Ev.rounds
  unfold swagelaw08_ProgJoins.f
  refine Ev.bind live_ev (ev_pos rfl ?_)
  have yes : Ev (fun k => swagelaw08_ProgJoins.j0 k true a.f0 a.f1 a.f2 a.f3 b.f0 b.f1 b.f2 b.f3) true := Ev.step (f := fun _ => some true) (fun k => by simp only [swagelaw08_ProgJoins.j0]; rfl) (Ev.now _)
  rw [long_at, long_at]
  by_cases h1 : a.f2.length > 400 ∨ a.f3.length > 400
  · rw [decide_eq_true h1]; exact Ev.bind (Ev.now true) (ev_pos rfl yes)
  rw [decide_eq_false h1]
  refine Ev.bind (Ev.now false) (ev_neg (by decide) ?_)
  by_cases h2 : b.f2.length > 400 ∨ b.f3.length > 400
  · rw [decide_eq_true h2]; exact Ev.bind (Ev.now true) yes
  rw [decide_eq_false h2]
  refine Ev.bind (Ev.now false) ?_
  have jno : ∀ (j : Int × Int × List S37 × List Int × Int), j = (0, 0, [], [], 80) → Ev (fun k => swagelaw08_ProgJoins.j1 k j.2.2.2.2 true a.f0 a.f1 a.f2 a.f3 b.f0 b.f1 b.f2 b.f3 j.1 j.2.1 j.2.2.1 j.2.2.2.1) true := by
    rintro _ rfl
    refine Ev.step (f := fun k => (swagelaw08_live.f k).bind fun t => some t) (fun k => by simp only [swagelaw08_ProgJoins.j1, swagelaw08_empty.f]; rfl) ?_
    exact Ev.bind live_ev (Ev.now _)
  by_cases ra : (chk a.f0 a.f1 a.f2 a.f3).2 = true
  · have r1 := right_ev (ins := a.f0) (regs := a.f1) (code := a.f2) (outs := a.f3) hl ho
    have r2 := refright_ev (a := a) hl ho
    have r3 := refright_ev (a := b) hl' ho'
    rw [ra] at r1 r2
    have hj : Ev (fun k => prog_Join.f k a.f0 a.f1 a.f2 a.f3 b.f0 b.f1 b.f2 b.f3) (0, 0, [], [], 80) := by
      unfold prog_Join.f
      refine Ev.bind r1 (ev_neg (by decide) ?_)
      exact Ev.step (f := fun _ => some (0, 0, [], [], 80)) (fun k => by simp only [prog_Join.j0]; rfl) (Ev.now _)
    refine Ev.step (f := _) (fun k => by simp only [swagelaw08_ProgJoins.j0]; rfl) ?_
    refine Ev.congr (f := fun k => _) (fun k => if_neg (by decide)) ?_
    refine Ev.bind hj (Ev.bind r2 (Ev.bind r3 (ev_neg (by decide) ?_)))
    exact jno _ rfl
  by_cases rb : (chk b.f0 b.f1 b.f2 b.f3).2 = true
  · have ra' : (chk a.f0 a.f1 a.f2 a.f3).2 = false := by simpa using ra
    have r1 := right_ev (ins := a.f0) (regs := a.f1) (code := a.f2) (outs := a.f3) hl ho
    have r4 := right_ev (ins := b.f0) (regs := b.f1) (code := b.f2) (outs := b.f3) hl' ho'
    have r2 := refright_ev (a := a) hl ho
    have r3 := refright_ev (a := b) hl' ho'
    rw [ra'] at r1 r2
    rw [rb] at r3 r4
    have hj : Ev (fun k => prog_Join.f k a.f0 a.f1 a.f2 a.f3 b.f0 b.f1 b.f2 b.f3) (0, 0, [], [], 80) := by
      unfold prog_Join.f
      refine Ev.bind r1 (ev_pos rfl (Ev.bind r4 ?_))
      exact Ev.step (f := fun _ => some (0, 0, [], [], 80)) (fun k => by simp only [prog_Join.j0]; rfl) (Ev.now _)
    refine Ev.step (f := _) (fun k => by simp only [swagelaw08_ProgJoins.j0]; rfl) ?_
    refine Ev.congr (f := fun k => _) (fun k => if_neg (by decide)) ?_
    refine Ev.bind hj (Ev.bind r2 (Ev.bind r3 (ev_pos rfl ?_)))
    exact jno _ rfl
  have ha : Rt a := rt_of (by simpa using ra)
  have hb : Rt b := rt_of (by simpa using rb)
  have hA := ha.h; have hB := hb.h; unfold Head at hA hB
  have ra' : (chk a.f0 a.f1 a.f2 a.f3).2 = false := by simpa using ra
  have rb' : (chk b.f0 b.f1 b.f2 b.f3).2 = false := by simpa using rb
  have r2 := refright_ev (a := a) hl ho
  have r3 := refright_ev (a := b) hl' ho'
  rw [ra'] at r2
  rw [rb'] at r3
  refine Ev.step (f := _) (fun k => by simp only [swagelaw08_ProgJoins.j0]; rfl) ?_
  refine Ev.congr (f := fun k => _) (fun k => if_neg (by decide)) ?_
  refine Ev.bind (join_ev ha hb) (Ev.bind r2 (Ev.bind r3 (ev_pos rfl ?_)))
  have hr := refjoin_ev ha hb
  by_cases e0 : jerr a b = 0
  · rw [if_pos e0] at hr ⊢
    have hj := rt_jn ha hb e0
    have hJ := hj.h; unfold Head at hJ
    refine Ev.step (f := _) (fun k => by simp only [swagelaw08_ProgJoins.j1]; rfl) ?_
    refine Ev.congr (f := fun k => _) (fun k => if_neg (by decide)) ?_
    refine Ev.bind hr (ev_pos rfl (Ev.bind (same_refl (by omega) (by omega)) (ev_pos rfl (Ev.bind live_ev ?_))))
    refine Ev.step (f := _) (fun k => by simp only [swagelaw08_ProgJoins.j2]; rfl) ?_
    refine Ev.congr (f := fun k => _) (fun k => if_neg (by decide)) ?_
    refine ev_pos trivial (Ev.bind (depth_ev ha) (Ev.bind (depth_ev hb) (Ev.bind (depth_ev hj) ?_)))
    have hc := check_ev (ins := (jn a b).f0) (regs := (jn a b).f1) (code := (jn a b).f2) (outs := (jn a b).f3) (by omega) (by omega)
    rw [rt_chk hj] at hc
    refine Ev.bind hc (ev_pos rfl (ev_pos rfl ?_))
    have da := depth_bd ha
    have db := depth_bd hb
    have dj := depth_jn ha hb e0
    simp only
    rw [wr (x := depth a + depth b) (by omega) (by omega), wr (x := depth a + depth b + 1) (by omega) (by omega), decide_eq_true dj]
    exact Ev.now _
  · rw [if_neg e0] at hr ⊢
    refine Ev.step (f := _) (fun k => by simp only [swagelaw08_ProgJoins.j1]; rfl) ?_
    refine Ev.congr (f := fun k => _) (fun k => if_neg (by decide)) ?_
    refine Ev.bind hr (ev_pos rfl (Ev.bind (same_refl (by simp) (by simp)) (ev_pos rfl (Ev.bind live_ev ?_))))
    refine Ev.step (f := _) (fun k => by simp only [swagelaw08_ProgJoins.j2]; rfl) ?_
    refine Ev.congr (f := fun k => _) (fun k => if_neg (by decide)) ?_
    exact ev_neg e0 (Ev.now _)
end Go.Proofs.YtkknkdmdglncoaaDoor.Pure
end

section
/- The row and the card of the law ProgJoins, for every input: out of the pure statement and the walk. No condition. -/
namespace Go.Proofs.YtkknkdmdglncoaaDoor.progJoins
open Go.ChangeShapes Go.WideShapes Go.ChangeAt Go.RowKit Go.Proofs.YtkknkdmdglncoaaDoorW.PrintWords Go.Proofs.YtkknkdmdglncoaaDoor.Opn Go.Proofs.YtkknkdmdglncoaaDoor.XA Go.Proofs.YtkknkdmdglncoaaDoor.SaidProgJoins
open Go.ChangeMaps (open_string shut_string)
set_option linter.unusedVariables false
theorem own : ownKnob Tryd.prog.godebug = none := by kernel_rfl
theorem laidOut : laidOutB Tryd.prog = true := by kernel_rfl
set_option maxRecDepth 100000 in
theorem contract (H : Type) (enc : TypeId × Value → H) (W : World) (base : Nat) (args : Array Value) (ds gs : List (DataW H)) (before : List MemPlace)
    (hval0 : ∀ (j : Nat) t v, Tryd.f6.params[j]? = some t → args[j]? = some v → Value.okWide Tryd.prog W .any base t v)
    (hW : DataW.Whole enc Tryd.prog Tryd.f6.params.toList Rows.progJoinsSpec.vars false W args.toList ds gs before)
    (hsz0 : (DataW.weightsEach Tryd.prog (Tryd.f6.params.toList ++ Rows.progJoinsSpec.plain.varTypes Tryd.prog) (ds ++ gs)).all (· ≤ reachBytes) = true) :
    Calls Tryd.prog 6 args W fun e W' => ∃ v, e = .returned v ∧ Rows.progJoinsSpec.post enc Tryd.prog Tryd.f6 false true false false W args v W' := by
  have hsz : (DataW.weightsEach Tryd.prog (Tryd.f6.params.toList ++ Rows.progJoinsSpec.plain.varTypes Tryd.prog) (ds ++ gs)).all (· ≤ reachBytes) = true := hsz0
  have hval : ∀ (j : Nat) t v, Tryd.f6.params[j]? = some t → args[j]? = some v → Value.okWide Tryd.prog W .any base t v := hval0
  have hW' := hW
  obtain ⟨p, q, hA0, hV, rfl, hfz, hnd⟩ := hW
  have hA : DataW.TrodAll enc Tryd.prog W 0 (fun _ => true) true Tryd.f6.params.toList args.toList ds p := hA0
  rw [Tryd.params6] at hA hval hsz
  obtain ⟨v0, vs0, d0, ds0, p0, q0, hargs, rfl, rfl, h0, r0⟩ := trodAll_cons hA
  obtain ⟨v1, vs1, d1, ds1, p1, q1, rfl, rfl, rfl, h1, r1⟩ := trodAll_cons r0
  obtain ⟨rfl, rfl, rfl⟩ := trodAll_nil r1
  obtain rfl : args = #[v0, v1] := by cases args; simp_all
  obtain ⟨rfl, rfl⟩ := trodVars_none hV
  have lt0 := trod_lt h0
  obtain ⟨⟨cs0⟩, rfl, _⟩ := okWide_struct Tryd.underlying25 (hval 0 25 v0 rfl rfl)
  obtain ⟨x0, hK00, w0⟩ := opened (opnS25) hsz (j := 0) (t := 25) rfl rfl h0
  have hK0 : k25.K W x0 cs0 := hK00
  clear hK00
  obtain ⟨_, _, rfl, rfl, ⟨_, _, rfl, rfl, ⟨_, _, rfl, ⟨A0_2, c0_2, rfl, hl0_2, hC0_2⟩, ⟨A0_3, c0_3, rfl, hl0_3, hC0_3⟩⟩⟩⟩ := hK0
  have lt1 := trod_lt h1
  obtain ⟨⟨cs1⟩, rfl, _⟩ := okWide_struct Tryd.underlying25 (hval 1 25 v1 rfl rfl)
  obtain ⟨x1, hK01, w1⟩ := opened (opnS25) hsz (j := 1) (t := 25) rfl rfl h1
  have hK1 : k25.K W x1 cs1 := hK01
  clear hK01
  obtain ⟨_, _, rfl, rfl, ⟨_, _, rfl, rfl, ⟨_, _, rfl, ⟨A1_2, c1_2, rfl, hl1_2, hC1_2⟩, ⟨A1_3, c1_3, rfl, hl1_3, hC1_3⟩⟩⟩⟩ := hK1
  clear hA0 hval0 hsz0 hsz
  obtain ⟨k, h⟩ := Pure.ProgJoins x0 x1 w0 w1
  refine (swagelaw08_ProgJoins.calls k x0.f0 x0.f1 A0_2 c0_2 x0.f2 A0_3 c0_3 x0.f3 x1.f0 x1.f1 A1_2 c1_2 x1.f2 A1_3 c1_3 x1.f3 true W hC0_2 hl0_2 hC0_3 hl0_3 hC1_2 hl1_2 hC1_3 hl1_3 (⟨rfl⟩) h).mono fun e W' he_ => ?_
  obtain ⟨rfl, bel⟩ := he_
  exact ⟨_, rfl, _, _, _, [], _, [], hW', trodAll_mk1 (shut_bool Tryd.underlying4 _), (trodAll_cons_mk (Below.trod laidOut (by kernel_rfl) (of_decide_eq_true (by kernel_rfl)) h0 bel lt0) (trodAll_cons_mk (Below.trod laidOut (by kernel_rfl) (of_decide_eq_true (by kernel_rfl)) h1 bel lt1) trodAll_mk0)), rfl, bel.frame _, fun h => by cases h⟩
/-- The cells of a datum that is whole numbers and structs of them. -/
def flat : Nat → DataW Unit → List Value
  | 0, _ => []
  | _ + 1, .lit (.int k n) => [.int k n]
  | m + 1, .agg l => (l.map (flat m)).flatten
  | _ + 1, _ => []
/-- A world for the witness: the settled one, the listed variables holding what they hold. -/
noncomputable def laidWorld (os : Os) : World :=
  { World.holding Tryd.prog os ⟨#[], #[], []⟩ with heap := ((((World.holding Tryd.prog os ⟨#[], #[], []⟩).heap.modify ((Tryd.prog.globalNamed "math/bits.deBruijn32tab").getD 0) fun
      | .cells _ t frozen => .cells (flat 5 Rows.laid_math_bits_deBruijn32tab).toArray t frozen
      | o => o).modify ((Tryd.prog.globalNamed "math/bits.deBruijn64tab").getD 0) fun
      | .cells _ t frozen => .cells (flat 5 Rows.laid_math_bits_deBruijn64tab).toArray t frozen
      | o => o).modify ((Tryd.prog.globalNamed "internal/strconv.uint64pow10").getD 0) fun
      | .cells _ t frozen => .cells (flat 5 Rows.laid_internal_strconv_uint64pow10).toArray t frozen
      | o => o) }
theorem laid_met (os : Os) : laidMet Tryd.prog Rows.progJoinsRow.laid ((laidWorld os).forCall (fun _ _ => 0) ⟨#[], #[.agg #[.int .i64 0, .int .i64 0, .slice none 0 0, .slice none 0 0], .agg #[.int .i64 0, .int .i64 0, .slice none 0 0, .slice none 0 0]], []⟩).memory :=
  laidMet_of_run' 8 (by kernel_rfl) (by kernel_rfl)
theorem reads (os : Os) {H : Type} (enc : TypeId × Value → H) : ∃ places, DataW.whole enc Tryd.prog ((laidWorld os).forCall (fun _ _ => 0) ⟨#[], #[.agg #[.int .i64 0, .int .i64 0, .slice none 0 0, .slice none 0 0], .agg #[.int .i64 0, .int .i64 0, .slice none 0 0, .slice none 0 0]], []⟩).memory Tryd.f6.params.toList Rows.progJoinsSpec.vars false (#[.agg #[.int .i64 0, .int .i64 0, .slice none 0 0, .slice none 0 0], .agg #[.int .i64 0, .int .i64 0, .slice none 0 0, .slice none 0 0]] : Array Value).toList 8 = some ([.agg [.lit (.int .i64 0), .lit (.int .i64 0), .nil, .nil], .agg [.lit (.int .i64 0), .lit (.int .i64 0), .nil, .nil]], [], places) :=
  ⟨[], by kernel_rfl⟩
set_option maxRecDepth 100000 in
theorem lifted (os : Os) (started : os.Started) (H : Type) (enc : TypeId × Value → H) (F : Stop.Interp) :
    ReturnsInHanded {} Tryd.checked os 6 .any ((OpenSpec.ofChange Rows.progJoinsSpec).preRow enc Tryd.prog Tryd.f6 Rows.progJoinsRow.domain false Rows.progJoinsRow.laid) (((OpenSpec.ofChange Rows.progJoinsSpec).at F).post enc Tryd.prog Tryd.f6 false true false false) := by
  obtain ⟨places, hx⟩ := reads os enc
  refine returnsInHanded_of_row (C := Tryd.checked) (s := OpenSpec.ofChange Rows.progJoinsSpec) own started (by kernel_rfl) Tryd.func6
    (witness_row_at (enc := enc) (C := Tryd.checked) false (laidWorld os) #[.agg #[.int .i64 0, .int .i64 0, .slice none 0 0, .slice none 0 0], .agg #[.int .i64 0, .int .i64 0, .slice none 0 0, .slice none 0 0]] rfl (by kernel_rfl) (by kernel_rfl) (by kernel_rfl)
      (OpenSpec.preRow_of_cond 8 hx (by kernel_rfl) (fun k hk => by cases hk) (by kernel_rfl) (laid_met os))) ?_
  intro W base args ds gs before hval hW _ _ hsz _ _ _
  exact contract H enc W base args ds gs before hval hW hsz
theorem said : Rows.ProgJoinsSaid :=
  OpenClaim.holds_of_cond 6 Tryd.f6 rfl rfl rfl rfl rfl rfl rfl ⟨rfl, rfl, rfl, rfl, rfl⟩ rfl rfl rfl rfl rfl (by kernel_rfl) Tryd.func6 (by kernel_rfl)
    (of_decide_eq_true (by kernel_rfl)) (by unfold Func.isWrapper; first | (rw [if_pos (by decide +kernel)]; kernel_rfl) | (rw [if_neg (by decide +kernel)]; exact ⟨rfl, rfl⟩))
    (fun os started H enc _ F => by rw [OpenClaim.pre_eq_preRow]; exact lifted os started H enc F)
theorem plain (f : FuncId) (fn : Func) (hf : Tryd.pinned.checked.prog.funcNamed "swage/swagelaw08.ProgJoins" = some f) (hfn : Tryd.pinned.checked.prog.funcs[f]? = some fn) :
    true = Tryd.pinned.checked.prog.looks [] ∧ ∀ (j : Nat) t, fn.params[j]? = some t → Tryd.pinned.checked.prog.wantsStandIn t = false := by
  obtain rfl : f = 6 := Option.some.inj ((show Tryd.prog.funcNamed "swage/swagelaw08.ProgJoins" = some 6 by kernel_rfl).symm.trans hf) |>.symm
  obtain rfl : fn = Tryd.f6 := (Option.some.inj (Tryd.func6.symm.trans hfn)).symm
  refine ⟨by kernel_rfl, fun j t ht => ?_⟩
  rw [Tryd.params6] at ht
  have hm := Array.mem_of_getElem? ht
  have hall : (([25, 25] : List Nat).all fun t => !Tryd.prog.wantsStandIn t) = true := by kernel_rfl
  have := List.all_eq_true.1 hall t (by simpa using hm)
  exact (by simpa using this : Tryd.prog.wantsStandIn t = false)
theorem card : Rows.ProgJoinsCardSaid :=
  Claim7.holds_tied_plain_at .later [] _ _ _ _ said (fun _ h => by cases h) (by kernel_rfl) (fun _ h => by cases h) progJoins_row_tie rfl ⟨rfl, rfl⟩ (by kernel_rfl) rfl plain (by kernel_rfl)
#print axioms card
end Go.Proofs.YtkknkdmdglncoaaDoor.progJoins
namespace Go.Proofs.YtkknkdmdglncoaaDoor
/-- The card, under a short name, for the claim. -/
theorem progJoins_holds : Rows.ProgJoinsCardSaid := progJoins.card
end Go.Proofs.YtkknkdmdglncoaaDoor
end
