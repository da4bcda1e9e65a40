/- Part 20 of the proof of the law CodeCut for every input: words, walks and plain laws. No condition. -/
import Derived.Test.YtccbdcbeinkjgaaRows
import Derived.WalkKit
import Derived.ProofKit
import Derived.OpenShut
import Derived.ShutString
import Derived.ChangeOld
import Derived.Below
import Derived.SizedLaws
import Derived.Test.YtccbdcbeinkjgaaKCodeCut19
section
/- A unit's bytes, read: what Decode answers. -/
namespace Go.Proofs.Ytccbdcbeinkjgaa.PlainDec
open Go.RowKit Go.Proofs.YtccbdcbeinkjgaaW.PrintWords Go.Proofs.YtccbdcbeinkjgaaW.PrintLast Go.Proofs.YtccbdcbeinkjgaaW.PrintMore Go.Proofs.Ytccbdcbeinkjgaa.XA Go.Proofs.Ytccbdcbeinkjgaa.Evs Go.Proofs.Ytccbdcbeinkjgaa.PlainCode Go.Proofs.Ytccbdcbeinkjgaa.PlainChk Go.Proofs.Ytccbdcbeinkjgaa.PlainEnc Go.Proofs.Ytccbdcbeinkjgaa.PlainRef Go.Proofs.Ytccbdcbeinkjgaa.PlainInj
set_option linter.unusedVariables false
set_option linter.unusedSimpArgs false
/-! ### What a reading leaves -/
/-- A list of bytes that memory can hold. -/
structure Src (s : List Int) : Prop where
  b : Bytes s
  l : s.length ≤ 1099511627775
/-- A reading from n on, that begins stopped or not (w0): what was read (x), where it ends (m), whether it stopped (w). -/
def RdS {α : Type} (s : List Int) (n : Nat) (w0 : Bool) (tok : α → List Int) (V : α → Prop) (x : α) (m : Nat) (w : Bool) : Prop :=
  (n ≤ m ∧ m ≤ s.length) ∧ ((w0 = true ∧ w = true ∧ m = n) ∨ (w0 = false ∧ w = false ∧ V x ∧ s.drop n = tok x ++ s.drop m) ∨ (w0 = false ∧ w = true ∧ ∀ y r, V y → (s.drop n).take (m + 1 - n) ≠ (tok y ++ r).take (m + 1 - n)))
def Pre {α : Type} (tok : α → List Int) (V : α → Prop) : Prop := ∀ x y r r', V x → V y → tok x ++ r = tok y ++ r' → x = y ∧ r = r'
/-- Lists that begin alike. -/
theorem begins {L R : List Int} {K : Nat} (h : L.take K = R.take K) : ∃ t, R = L.take K ++ t ∧ (t = [] ∨ K ≤ L.length) := by
  refine ⟨R.drop K, ?_, ?_⟩
  · rw [h, List.take_append_drop]
  · by_cases hk : K ≤ L.length
    · exact .inr hk
    · refine .inl (List.drop_eq_nil_of_le ?_)
      have e := congrArg List.length h
      rw [List.length_take, List.length_take] at e
      omega
section
variable {α β : Type} {s : List Int} {n m p : Nat} {w0 w1 w2 : Bool} {tok1 : α → List Int} {V1 : α → Prop} {x : α} {y : β}
theorem RdS.le (h : RdS s n w0 tok1 V1 x m w1) : m ≤ s.length := h.1.2
theorem RdS.dead (h : RdS s n true tok1 V1 x m w1) : w1 = true ∧ m = n := by
  obtain ⟨_, h | h | h⟩ := h
  · exact h.2
  · exact absurd h.1 (by decide)
  · exact absurd h.1 (by decide)
theorem RdS.live (h : RdS s n w0 tok1 V1 x m false) : w0 = false ∧ V1 x ∧ s.drop n = tok1 x ++ s.drop m := by
  obtain ⟨_, h | h | h⟩ := h
  · exact absurd h.2.1 (by decide)
  · exact ⟨h.1, h.2.2⟩
  · exact absurd h.2.1 (by decide)
theorem RdS.no (h : RdS s n false tok1 V1 x m true) : ∀ y r, V1 y → (s.drop n).take (m + 1 - n) ≠ (tok1 y ++ r).take (m + 1 - n) := by
  obtain ⟨_, h | h | h⟩ := h
  · exact absurd h.1 (by decide)
  · exact absurd h.2.1 (by decide)
  · exact h.2.2
theorem RdS.stop (hn : n ≤ s.length) : RdS s n true tok1 V1 x n true := ⟨⟨Nat.le_refl _, hn⟩, .inl ⟨rfl, rfl, rfl⟩⟩
theorem RdS.any {z : α} (h : RdS s n w0 tok1 V1 x m true) : RdS s n w0 tok1 V1 z m true := by
  obtain ⟨hm, h | h | h⟩ := h
  · exact ⟨hm, .inl h⟩
  · exact absurd h.2.1 (by decide)
  · exact ⟨hm, .inr (.inr h)⟩
/-- What stops behind a good piece stops. -/
theorem no_seq {tok2 : α → β → List Int} {V2 : α → β → Prop} (hp : Pre tok1 V1) (hm : n ≤ m ∧ m ≤ s.length) (hq : m ≤ p ∧ p ≤ s.length) (v : V1 x) (e : s.drop n = tok1 x ++ s.drop m)
    (no2 : ∀ z r, V2 x z → (s.drop m).take (p + 1 - m) ≠ (tok2 x z ++ r).take (p + 1 - m)) (a : α) (z : β) (r : List Int) (va : V1 a) (vz : V2 a z) : (s.drop n).take (p + 1 - n) ≠ (tok1 a ++ (tok2 a z ++ r)).take (p + 1 - n) := by
  intro eq
  have e1 := congrArg List.length e
  rw [List.length_append, List.length_drop, List.length_drop] at e1
  obtain ⟨t, ht, hk⟩ := begins eq
  rw [e, List.take_append, List.take_of_length_le (by omega), List.append_assoc] at ht
  obtain ⟨rfl, er⟩ := hp x a _ _ v va ht.symm
  refine no2 z r vz ?_
  rw [← er, show p + 1 - n - (tok1 x).length = p + 1 - m by omega]
  rcases hk with rfl | hk
  · rw [List.append_nil, List.take_take, Nat.min_self]
  · rw [List.length_drop] at hk
    rw [List.take_left' (by rw [List.length_take, List.length_drop]; omega)]
theorem RdS.seq {tok2 : α → β → List Int} {V2 : α → β → Prop} (hp : Pre tok1 V1) (h1 : RdS s n w0 tok1 V1 x m w1) (h2 : RdS s m w1 (tok2 x) (V2 x) y p w2) :
    RdS s n w0 (fun q : α × β => tok1 q.1 ++ tok2 q.1 q.2) (fun q => V1 q.1 ∧ V2 q.1 q.2) (x, y) p w2 := by
  refine ⟨⟨Nat.le_trans h1.1.1 h2.1.1, h2.1.2⟩, ?_⟩
  obtain ⟨hm, ⟨rfl, rfl, rfl⟩ | ⟨rfl, rfl, v, e⟩ | ⟨rfl, rfl, no⟩⟩ := h1
  · obtain ⟨e1, e2⟩ := h2.dead
    exact .inl ⟨rfl, e1, e2⟩
  · obtain ⟨hq, h2 | ⟨_, rfl, v2, e2⟩ | ⟨_, rfl, no2⟩⟩ := h2
    · exact absurd h2.1 (by decide)
    · exact .inr (.inl ⟨rfl, rfl, ⟨v, v2⟩, by rw [e, e2, List.append_assoc]⟩)
    · refine .inr (.inr ⟨rfl, rfl, fun q r hv => ?_⟩)
      rw [List.append_assoc]
      exact no_seq hp hm hq v e no2 q.1 q.2 r hv.1 hv.2
  · obtain ⟨e1, rfl⟩ := h2.dead
    refine .inr (.inr ⟨rfl, e1, fun q r hv => ?_⟩)
    rw [List.append_assoc]
    exact no q.1 _ hv.1
theorem RdS.map {tok' : β → List Int} {V' : β → Prop} (f : α → β) (h : RdS s n w0 tok1 V1 x m w1) (hv : ∀ x, V1 x → V' (f x) ∧ tok' (f x) = tok1 x) (hs : ∀ y, V' y → ∃ x, V1 x ∧ tok1 x = tok' y ∧ f x = y) (hz : w1 = false → V1 x → y = f x) :
    RdS s n w0 tok' V' y m w1 := by
  obtain ⟨hm, h | ⟨rfl, rfl, v, e⟩ | ⟨rfl, rfl, no⟩⟩ := h
  · exact ⟨hm, .inl h⟩
  · obtain rfl := hz rfl v
    obtain ⟨v', e'⟩ := hv x v
    exact ⟨hm, .inr (.inl ⟨rfl, rfl, v', by rw [e, e']⟩)⟩
  · refine ⟨hm, .inr (.inr ⟨rfl, rfl, fun z r hv' => ?_⟩)⟩
    obtain ⟨x, v, e, _⟩ := hs z hv'
    rw [← e]
    exact no x r v
theorem Pre.map {tok' : β → List Int} {V' : β → Prop} (f : α → β) (h : Pre tok1 V1) (hs : ∀ y, V' y → ∃ x, V1 x ∧ tok1 x = tok' y ∧ f x = y) : Pre tok' V' := by
  intro a b r r' va vb e
  obtain ⟨xa, v1, e1, rfl⟩ := hs a va
  obtain ⟨xb, v2, e2, rfl⟩ := hs b vb
  rw [← e1, ← e2] at e
  obtain ⟨rfl, hr⟩ := h _ _ _ _ v1 v2 e
  exact ⟨rfl, hr⟩
theorem Pre.seq {tok2 : α → β → List Int} {V2 : α → β → Prop} (h1 : Pre tok1 V1) (h2 : ∀ x, V1 x → Pre (tok2 x) (V2 x)) : Pre (fun q : α × β => tok1 q.1 ++ tok2 q.1 q.2) (fun q => V1 q.1 ∧ V2 q.1 q.2) := by
  rintro ⟨a1, a2⟩ ⟨b1, b2⟩ r r' ⟨va1, va2⟩ ⟨vb1, vb2⟩ e
  simp only [List.append_assoc] at e va1 va2 vb1 vb2
  obtain ⟨rfl, e1⟩ := h1 _ _ _ _ va1 vb1 e
  obtain ⟨rfl, e2⟩ := h2 _ va1 _ _ _ _ va2 vb2 e1
  exact ⟨rfl, e2⟩
end
theorem pre_one {V : Int → Prop} : Pre (fun x : Int => [x]) V := by
  intro x y r r' _ _ e
  simp only [List.cons_append, List.nil_append, List.cons.injEq] at e
  exact e
/-! ### A byte -/
section
variable {s : List Int} {n : Nat}
theorem byte_dead (good : Int → Bool) (s : List Int) (a : Int) : byteF good s a true = some (0, a, true) := by unfold byteF; rw [if_pos rfl]
theorem byte_any (hs : Src s) (good : Int → Bool) (hn : n ≤ s.length) (w0 : Bool) : ∃ x m w, byteF good s (n : Int) w0 = some (x, ((m : Nat) : Int), w) ∧ (0 ≤ x ∧ x < 256) ∧ RdS s n w0 (fun x => [x]) (fun x => good x = true ∧ 0 ≤ x ∧ x < 256) x m w := by
  cases w0
  · by_cases h : n = s.length
    · subst h
      refine ⟨0, s.length, true, ?_, by decide, ⟨Nat.le_refl _, hn⟩, .inr (.inr ⟨rfl, rfl, fun y r _ e => ?_⟩)⟩
      · unfold byteF
        rw [if_neg (by decide), if_pos rfl]
      · rw [List.drop_length, show s.length + 1 - s.length = 1 by omega] at e
        cases e
    · have hlt : n < s.length := by omega
      have hb := hs.b s[n] (List.getElem_mem hlt)
      have hl := hs.l
      have hr := rd_at hlt
      have key : byteF good s (n : Int) false = if good s[n] = true then some (s[n], (n : Int) + 1, false) else some (0, (n : Int), true) := by
        unfold byteF
        rw [if_neg (by decide), if_neg (by omega), if_pos (by rw [hr]; omega), hr]
      by_cases hg : good s[n] = true
      · rw [if_pos hg] at key
        exact ⟨s[n], n + 1, false, key, hb, ⟨by omega, hlt⟩, .inr (.inl ⟨rfl, rfl, ⟨hg, hb⟩, List.drop_eq_getElem_cons hlt⟩)⟩
      · rw [if_neg hg] at key
        refine ⟨0, n, true, key, by decide, ⟨Nat.le_refl _, hn⟩, .inr (.inr ⟨rfl, rfl, fun y r hy e => ?_⟩)⟩
        rw [List.drop_eq_getElem_cons hlt, show n + 1 - n = 1 by omega] at e
        simp only [List.cons_append, List.nil_append, List.take_succ_cons, List.cons.injEq] at e
        rw [e.1] at hg
        exact hg hy.1
  · exact ⟨0, n, true, byte_dead good s n, by decide, RdS.stop hn⟩
def Wi (lo hi x : Int) : Prop := (lo ≤ x ∧ x ≤ hi) ∧ 0 ≤ x ∧ x < 256
theorem within_any (hs : Src s) (hn : n ≤ s.length) (w0 : Bool) (lo hi : Int) : ∃ x m w, code_reader_within.f s (n : Int) w0 lo hi = some (x, ((m : Nat) : Int), w) ∧ (0 ≤ x ∧ x < 256) ∧ RdS s n w0 (fun x => [x]) (Wi lo hi) x m w := by
  obtain ⟨x, m, w, e, hx, r⟩ := byte_any hs (fun x => decide (lo ≤ x) && decide (x ≤ hi)) hn w0
  refine ⟨x, m, w, e, hx, r.map id (fun y v => ⟨?_, rfl⟩) (fun y v => ⟨y, ?_, rfl, rfl⟩) (fun _ _ => rfl)⟩
  · simp only [Bool.and_eq_true, decide_eq_true_eq] at v
    exact v
  · simp only [Bool.and_eq_true, decide_eq_true_eq]
    exact v
theorem signed_any (hs : Src s) (hn : n ≤ s.length) (w0 : Bool) : ∃ x m w, code_reader_signed.f s (n : Int) w0 = some (x, ((m : Nat) : Int), w) ∧ RdS s n w0 (fun x => [x % 256]) (fun x => -16 ≤ x ∧ x ≤ 16) x m w := by
  obtain ⟨x, m, w, e, hx, r⟩ := byte_any hs (fun x => decide (x ≤ 16) || decide (240 ≤ x)) hn w0
  refine ⟨s8 x, m, w, ?_, r.map s8 (fun y v => ?_) (fun y v => ⟨y % 256, ?_, rfl, ?_⟩) (fun _ _ => rfl)⟩
  · unfold code_reader_signed.f
    rw [e, Option.bind_some]
  · simp only [Bool.or_eq_true, decide_eq_true_eq] at v
    unfold s8
    refine ⟨by split <;> omega, ?_⟩
    congr 1
    split <;> omega
  · simp only [Bool.or_eq_true, decide_eq_true_eq]
    omega
  · unfold s8
    split <;> omega
theorem mayC_rng {op c : Int} (h : mayC op c = true) : -512 ≤ c ∧ c ≤ 512 := by
  unfold mayC at h
  split at h
  · simp only [Bool.and_eq_true, decide_eq_true_eq] at h; omega
  · split at h
    · simp only [Bool.and_eq_true, decide_eq_true_eq] at h; omega
    · simp only [beq_iff_eq] at h; omega
theorem const_any (hs : Src s) (hn : n ≤ s.length) (w0 : Bool) (op : Int) : ∃ x m w, code_reader_constant.f s (n : Int) w0 op = some (x, ((m : Nat) : Int), w) ∧ RdS s n w0 two (fun c => mayC op c = true) x m w := by
  obtain ⟨h, m1, w1, e1, h1, r1⟩ := byte_any hs (anyLow op) hn w0
  obtain ⟨l, m2, w2, e2, h2, r2⟩ := byte_any hs (fun x => mayC op (both16 h x)) r1.le w1
  refine ⟨both16 h l, m2, w2, ?_, (RdS.seq (tok2 := fun _ x => [x]) (V2 := fun h x => mayC op (both16 h x) = true ∧ 0 ≤ x ∧ x < 256) pre_one r1 r2).map (fun q => both16 q.1 q.2) (fun q v => ⟨v.2.1, ?_⟩) (fun c v => ⟨((c / 256) % 256, c % 256), ⟨⟨?_, by omega⟩, ?_, by omega⟩, rfl, ?_⟩) (fun _ _ => rfl)⟩
  · unfold code_reader_constant.f
    rw [e1, Option.bind_some, e2, Option.bind_some]
  · obtain ⟨⟨_, a0, a1⟩, _, b0, b1⟩ := v
    skip
    unfold two both16
    simp only [List.cons_append, List.nil_append, List.cons.injEq, and_true]
    split <;> omega
  · have hr := mayC_rng v
    refine List.any_eq_true.2 ⟨(c % 256).toNat, List.mem_range.2 (by omega), ?_⟩
    have e : both16 ((c / 256) % 256) (((c % 256).toNat : Nat) : Int) = c := by unfold both16; split <;> omega
    simp only [e]
    exact v
  · have hr := mayC_rng v
    have e : both16 ((c / 256) % 256) (c % 256) = c := by unfold both16; split <;> omega
    simp only [e]
    exact v
  · have hr := mayC_rng v
    simp only
    unfold both16
    split <;> omega
theorem mayC_iff (op c : Int) : mayC op c = true ↔ ConstP op c := by
  unfold mayC ConstP
  by_cases h1 : op = 5 ∨ op = 6
  · rw [if_pos h1]
    simp only [Bool.and_eq_true, decide_eq_true_eq, Bool.not_eq_true', beq_eq_false_iff_ne, ne_eq]
    omega
  · rw [if_neg h1]
    by_cases h2 : op = 7 ∨ op = 8
    · rw [if_pos h2]
      simp only [Bool.and_eq_true, decide_eq_true_eq]
      omega
    · rw [if_neg h2]
      simp only [beq_iff_eq]
      omega
end
/-! ### Lists of pieces -/
section
variable {α : Type} {g : α → List Int} {P : α → Prop} {s : List Int} {n m p k : Nat} {w0 w1 w2 : Bool} {x : α} {xs : List α}
def Ls (P : α → Prop) (k : Nat) (c : List α) : Prop := c.length = k ∧ ∀ i ∈ c, P i
theorem RdS.nil (hn : n ≤ s.length) : RdS s n w0 (fun c : List α => c.flatMap g) (Ls P 0) [] n w0 := by
  cases w0
  · exact ⟨⟨Nat.le_refl _, hn⟩, .inr (.inl ⟨rfl, rfl, ⟨rfl, fun i hi => by cases hi⟩, rfl⟩)⟩
  · exact RdS.stop hn
theorem RdS.cons (hp : Pre g P) (h1 : RdS s n w0 g P x m w1) (h2 : RdS s m w1 (fun c => c.flatMap g) (Ls P k) xs p w2) : RdS s n w0 (fun c => c.flatMap g) (Ls P (k + 1)) (x :: xs) p w2 := by
  refine (RdS.seq (tok2 := fun _ c => c.flatMap g) (V2 := fun _ => Ls P k) hp h1 h2).map (fun q => q.1 :: q.2) (fun q v => ⟨⟨by rw [List.length_cons, v.2.1], fun i hi => ?_⟩, rfl⟩) (fun c v => ?_) (fun _ _ => rfl)
  · rcases List.mem_cons.1 hi with h | h
    · rw [h]; exact v.1
    · exact v.2.2 i h
  · cases c with
    | nil => exact absurd v.1 (by simp)
    | cons a c => exact ⟨(a, c), ⟨v.2 a List.mem_cons_self, by simpa using v.1, fun i hi => v.2 i (List.mem_cons_of_mem _ hi)⟩, rfl, rfl⟩
theorem pre_ls {d : Nat} (hd : ∀ x, (g x).length = d) (hg : ∀ a b, P a → P b → g a = g b → a = b) : Pre (fun c : List α => c.flatMap g) (Ls P k) :=
  fun x y r r' vx vy e => flat_inj hd hg x y r r' (by rw [vx.1, vy.1]) vx.2 vy.2 e
theorem pre_fix {d : Nat} (hd : ∀ x, (g x).length = d) (hg : ∀ a b, P a → P b → g a = g b → a = b) : Pre g P := fun x y r r' vx vy e => by
  obtain ⟨h1, h2⟩ := List.append_inj e (by rw [hd, hd])
  exact ⟨hg _ _ vx vy h1, h2⟩
end
theorem mayb_ok {regs : Int} (hr : regs ≤ 256) {i : S63} (h : mayb regs i = true) : OkI i := by
  have hc := may_const h
  have hm := of_decide_eq_true h
  unfold MayP at hm
  obtain ⟨m0, m1, m2, m3, m4, _⟩ := hm
  have hb : OkB i.f3 := by
    unfold OkB
    by_cases e : i.f0 = 3 ∨ i.f0 = 4
    · have := m3 e; omega
    · have := m4 e; omega
  exact ⟨by unfold OkB; omega, by unfold OkB; omega, by unfold OkB; omega, hb, hc.1, hc.2⟩
theorem pre_ib {regs : Int} (hr : regs ≤ 256) : Pre ib (fun i => mayb regs i = true) := pre_fix (d := 6) (fun _ => rfl) (fun a b ha hb => ib_inj a b (mayb_ok hr ha) (mayb_ok hr hb))
theorem pre_ibs {regs : Int} (hr : regs ≤ 256) {k : Nat} : Pre (fun c : List S63 => c.flatMap ib) (Ls (fun i => mayb regs i = true) k) := pre_ls (d := 6) (fun _ => rfl) (fun a b ha hb => ib_inj a b (mayb_ok hr ha) (mayb_ok hr hb))
/-! ### An instruction -/
section
variable {s : List Int} {n : Nat}
theorem instr_any (hs : Src s) (hn : n ≤ s.length) (w0 : Bool) {regs : Int} (h0 : 0 ≤ regs) (h1 : regs ≤ 255) : ∃ (op t a b c : Int) (n1 n2 n3 n4 n5 : Nat) (w1 w2 w3 w4 w5 : Bool),
    code_reader_within.f s (n : Int) w0 1 8 = some (op, (n1 : Int), w1) ∧ code_reader_within.f s (n1 : Int) w1 0 (wrap64 (regs - 1)) = some (t, (n2 : Int), w2) ∧ code_reader_within.f s (n2 : Int) w2 0 (wrap64 (regs - 1)) = some (a, (n3 : Int), w3) ∧
    code_reader_within.f s (n3 : Int) w3 0 (if op = 3 ∨ op = 4 then wrap64 (regs - 1) else 0) = some (b, (n4 : Int), w4) ∧ code_reader_constant.f s (n4 : Int) w4 op = some (c, (n5 : Int), w5) ∧
    RdS s n w0 ib (fun i => mayb regs i = true) ⟨op, t, a, if op = 3 ∨ op = 4 then b else 0, c⟩ n5 w5 := by
  have hw : wrap64 (regs - 1) = regs - 1 := by unfold wrap64; omega
  rw [hw]
  obtain ⟨op, n1, w1, e1, _, r1⟩ := within_any hs hn w0 1 8
  obtain ⟨t, n2, w2, e2, _, r2⟩ := within_any hs r1.le w1 0 (regs - 1)
  obtain ⟨a, n3, w3, e3, _, r3⟩ := within_any hs r2.le w2 0 (regs - 1)
  obtain ⟨b, n4, w4, e4, _, r4⟩ := within_any hs r3.le w3 0 (if op = 3 ∨ op = 4 then regs - 1 else 0)
  obtain ⟨c, n5, w5, e5, r5⟩ := const_any hs r4.le w4 op
  refine ⟨op, t, a, b, c, n1, n2, n3, n4, n5, w1, w2, w3, w4, w5, e1, e2, e3, e4, e5, ?_⟩
  have p1 : Pre (fun x : Int => [x]) (Wi 1 8) := pre_one
  have s2 := RdS.seq (tok2 := fun _ x => [x]) (V2 := fun _ => Wi 0 (regs - 1)) p1 r1 r2
  have p2 := Pre.seq (tok2 := fun _ x => [x]) (V2 := fun _ => Wi 0 (regs - 1)) p1 (fun _ _ => pre_one)
  have s3 := RdS.seq (tok2 := fun _ x => [x]) (V2 := fun _ => Wi 0 (regs - 1)) p2 s2 r3
  have p3 := Pre.seq (tok2 := fun _ x => [x]) (V2 := fun _ => Wi 0 (regs - 1)) p2 (fun _ _ => pre_one)
  have s4 := RdS.seq (tok2 := fun _ x => [x]) (V2 := fun q => Wi 0 (if q.1.1 = 3 ∨ q.1.1 = 4 then regs - 1 else 0)) p3 s3 r4
  have p4 := Pre.seq (tok2 := fun _ x => [x]) (V2 := fun q => Wi 0 (if q.1.1 = 3 ∨ q.1.1 = 4 then regs - 1 else 0)) p3 (fun _ _ => pre_one)
  have s5 := RdS.seq (tok2 := fun _ => two) (V2 := fun q c => mayC q.1.1.1 c = true) p4 s4 r5
  refine s5.map (fun q => (⟨q.1.1.1.1, q.1.1.1.2, q.1.1.2, q.1.2, q.2⟩ : S63)) (fun q v => ?_) (fun i v => ?_) (fun _ _ => ?_)
  · obtain ⟨⟨⟨⟨v1, v2⟩, v3⟩, v4⟩, v5⟩ := q
    obtain ⟨⟨⟨⟨a1, a2⟩, a3⟩, a4⟩, a5⟩ := v
    simp only at a1 a2 a3 a4 a5 ⊢
    have b4 := a4
    unfold Wi at a1 a2 a3 a4
    refine ⟨decide_eq_true (p := MayP v1 v2 v3 v4 v5 regs) ?_, ?_⟩
    · refine ⟨a1.1, by omega, by omega, fun h => ?_, fun h => ?_, (mayC_iff _ _).1 a5⟩
      · have h' : v1 = 3 ∨ v1 = 4 := h
        rw [if_pos h'] at a4
        show 0 ≤ v4 ∧ v4 < regs
        omega
      · have h' : ¬ (v1 = 3 ∨ v1 = 4) := h
        rw [if_neg h'] at a4
        show v4 = 0
        omega
    · show [v1 % 256, v2 % 256, v3 % 256, v4 % 256] ++ two v5 = ((([v1] ++ [v2]) ++ [v3]) ++ [v4]) ++ two v5
      rw [show v1 % 256 = v1 by omega, show v2 % 256 = v2 by omega, show v3 % 256 = v3 by omega, show v4 % 256 = v4 by omega]
      rfl
  · obtain ⟨i0, i1, i2, i3, i4⟩ := i
    have hm : MayP i0 i1 i2 i3 i4 regs := of_decide_eq_true v
    unfold MayP at hm
    obtain ⟨m0, m1, m2, m3, m4, m5⟩ := hm
    have b4 : Wi 0 (if i0 = 3 ∨ i0 = 4 then regs - 1 else 0) i3 := by
      unfold Wi
      by_cases e : i0 = 3 ∨ i0 = 4
      · rw [if_pos e]; have := m3 e; omega
      · rw [if_neg e]; have := m4 e; omega
    refine ⟨((((i0, i1), i2), i3), i4), ⟨⟨⟨⟨show (1 ≤ i0 ∧ i0 ≤ 8) ∧ 0 ≤ i0 ∧ i0 < 256 by omega, show (0 ≤ i1 ∧ i1 ≤ regs - 1) ∧ 0 ≤ i1 ∧ i1 < 256 by omega⟩, show (0 ≤ i2 ∧ i2 ≤ regs - 1) ∧ 0 ≤ i2 ∧ i2 < 256 by omega⟩, b4⟩, (mayC_iff _ _).2 m5⟩, ?_, rfl⟩
    unfold Wi at b4
    show ((([i0] ++ [i1]) ++ [i2]) ++ [i3]) ++ two i4 = [i0 % 256, i1 % 256, i2 % 256, i3 % 256] ++ two i4
    rw [show i0 % 256 = i0 by omega, show i1 % 256 = i1 by omega, show i2 % 256 = i2 by omega, show i3 % 256 = i3 by omega]
    rfl
  · obtain ⟨⟨⟨⟨a1, a2⟩, a3⟩, a4⟩, a5⟩ := ‹_ ∧ _›
    simp only at a4 ⊢
    by_cases e : op = 3 ∨ op = 4
    · rw [if_pos e]
    · rw [if_neg e] at a4 ⊢
      unfold Wi at a4
      have : b = 0 := by omega
      rw [this]
end
/-! ### A program's instructions -/
section
variable {s : List Int}
theorem code_ev (hs : Src s) {ins regs cnt : Int} (h0 : 0 ≤ regs) (h1 : regs ≤ 255) (hc : cnt ≤ 65535) : ∀ (m j : Nat) (acc : List S63) (n : Nat) (w0 : Bool), n ≤ s.length → (j : Int) + m = cnt → acc.length + m < 3518437208883 →
    ∃ (c : List S63) (n' : Nat) (w' : Bool), RdS s n w0 (fun c => c.flatMap ib) (Ls (fun i => mayb regs i = true) m) c n' w' ∧
      ∀ v, Ev (fun k => code_reader_program.j2 k s (n' : Int) w' ins regs (acc ++ c)) v → Ev (fun k => code_reader_program.l0 k cnt (j : Int) s (n : Int) w0 ins regs acc) v := by
  intro m
  induction m with
  | zero =>
    intro j acc n w0 hn hj hl
    refine ⟨[], n, w0, RdS.nil hn, fun v h => ?_⟩
    rw [List.append_nil] at h
    refine Ev.step (fun k => ?_) h
    simp only [code_reader_program.l0]
    rw [if_neg (by omega)]
  | succ m ih =>
    intro j acc n w0 hn hj hl
    obtain ⟨op, t, a, b, c, n1, n2, n3, n4, n5, w1, w2, w3, w4, w5, e1, e2, e3, e4, e5, r⟩ := instr_any hs hn w0 h0 h1
    have run : ∀ v, Ev (fun k => if w5 = true then code_reader_program.j2 k s (n5 : Int) w5 ins regs acc else if acc.length < 3518437208883 then code_reader_program.l0 k cnt (wrap64 ((j : Int) + 1)) s (n5 : Int) w5 ins regs (acc ++ [(⟨op, t, a, if op = 3 ∨ op = 4 then b else 0, c⟩ : S63)]) else none) v → Ev (fun k => code_reader_program.l0 k cnt (j : Int) s (n : Int) w0 ins regs acc) v := by
      intro v h
      refine Ev.step (f := fun k => code_reader_program.j1 k cnt (j : Int) (decide (op = 3 ∨ op = 4)) s (n3 : Int) w3 ins regs acc op t a 0 0) (fun k => ?_) (Ev.step (fun k => ?_) h)
      · simp only [code_reader_program.l0]
        rw [if_pos (by omega), e1, Option.bind_some, e2, Option.bind_some, e3, Option.bind_some]
        by_cases q : op = 3
        · rw [if_pos q, decide_eq_true (.inl q)]
        · rw [if_neg q]
          congr 1
          by_cases q4 : op = 4
          · rw [decide_eq_true (.inr q4), q4]; rfl
          · rw [decide_eq_false (by omega)]; exact beq_eq_false_iff_ne.2 q4
      · simp only [code_reader_program.j1]
        by_cases q : op = 3 ∨ op = 4
        · rw [if_pos q] at e4
          rw [if_pos (decide_eq_true q), e4, Option.bind_some, e5, Option.bind_some, if_pos q]
        · rw [if_neg q] at e4
          rw [if_neg (by rw [decide_eq_false q]; decide), e4, Option.bind_some, e5, Option.bind_some, if_neg q]
    cases w5
    · obtain ⟨cs, n', w', r', h'⟩ := ih (j + 1) (acc ++ [(⟨op, t, a, if op = 3 ∨ op = 4 then b else 0, c⟩ : S63)]) n5 false r.le (by omega) (by rw [List.length_append, List.length_cons, List.length_nil]; omega)
      refine ⟨_ :: cs, n', w', RdS.cons (pre_ib (by omega)) r r', fun v h => run v (ev_neg (by decide) (ev_pos (by omega) ?_))⟩
      have hw : wrap64 ((j : Int) + 1) = ((j + 1 : Nat) : Int) := by unfold wrap64; omega
      rw [hw]
      refine h' v ?_
      rw [List.append_assoc]
      exact h
    · refine ⟨[], n5, true, (RdS.cons (k := m) (xs := []) (pre_ib (by omega)) r (RdS.stop r.le)).any, fun v h => run v (ev_pos rfl ?_)⟩
      rw [List.append_nil] at h
      exact h
theorem outs_ev (hs : Src s) {ins regs cnt : Int} {code : List S63} (h0 : 0 ≤ regs) (h1 : regs ≤ 255) (hc : cnt ≤ 65535) : ∀ (m j : Nat) (acc : List Int) (n : Nat) (w0 : Bool), n ≤ s.length → (j : Int) + m = cnt → acc.length + m < 17592186044416 →
    ∃ (o : List Int) (n' : Nat) (w' : Bool), RdS s n w0 (fun c => c.flatMap ob) (Ls (fun x => 0 ≤ x ∧ x < regs) m) o n' w' ∧
      Ev (fun k => code_reader_program.l1 k cnt (j : Int) s (n : Int) w0 ins regs code acc) (ins, regs, code, acc ++ o, (n' : Int), w') := by
  intro m
  induction m with
  | zero =>
    intro j acc n w0 hn hj hl
    refine ⟨[], n, w0, RdS.nil hn, ?_⟩
    rw [List.append_nil]
    refine Ev.step (fun k => ?_) (Ev.now _)
    simp only [code_reader_program.l1]
    rw [if_neg (by omega)]
  | succ m ih =>
    intro j acc n w0 hn hj hl
    have hw : wrap64 (regs - 1) = regs - 1 := by unfold wrap64; omega
    obtain ⟨x, n1, w1, e1, _, r1⟩ := within_any hs hn w0 0 (regs - 1)
    have r : RdS s n w0 ob (fun x => 0 ≤ x ∧ x < regs) x n1 w1 := r1.map id (fun y v => by unfold Wi at v; exact ⟨by show 0 ≤ y ∧ y < regs; omega, by show [y % 256] = [y]; rw [show y % 256 = y by omega]⟩) (fun y v => ⟨y, by unfold Wi; omega, by show [y] = [y % 256]; rw [show y % 256 = y by omega], rfl⟩) (fun _ _ => rfl)
    obtain ⟨o, n', w', r', h'⟩ := ih (j + 1) (acc ++ [x]) n1 w1 r.le (by omega) (by rw [List.length_append, List.length_cons, List.length_nil]; omega)
    refine ⟨x :: o, n', w', RdS.cons (pre_fix (d := 1) (fun _ => rfl) (fun a b ha hb h => ob_inj a b (by unfold OkB; omega) (by unfold OkB; omega) h)) r r', ?_⟩
    rw [show acc ++ x :: o = acc ++ [x] ++ o by rw [List.append_assoc]; rfl]
    refine Ev.step (fun k => ?_) h'
    simp only [code_reader_program.l1]
    rw [if_pos (by omega), hw, e1, Option.bind_some, if_pos (by omega), show wrap64 ((j : Int) + 1) = ((j + 1 : Nat) : Int) by unfold wrap64; omega]
theorem bad_none {regs : Int} : ∀ (l : List S63) (j : Nat), (∀ i ∈ l, mayb regs i = true) → bad regs l j = none
  | [], _, _ => rfl
  | i :: l, j, h => by
    rw [bad, if_pos (h i List.mem_cons_self)]
    exact bad_none l (j + 1) (fun q hq => h q (List.mem_cons_of_mem _ hq))
theorem wrong_of {p : S26} (hH : Head p.f0 p.f1 p.f2 p.f3) (hO : outsOk p.f1 p.f3 = true) (hI : ∀ i ∈ p.f2, mayb p.f1 i = true) : wrong p = false := by
  unfold wrong chk codeOf
  rw [if_pos hH, if_pos hO, List.drop_zero, bad_none _ _ hI]
end
/-! ### A program -/
section
variable {s : List Int} {n : Nat}
theorem and255 {x : Int} (h0 : 0 ≤ x) (h1 : x < 4294967296) : Go.bits .and .i64 x 255 = x % 256 := by
  have e32 : (2 : Int) ^ 32 = 4294967296 := by decide
  have h := bits_mask .i64 32 (by decide) (fun n a b => by rw [e32] at b; rw [i64_w]; unfold wrap64; omega) 8 (by decide) x h0 (by rw [e32]; exact h1)
  simpa using h
theorem prog_any (hs : Src s) (hn : n ≤ s.length) (w0 : Bool) : ∃ (p : S26) (n' : Nat) (w' : Bool), Ev (fun k => code_reader_program.f k s (n : Int) w0) (p.f0, p.f1, p.f2, p.f3, (n' : Int), w') ∧ RdS s n w0 (fun p : S26 => pb p.f0 p.f1 p.f2 p.f3) (fun p => wrong p = false) p n' w' := by
  obtain ⟨ins, n1, w1, e1, b1, r1⟩ := within_any hs hn w0 1 128
  obtain ⟨regs, n2, w2, e2, b2, r2⟩ := within_any hs r1.le w1 ins 128
  obtain ⟨hi, n3, w3, e3, b3, r3⟩ := byte_any hs (fun x => decide (x * 256 ≤ 16384)) r2.le w2
  obtain ⟨lo, n4, w4, e4, b4, r4⟩ := byte_any hs (fun x => decide (hi * 256 + x ≤ 16384)) r3.le w3
  obtain ⟨c, n5, w5, r5, h5⟩ := code_ev hs (ins := ins) (regs := regs) (cnt := hi * 256 + lo) (by omega) (by omega) (by omega) (hi * 256 + lo).toNat 0 [] n4 w4 r4.le (by omega) (by simp only [List.length_nil]; omega)
  obtain ⟨q, n6, w6, e6, b6, r6⟩ := within_any hs r5.le w5 1 128
  obtain ⟨o, n7, w7, r7, h7⟩ := outs_ev hs (ins := ins) (regs := regs) (cnt := q) (code := c) (by omega) (by omega) (by omega) q.toNat 0 [] n6 w6 r6.le (by omega) (by simp only [List.length_nil]; omega)
  rw [List.nil_append] at h7
  have ho := or256 (h := hi) (l := lo) b3.1 (by omega) b4.1 (by omega)
  have hw : wrap64 (hi * 256) = hi * 256 := by unfold wrap64; omega
  refine ⟨⟨ins, regs, c, o⟩, n7, w7, ?_, ?_⟩
  · unfold code_reader_program.f
    refine Ev.congr (fun k => ?_) (h5 _ (Ev.step (fun k => ?_) h7))
    · rw [e1, Option.bind_some, e2, Option.bind_some]
      unfold code_reader_program_1.f code_reader_program_2.f
      rw [e3, Option.bind_some, if_pos (by show 0 ≤ hi ∧ hi ≤ 255; omega), e4, Option.bind_some, hw, ho]
      rfl
    · simp only [code_reader_program.j2]
      rw [e6, Option.bind_some, List.nil_append]
      rfl
  · have p1 : Pre (fun x : Int => [x]) (Wi 1 128) := pre_one
    have s2 := RdS.seq (tok2 := fun _ x => [x]) (V2 := fun i => Wi i 128) p1 r1 r2
    have p2 := Pre.seq (tok2 := fun _ x => [x]) (V2 := fun i => Wi i 128) p1 (fun _ _ => pre_one)
    have s3 := RdS.seq (tok2 := fun _ x => [x]) (V2 := fun _ x => decide (x * 256 ≤ 16384) = true ∧ 0 ≤ x ∧ x < 256) p2 s2 r3
    have p3 := Pre.seq (tok2 := fun _ x => [x]) (V2 := fun _ x => decide (x * 256 ≤ 16384) = true ∧ 0 ≤ x ∧ x < 256) p2 (fun _ _ => pre_one)
    have s4 := RdS.seq (tok2 := fun _ x => [x]) (V2 := fun q x => decide (q.2 * 256 + x ≤ 16384) = true ∧ 0 ≤ x ∧ x < 256) p3 s3 r4
    have p4 := Pre.seq (tok2 := fun _ x => [x]) (V2 := fun q x => decide (q.2 * 256 + x ≤ 16384) = true ∧ 0 ≤ x ∧ x < 256) p3 (fun _ _ => pre_one)
    have s5 := RdS.seq (tok2 := fun _ c => c.flatMap ib) (V2 := fun q => Ls (fun i => mayb q.1.1.2 i = true) (q.1.2 * 256 + q.2).toNat) p4 s4 r5
    have p5 := Pre.seq (tok2 := fun _ c => c.flatMap ib) (V2 := fun q => Ls (fun i => mayb q.1.1.2 i = true) (q.1.2 * 256 + q.2).toNat) p4 (fun q v => pre_ibs (by have := v.1.1.2; unfold Wi at this; omega))
    have s6 := RdS.seq (tok2 := fun _ x => [x]) (V2 := fun _ => Wi 1 128) p5 s5 r6
    have p6 := Pre.seq (tok2 := fun _ x => [x]) (V2 := fun _ => Wi 1 128) p5 (fun _ _ => pre_one)
    have s7 := RdS.seq (tok2 := fun _ o => o.flatMap ob) (V2 := fun q => Ls (fun x => 0 ≤ x ∧ x < q.1.1.1.1.2) q.2.toNat) p6 s6 r7
    refine s7.map (fun q => (⟨q.1.1.1.1.1.1, q.1.1.1.1.1.2, q.1.1.2, q.2⟩ : S26)) (fun q v => ?_) (fun p v => ?_) (fun _ _ => rfl)
    · obtain ⟨⟨⟨⟨⟨⟨v1, v2⟩, v3⟩, v4⟩, v5⟩, v6⟩, v7⟩ := q
      obtain ⟨⟨⟨⟨⟨⟨a1, a2⟩, a3⟩, a4⟩, a5⟩, a6⟩, a7⟩ := v
      have a1 : (1 ≤ v1 ∧ v1 ≤ 128) ∧ 0 ≤ v1 ∧ v1 < 256 := a1
      have a2 : (v1 ≤ v2 ∧ v2 ≤ 128) ∧ 0 ≤ v2 ∧ v2 < 256 := a2
      have a3 : v3 * 256 ≤ 16384 ∧ 0 ≤ v3 ∧ v3 < 256 := ⟨of_decide_eq_true a3.1, a3.2⟩
      have a4 : v3 * 256 + v4 ≤ 16384 ∧ 0 ≤ v4 ∧ v4 < 256 := ⟨of_decide_eq_true a4.1, a4.2⟩
      have a5 : v5.length = (v3 * 256 + v4).toNat ∧ ∀ i ∈ v5, mayb v2 i = true := a5
      have a6 : (1 ≤ v6 ∧ v6 ≤ 128) ∧ 0 ≤ v6 ∧ v6 < 256 := a6
      have a7 : v7.length = v6.toNat ∧ ∀ x ∈ v7, 0 ≤ x ∧ x < v2 := a7
      refine ⟨wrong_of (p := ⟨v1, v2, v5, v7⟩) ?_ ?_ a5.2, ?_⟩
      · show (1 ≤ v1 ∧ v1 ≤ v2) ∧ v2 ≤ 128 ∧ v5.length ≤ 16384 ∧ 1 ≤ v7.length ∧ v7.length ≤ 128
        omega
      · exact List.all_eq_true.2 fun x hx => decide_eq_true (a7.2 x hx)
      · show pb v1 v2 v5 v7 = (((((([v1] ++ [v2]) ++ [v3]) ++ [v4]) ++ v5.flatMap ib) ++ [v6]) ++ v7.flatMap ob)
        unfold pb two
        rw [show v1 % 256 = v1 by omega, show v2 % 256 = v2 by omega, show ((v5.length : Int) / 256) % 256 = v3 by omega, show (v5.length : Int) % 256 = v4 by omega, show (v7.length : Int) % 256 = v6 by omega]
        rfl
    · obtain ⟨p0, p1', p2', p3'⟩ := p
      obtain ⟨hH, hO, hI⟩ := not_wrong v
      have hH : (1 ≤ p0 ∧ p0 ≤ p1') ∧ p1' ≤ 128 ∧ p2'.length ≤ 16384 ∧ 1 ≤ p3'.length ∧ p3'.length ≤ 128 := hH
      have hO : ∀ x ∈ p3', 0 ≤ x ∧ x < p1' := fun x hx => of_decide_eq_true (List.all_eq_true.1 hO x hx)
      have hI : ∀ i ∈ p2', mayb p1' i = true := hI
      refine ⟨((((((p0, p1'), ((p2'.length : Int) / 256) % 256), (p2'.length : Int) % 256), p2'), (p3'.length : Int) % 256), p3'), ⟨⟨⟨⟨⟨⟨?_, ?_⟩, ?_, ?_⟩, ?_, ?_⟩, ?_, hI⟩, ?_⟩, ?_, hO⟩, ?_, rfl⟩
      · show (1 ≤ p0 ∧ p0 ≤ 128) ∧ 0 ≤ p0 ∧ p0 < 256
        omega
      · show (p0 ≤ p1' ∧ p1' ≤ 128) ∧ 0 ≤ p1' ∧ p1' < 256
        omega
      · exact decide_eq_true (by show ((p2'.length : Int) / 256) % 256 * 256 ≤ 16384; omega)
      · show 0 ≤ ((p2'.length : Int) / 256) % 256 ∧ ((p2'.length : Int) / 256) % 256 < 256
        omega
      · exact decide_eq_true (by show ((p2'.length : Int) / 256) % 256 * 256 + (p2'.length : Int) % 256 ≤ 16384; omega)
      · show 0 ≤ (p2'.length : Int) % 256 ∧ (p2'.length : Int) % 256 < 256
        omega
      · show p2'.length = (((p2'.length : Int) / 256) % 256 * 256 + (p2'.length : Int) % 256).toNat
        omega
      · show (1 ≤ (p3'.length : Int) % 256 ∧ (p3'.length : Int) % 256 ≤ 128) ∧ 0 ≤ (p3'.length : Int) % 256 ∧ (p3'.length : Int) % 256 < 256
        omega
      · show p3'.length = ((p3'.length : Int) % 256).toNat
        omega
      · show (((((([p0] ++ [p1']) ++ [((p2'.length : Int) / 256) % 256]) ++ [(p2'.length : Int) % 256]) ++ p2'.flatMap ib) ++ [(p3'.length : Int) % 256]) ++ p3'.flatMap ob) = pb p0 p1' p2' p3'
        unfold pb two
        rw [show p0 % 256 = p0 by omega, show p1' % 256 = p1' by omega]
        rfl
end
/-! ### A unit -/
abbrev R18 := Int × Int × (List (S48)) × Int × Int × (List (S63)) × List Int × Int × Int × (List (S63)) × List Int × Int × Int × (List (S63)) × List Int × Int × Int
/-- What Decode answers. -/
def bads (a : Int) : R18 := (0, 0, ([] : List (S48)), 0, 0, ([] : List (S63)), ([] : List Int), 0, 0, ([] : List (S63)), ([] : List Int), 0, 0, ([] : List (S63)), ([] : List Int), 170, a)
def goods (u : S28) : R18 := (u.f0, u.f1, u.f2, u.f3.f0, u.f3.f1, u.f3.f2, u.f3.f3, u.f4.f0, u.f4.f1, u.f4.f2, u.f4.f3, u.f5.f0, u.f5.f1, u.f5.f2, u.f5.f3, 0, 0)
section
variable {s : List Int} {n : Nat}
theorem point_any (hs : Src s) (hn : n ≤ s.length) (w0 : Bool) : ∃ (x y : Int) (n1 n2 : Nat) (w1 w2 : Bool), code_reader_signed.f s (n : Int) w0 = some (x, (n1 : Int), w1) ∧ code_reader_signed.f s (n1 : Int) w1 = some (y, (n2 : Int), w2) ∧ RdS s n w0 qb PIn ⟨x, y⟩ n2 w2 := by
  obtain ⟨x, n1, w1, e1, r1⟩ := signed_any hs hn w0
  obtain ⟨y, n2, w2, e2, r2⟩ := signed_any hs r1.le w1
  have p1 : Pre (fun x : Int => [x % 256]) (fun x => -16 ≤ x ∧ x ≤ 16) := by
    intro a b r r' va vb e
    simp only [List.cons_append, List.nil_append, List.cons.injEq] at e
    exact ⟨by omega, e.2⟩
  exact ⟨x, y, n1, n2, w1, w2, e1, e2, (RdS.seq (tok2 := fun _ x => [x % 256]) (V2 := fun _ x => -16 ≤ x ∧ x ≤ 16) p1 r1 r2).map (fun q => (⟨q.1, q.2⟩ : S48)) (fun q v => ⟨show PIn (⟨q.1, q.2⟩ : S48) from v, rfl⟩) (fun p v => ⟨(p.f0, p.f1), v, rfl, rfl⟩) (fun _ _ => rfl)⟩
theorem pre_qb : Pre qb PIn := pre_fix (d := 2) (fun _ => rfl) qb_inj
theorem pts_ev (hs : Src s) {K1 K2 cnt : Int} (hc : cnt ≤ 65535) (X0 : List Int) : ∀ (m j : Nat) (acc : List S48) (n : Nat) (w0 : Bool), n ≤ s.length → (j : Int) + m = cnt → acc.length + m < 8796093022208 →
    ∃ (c : List S48) (n' : Nat) (w' : Bool), RdS s n w0 (fun c => c.flatMap qb) (Ls PIn m) c n' w' ∧
      ∀ v, Ev (fun k => code_Decode.l2 k X0 0 s (n' : Int) w' K1 K2 (acc ++ c) 0 0 [] [] 0 0 [] [] 0 0 [] []) v → Ev (fun k => code_Decode.l1 k X0 cnt (j : Int) s (n : Int) w0 K1 K2 acc 0 0 0 0 0 0) v := by
  intro m
  induction m with
  | zero =>
    intro j acc n w0 hn hj hl
    refine ⟨[], n, w0, RdS.nil hn, fun v h => ?_⟩
    rw [List.append_nil] at h
    refine Ev.step (fun k => ?_) h
    simp only [code_Decode.l1]
    rw [if_neg (by omega)]
    rfl
  | succ m ih =>
    intro j acc n w0 hn hj hl
    obtain ⟨x, y, n1, n2, w1, w2, e1, e2, r⟩ := point_any hs hn w0
    obtain ⟨c, n', w', r', h'⟩ := ih (j + 1) (acc ++ [(⟨x, y⟩ : S48)]) n2 w2 r.le (by omega) (by rw [List.length_append, List.length_cons, List.length_nil]; omega)
    refine ⟨⟨x, y⟩ :: c, n', w', RdS.cons pre_qb r r', fun v h => Ev.step (fun k => ?_) (h' v (by rw [List.append_assoc]; exact h))⟩
    simp only [code_Decode.l1]
    rw [if_pos (by omega), e1, Option.bind_some, e2, Option.bind_some, if_pos (by omega), show wrap64 ((j : Int) + 1) = ((j + 1 : Nat) : Int) by unfold wrap64; omega]
theorem mark_ev (hs : Src s) (X0 : List Int) (x16 : List Int) (h16 : Bytes x16) (hl : x16.length < 1000) : ∀ (m j : Nat) (n : Nat) (w0 : Bool), n ≤ s.length → j + m = x16.length →
    ∃ (n' : Nat) (w' : Bool), RdS s n w0 (fun _ : Unit => x16.drop j) (fun _ => True) () n' w' ∧
      ∀ v, Ev (fun k => code_Decode.l0 k X0 x16 (x16.length : Int) (x16.length : Int) s (n' : Int) w') v → Ev (fun k => code_Decode.l0 k X0 x16 (x16.length : Int) (j : Int) s (n : Int) w0) v := by
  intro m
  induction m with
  | zero =>
    intro j n w0 hn hj
    obtain rfl : j = x16.length := by omega
    refine ⟨n, w0, ?_, fun v h => h⟩
    rw [List.drop_length]
    cases w0
    · exact ⟨⟨Nat.le_refl _, hn⟩, .inr (.inl ⟨rfl, rfl, trivial, rfl⟩)⟩
    · exact RdS.stop hn
  | succ m ih =>
    intro j n w0 hn hj
    have hlt : j < x16.length := by omega
    have hb := h16 x16[j] (List.getElem_mem hlt)
    have hr := rd_at hlt
    have hw : wrap64 (rd x16 (j : Int)) = x16[j] := by rw [hr]; unfold wrap64; omega
    obtain ⟨x, n1, w1, e1, _, r1⟩ := within_any hs hn w0 x16[j] x16[j]
    obtain ⟨n', w', r', h'⟩ := ih (j + 1) n1 w1 r1.le (by omega)
    have p1 : Pre (fun x : Int => [x]) (Wi x16[j] x16[j]) := pre_one
    refine ⟨n', w', (RdS.seq (tok2 := fun _ _ => x16.drop (j + 1)) (V2 := fun _ _ => True) p1 r1 r').map (fun _ => ()) (fun q v => ⟨trivial, ?_⟩) (fun _ _ => ⟨(x16[j], ()), ⟨by unfold Wi; omega, trivial⟩, ?_, rfl⟩) (fun _ _ => rfl), fun v h => Ev.step (fun k => ?_) (h' v h)⟩
    · have v1 := v.1
      unfold Wi at v1
      rw [List.drop_eq_getElem_cons hlt, show x16[j] = q.1 by omega]
      rfl
    · rw [List.drop_eq_getElem_cons hlt]
      rfl
    · simp only [code_Decode.l0]
      rw [if_pos (by omega), if_pos (by omega), if_pos (by omega), hw, e1, Option.bind_some, show wrap64 ((j : Int) + 1) = ((j + 1 : Nat) : Int) by unfold wrap64; omega]
end
section
variable {s : List Int} {n : Nat}
theorem pre_pb : Pre (fun p : S26 => pb p.f0 p.f1 p.f2 p.f3) (fun p => wrong p = false) := by
  intro p q r r' vp vq e
  obtain ⟨⟨e0, e1, e2, e3⟩, h⟩ := pb_inj (okp_of vp) (okp_of vq) e
  cases p; cases q
  simp only at e0 e1 e2 e3
  subst e0 e1 e2 e3
  exact ⟨rfl, h⟩
theorem mayv_of {u : S28} (hR : Rng u) (hP : ∀ p ∈ u.f2, PIn p) (h3 : wrong u.f3 = false) (h4 : wrong u.f4 = false) (h5 : wrong u.f5 = false) : mayv u = 0 := by
  unfold mayv
  rw [if_pos hR, if_pos (List.all_eq_true.2 fun p hp => decide_eq_true (hP p hp)), if_neg (by rw [h3]; decide), if_neg (by rw [h4]; decide), if_neg (by rw [h5]; decide)]
theorem ck_rng (l : List Int) : 0 ≤ ck l ∧ ck l < 65521 := ckv_rng l 0 0 (by decide) (by decide)
theorem tail_ev (hs : Src s) (hn : n ≤ s.length) (w : Bool) (u : S28) : ∃ (m : Nat) (w' : Bool), RdS s n w (fun _ : Unit => two (ck (s.take n))) (fun _ => True) () m w' ∧
    Ev (fun k => code_Decode.l2 k s 3 s (n : Int) w u.f0 u.f1 u.f2 u.f3.f0 u.f3.f1 u.f3.f2 u.f3.f3 u.f4.f0 u.f4.f1 u.f4.f2 u.f4.f3 u.f5.f0 u.f5.f1 u.f5.f2 u.f5.f3) (if w' = true ∨ m < s.length then bads (m : Int) else goods u) := by
  cases w
  · have hl := hs.l
    have ht := ck_rng (s.take n)
    obtain ⟨x, n1, w1, e1, _, r1⟩ := within_any hs hn false (ck (s.take n) / 256) (ck (s.take n) / 256)
    obtain ⟨y, n2, w2, e2, _, r2⟩ := within_any hs r1.le w1 (ck (s.take n) % 256) (ck (s.take n) % 256)
    have p1 : Pre (fun x : Int => [x]) (Wi (ck (s.take n) / 256) (ck (s.take n) / 256)) := pre_one
    refine ⟨n2, w2, (RdS.seq (tok2 := fun _ x => [x]) (V2 := fun _ => Wi (ck (s.take n) % 256) (ck (s.take n) % 256)) p1 r1 r2).map (fun _ => ()) (fun q v => ⟨trivial, ?_⟩) (fun _ _ => ⟨(ck (s.take n) / 256, ck (s.take n) % 256), ⟨by unfold Wi; omega, by unfold Wi; omega⟩, ?_, rfl⟩) (fun _ _ => rfl), ?_⟩
    · obtain ⟨a, b⟩ := q
      obtain ⟨va, vb⟩ := v
      have va : (ck (s.take n) / 256 ≤ a ∧ a ≤ ck (s.take n) / 256) ∧ 0 ≤ a ∧ a < 256 := va
      have vb : (ck (s.take n) % 256 ≤ b ∧ b ≤ ck (s.take n) % 256) ∧ 0 ≤ b ∧ b < 256 := vb
      show two (ck (s.take n)) = [a] ++ [b]
      unfold two
      rw [show ck (s.take n) / 256 % 256 = a by omega, show ck (s.take n) % 256 = b by omega]
      rfl
    · show [ck (s.take n) / 256] ++ [ck (s.take n) % 256] = two (ck (s.take n))
      unfold two
      rw [show ck (s.take n) / 256 % 256 = ck (s.take n) / 256 by omega]
      rfl
    · have ec : Ev (fun k => code_check.f k (s.take n)) (ck (s.take n)) := check_ev' (by rw [List.length_take]; omega) (fun q hq => hs.b q (List.mem_of_mem_take hq))
      refine Ev.step (f := fun k => (code_check.f k (s.take n)).bind fun t => (code_reader_within.f s (n : Int) false (t / 256) (t / 256)).bind fun a => (code_reader_within.f s a.2.1 a.2.2 (Go.bits .and .i64 t 255) (Go.bits .and .i64 t 255)).bind fun b => if b.2.2 = true then some (bads b.2.1) else if b.2.1 < (s.length : Int) then some (bads b.2.1) else some (goods u)) (fun k => ?_) (Ev.bind ec ?_)
      · simp only [code_Decode.l2]
        rw [if_neg (by omega), if_neg (by decide), if_pos (by omega), if_pos (by omega)]
        rfl
      · rw [and255 ht.1 (by omega), e1, Option.bind_some, e2, Option.bind_some]
        by_cases h : w2 = true
        · rw [show (if w2 = true ∨ n2 < s.length then bads (n2 : Int) else goods u) = bads (n2 : Int) from if_pos (.inl h)]
          exact ev_pos h (Ev.now _)
        · refine ev_neg h ?_
          by_cases h' : n2 < s.length
          · rw [show (if w2 = true ∨ n2 < s.length then bads (n2 : Int) else goods u) = bads (n2 : Int) from if_pos (.inr h')]
            exact ev_pos (by show (n2 : Int) < _; omega) (Ev.now _)
          · rw [show (if w2 = true ∨ n2 < s.length then bads (n2 : Int) else goods u) = goods u from if_neg (fun q => q.elim h h')]
            exact ev_neg (by show ¬ (n2 : Int) < _; omega) (Ev.now _)
  · refine ⟨n, true, RdS.stop hn, Ev.step (fun k => ?_) (Ev.now _)⟩
    simp only [code_Decode.l2]
    rw [if_neg (by omega), if_pos trivial, if_pos (.inl trivial)]
    rfl
theorem body_any (hs : Src s) : ∃ (u : S28) (m : Nat) (w : Bool), RdS s 0 false body (fun u => mayv u = 0) u m w ∧ Pre body (fun u => mayv u = 0) ∧
    ∀ v, Ev (fun k => code_Decode.l2 k s 3 s (m : Int) w u.f0 u.f1 u.f2 u.f3.f0 u.f3.f1 u.f3.f2 u.f3.f3 u.f4.f0 u.f4.f1 u.f4.f2 u.f4.f3 u.f5.f0 u.f5.f1 u.f5.f2 u.f5.f3) v → Ev (fun k => code_Decode.f k s) v := by
  obtain ⟨n1, w1, r1, h1⟩ := mark_ev hs s [65, 78, 86, 49] (by intro x hx; simp only [List.mem_cons, List.not_mem_nil, or_false] at hx; omega) (by decide) 4 0 0 false (Nat.zero_le _) rfl
  obtain ⟨k1, n2, w2, e2, b2, r2⟩ := within_any hs r1.le w1 1 8
  obtain ⟨k2, n3, w3, e3, b3, r3⟩ := within_any hs r2.le w2 1 8
  obtain ⟨cn, n4, w4, e4, b4, r4⟩ := within_any hs r3.le w3 0 255
  obtain ⟨ps, n5, w5, r5, h5⟩ := pts_ev hs (K1 := k1) (K2 := k2) (cnt := cn) (by omega) s cn.toNat 0 [] n4 w4 r4.le (by omega) (by simp only [List.length_nil]; omega)
  obtain ⟨p3, n6, w6, e6, r6⟩ := prog_any hs r5.le w5
  obtain ⟨p4, n7, w7, e7, r7⟩ := prog_any hs r6.le w6
  obtain ⟨p5, n8, w8, e8, r8⟩ := prog_any hs r7.le w7
  have q1 : Pre (fun _ : Unit => ([65, 78, 86, 49] : List Int).drop 0) (fun _ => True) := fun _ _ r r' _ _ e => ⟨rfl, List.append_cancel_left e⟩
  have s2 := RdS.seq (tok2 := fun _ x => [x]) (V2 := fun _ => Wi 1 8) q1 r1 r2
  have q2 := Pre.seq (tok2 := fun _ x => [x]) (V2 := fun _ => Wi 1 8) q1 (fun _ _ => pre_one)
  have s3 := RdS.seq (tok2 := fun _ x => [x]) (V2 := fun _ => Wi 1 8) q2 s2 r3
  have q3 := Pre.seq (tok2 := fun _ x => [x]) (V2 := fun _ => Wi 1 8) q2 (fun _ _ => pre_one)
  have s4 := RdS.seq (tok2 := fun _ x => [x]) (V2 := fun _ => Wi 0 255) q3 s3 r4
  have q4 := Pre.seq (tok2 := fun _ x => [x]) (V2 := fun _ => Wi 0 255) q3 (fun _ _ => pre_one)
  have s5 := RdS.seq (tok2 := fun _ c => c.flatMap qb) (V2 := fun q => Ls PIn q.2.toNat) q4 s4 r5
  have q5 := Pre.seq (tok2 := fun _ c => c.flatMap qb) (V2 := fun q => Ls PIn q.2.toNat) q4 (fun _ _ => pre_ls (d := 2) (fun _ => rfl) qb_inj)
  have s6 := RdS.seq (tok2 := fun _ (p : S26) => pb p.f0 p.f1 p.f2 p.f3) (V2 := fun _ p => wrong p = false) q5 s5 r6
  have q6 := Pre.seq (tok2 := fun _ (p : S26) => pb p.f0 p.f1 p.f2 p.f3) (V2 := fun _ p => wrong p = false) q5 (fun _ _ => pre_pb)
  have s7 := RdS.seq (tok2 := fun _ (p : S26) => pb p.f0 p.f1 p.f2 p.f3) (V2 := fun _ p => wrong p = false) q6 s6 r7
  have q7 := Pre.seq (tok2 := fun _ (p : S26) => pb p.f0 p.f1 p.f2 p.f3) (V2 := fun _ p => wrong p = false) q6 (fun _ _ => pre_pb)
  have s8 := RdS.seq (tok2 := fun _ (p : S26) => pb p.f0 p.f1 p.f2 p.f3) (V2 := fun _ p => wrong p = false) q7 s7 r8
  have q8 := Pre.seq (tok2 := fun _ (p : S26) => pb p.f0 p.f1 p.f2 p.f3) (V2 := fun _ p => wrong p = false) q7 (fun _ _ => pre_pb)
  have hS : ∀ u : S28, mayv u = 0 → ∃ q : ((((((Unit × Int) × Int) × Int) × List S48) × S26) × S26) × S26, (((((((True ∧ Wi 1 8 q.1.1.1.1.1.1.2) ∧ Wi 1 8 q.1.1.1.1.1.2) ∧ Wi 0 255 q.1.1.1.1.2) ∧ Ls PIn q.1.1.1.1.2.toNat q.1.1.1.2) ∧ wrong q.1.1.2 = false) ∧ wrong q.1.2 = false) ∧ wrong q.2 = false) ∧
      (((((((([65, 78, 86, 49] : List Int).drop 0 ++ [q.1.1.1.1.1.1.2]) ++ [q.1.1.1.1.1.2]) ++ [q.1.1.1.1.2]) ++ q.1.1.1.2.flatMap qb) ++ pb q.1.1.2.f0 q.1.1.2.f1 q.1.1.2.f2 q.1.1.2.f3) ++ pb q.1.2.f0 q.1.2.f1 q.1.2.f2 q.1.2.f3) ++ pb q.2.f0 q.2.f1 q.2.f2 q.2.f3) = body u ∧
      (⟨q.1.1.1.1.1.1.2, q.1.1.1.1.1.2, q.1.1.1.2, q.1.1.2, q.1.2, q.2⟩ : S28) = u := by
    intro u hu
    obtain ⟨hR, hP, h3, h4, h5⟩ := mayv_fine hu
    obtain ⟨u0, u1, u2, u3, u4, u5⟩ := u
    have hR : 1 ≤ u0 ∧ 1 ≤ u1 ∧ u0 ≤ 8 ∧ u1 ≤ 8 ∧ u2.length ≤ 255 := hR
    refine ⟨((((((((), u0), u1), (u2.length : Int) % 256), u2), u3), u4), u5), ⟨⟨⟨⟨⟨⟨⟨trivial, ?_⟩, ?_⟩, ?_⟩, ?_, hP⟩, h3⟩, h4⟩, h5⟩, ?_, rfl⟩
    · show (1 ≤ u0 ∧ u0 ≤ 8) ∧ 0 ≤ u0 ∧ u0 < 256
      omega
    · show (1 ≤ u1 ∧ u1 ≤ 8) ∧ 0 ≤ u1 ∧ u1 < 256
      omega
    · show (0 ≤ (u2.length : Int) % 256 ∧ (u2.length : Int) % 256 ≤ 255) ∧ 0 ≤ (u2.length : Int) % 256 ∧ (u2.length : Int) % 256 < 256
      omega
    · show u2.length = ((u2.length : Int) % 256).toNat
      omega
    · unfold body
      rw [show u0 % 256 = u0 by omega, show u1 % 256 = u1 by omega]
      rfl
  refine ⟨⟨k1, k2, ps, p3, p4, p5⟩, n8, w8, s8.map (fun q => (⟨q.1.1.1.1.1.1.2, q.1.1.1.1.1.2, q.1.1.1.2, q.1.1.2, q.1.2, q.2⟩ : S28)) (fun q v => ?_) hS (fun _ _ => rfl), q8.map (fun q => (⟨q.1.1.1.1.1.1.2, q.1.1.1.1.1.2, q.1.1.1.2, q.1.1.2, q.1.2, q.2⟩ : S28)) hS, fun v h => ?_⟩
  · obtain ⟨⟨⟨⟨⟨⟨⟨v0, v1⟩, v2⟩, v3⟩, v4⟩, v5⟩, v6⟩, v7⟩ := q
    obtain ⟨⟨⟨⟨⟨⟨⟨_, a1⟩, a2⟩, a3⟩, a4⟩, a5⟩, a6⟩, a7⟩ := v
    have a1 : (1 ≤ v1 ∧ v1 ≤ 8) ∧ 0 ≤ v1 ∧ v1 < 256 := a1
    have a2 : (1 ≤ v2 ∧ v2 ≤ 8) ∧ 0 ≤ v2 ∧ v2 < 256 := a2
    have a3 : (0 ≤ v3 ∧ v3 ≤ 255) ∧ 0 ≤ v3 ∧ v3 < 256 := a3
    have a4 : v4.length = v3.toNat ∧ ∀ p ∈ v4, PIn p := a4
    refine ⟨mayv_of (u := ⟨v1, v2, v4, v5, v6, v7⟩) (show 1 ≤ v1 ∧ 1 ≤ v2 ∧ v1 ≤ 8 ∧ v2 ≤ 8 ∧ v4.length ≤ 255 by omega) a4.2 a5 a6 a7, ?_⟩
    unfold body
    show _ = (((((((([65, 78, 86, 49] : List Int).drop 0 ++ [v1]) ++ [v2]) ++ [v3]) ++ v4.flatMap qb) ++ pb v5.f0 v5.f1 v5.f2 v5.f3) ++ pb v6.f0 v6.f1 v6.f2 v6.f3) ++ pb v7.f0 v7.f1 v7.f2 v7.f3)
    rw [show v1 % 256 = v1 by omega, show v2 % 256 = v2 by omega, show (v4.length : Int) % 256 = v3 by omega]
    rfl
  · unfold code_Decode.f code_newreader.f code_marked.f
    refine Ev.congr (fun k => ?_) (h1 v (Ev.step (fun k => ?_) (h5 v (Ev.step (f := fun k => (code_reader_program.f k s (n5 : Int) w5).bind fun b => code_Decode.l2 k s (0 + 1) s b.2.2.2.2.1 b.2.2.2.2.2 k1 k2 ps b.1 b.2.1 b.2.2.1 b.2.2.2.1 0 0 [] [] 0 0 [] []) (fun k => ?_) (Ev.bind e6 (Ev.step (f := fun k => (code_reader_program.f k s (n6 : Int) w6).bind fun b => code_Decode.l2 k s (1 + 1) s b.2.2.2.2.1 b.2.2.2.2.2 k1 k2 ps p3.f0 p3.f1 p3.f2 p3.f3 b.1 b.2.1 b.2.2.1 b.2.2.2.1 0 0 [] []) (fun k => ?_) (Ev.bind e7 (Ev.step (f := fun k => (code_reader_program.f k s (n7 : Int) w7).bind fun b => code_Decode.l2 k s (2 + 1) s b.2.2.2.2.1 b.2.2.2.2.2 k1 k2 ps p3.f0 p3.f1 p3.f2 p3.f3 p4.f0 p4.f1 p4.f2 p4.f3 b.1 b.2.1 b.2.2.1 b.2.2.2.1) (fun k => ?_) (Ev.bind e8 (by rw [show (2 : Int) + 1 = 3 from rfl]; exact h))))))))))
    · rw [Option.bind_some, Option.bind_some]
      rfl
    · simp only [code_Decode.l0]
      rw [if_neg (by omega), e2, Option.bind_some, e3, Option.bind_some, e4, Option.bind_some]
      rfl
    · rw [List.nil_append]
      simp only [code_Decode.l2]
      rw [if_pos (by decide), if_pos trivial]
    · show code_Decode.l2 (k + 1) s (0 + 1) s (n6 : Int) w6 k1 k2 ps p3.f0 p3.f1 p3.f2 p3.f3 0 0 [] [] 0 0 [] [] = _
      simp only [code_Decode.l2]
      rw [if_pos (by decide), if_neg (by decide), if_pos (by decide)]
    · show code_Decode.l2 (k + 1) s (1 + 1) s (n7 : Int) w7 k1 k2 ps p3.f0 p3.f1 p3.f2 p3.f3 p4.f0 p4.f1 p4.f2 p4.f3 0 0 [] [] = _
      simp only [code_Decode.l2]
      rw [if_pos (by decide), if_neg (by decide), if_neg (by decide), if_pos (by decide)]
/-- What Decode answers: the unit that these bytes tell, or the place of the first byte behind which no unit's bytes go on. -/
theorem dec_all2 (hs : Src s) : ∃ r, Ev (fun k => code_Decode.f k s) r ∧ ((∃ u, r = goods u ∧ mayv u = 0 ∧ s = told u) ∨ (∃ a : Nat, r = bads (a : Int) ∧ a ≤ s.length ∧ ∀ u, mayv u = 0 → s.take (a + 1) ≠ (told u).take (a + 1))) := by
  obtain ⟨u, m, w, r, hp, h⟩ := body_any hs
  obtain ⟨m', w', r', h'⟩ := tail_ev hs r.le w u
  refine ⟨_, h _ h', ?_⟩
  cases w
  · obtain ⟨_, hu, e⟩ := r.live
    have e0 := e
    rw [List.drop_zero] at e
    have hm := r.le
    have et : s.take m = body u := by
      have e1 := congrArg List.length e
      rw [List.length_append, List.length_drop] at e1
      have e2 := congrArg (List.take m) e
      rw [e2]
      have e3 : m = (body u).length := by omega
      rw [e3, List.take_left]
    rw [et] at r'
    cases w'
    · obtain ⟨_, _, e'⟩ := r'.live
      by_cases hl : m' < s.length
      · rw [if_pos (.inr hl)]
        refine .inr ⟨m', rfl, by omega, fun v hv eq => ?_⟩
        have es : s = told u ++ s.drop m' := by
          unfold told
          rw [List.append_assoc, ← e']
          exact e
        have e1 := congrArg List.length es
        rw [List.length_append, List.length_drop] at e1
        obtain ⟨t, ht, _⟩ := begins eq
        have e2 : s.take (m' + 1) = told u ++ (s.drop m').take 1 := by
          have e3 := congrArg (List.take (m' + 1)) es
          rw [List.take_append, show (told u).take (m' + 1) = told u from List.take_of_length_le (by omega), show m' + 1 - (told u).length = 1 by omega] at e3
          exact e3
        rw [e2, List.append_assoc] at ht
        have hq := told_same (told_inj hv hu ht)
        rw [hq] at ht
        have e4 := congrArg List.length ht
        rw [List.length_append, List.length_append, List.length_take, List.length_drop] at e4
        omega
      · rw [if_neg (by simp; omega)]
        refine .inl ⟨u, rfl, hu, ?_⟩
        have hm' := r'.le
        rw [show m' = s.length by omega, List.drop_length, List.append_nil] at e'
        unfold told
        rw [← e']
        exact e
    · rw [if_pos (.inl rfl)]
      refine .inr ⟨m', rfl, r'.le, fun v hv => ?_⟩
      have h9 := no_seq (tok2 := fun a (_ : Unit) => two (ck (body a))) (V2 := fun _ _ => True) hp r.1 r'.1 hu e0 (fun z q _ => r'.no z q trivial) v () [] hv trivial
      rw [List.drop_zero, Nat.sub_zero, List.append_nil] at h9
      exact h9
  · obtain ⟨rfl, rfl⟩ := r'.dead
    rw [if_pos (.inl rfl)]
    refine .inr ⟨m', rfl, r.le, fun v hv => ?_⟩
    have h9 := r.no v (two (ck (body v))) hv
    rw [List.drop_zero, Nat.sub_zero] at h9
    exact h9
end
end Go.Proofs.Ytccbdcbeinkjgaa.PlainDec
end

section
/- The law CodeCut, over numbers and lists. -/
namespace Go.Proofs.Ytccbdcbeinkjgaa.Pure
open Go.RowKit Go.Proofs.YtccbdcbeinkjgaaW.PrintWords Go.Proofs.YtccbdcbeinkjgaaW.PrintLast Go.Proofs.YtccbdcbeinkjgaaW.PrintMore Go.Proofs.Ytccbdcbeinkjgaa.XA Go.Proofs.Ytccbdcbeinkjgaa.SaidCodeCut Go.Proofs.Ytccbdcbeinkjgaa.PlainCode Go.Proofs.Ytccbdcbeinkjgaa.PlainChk Go.Proofs.Ytccbdcbeinkjgaa.PlainEnc Go.Proofs.Ytccbdcbeinkjgaa.PlainRef Go.Proofs.Ytccbdcbeinkjgaa.PlainInj Go.Proofs.Ytccbdcbeinkjgaa.PlainDec Go.Proofs.Ytccbdcbeinkjgaa.Evs
set_option linter.unusedVariables false
/-! ### The check of a list with one byte changed -/
def ws : Nat → List Int → Int
  | _, [] => 0
  | j, x :: r => ((j : Int) + 1) * x + ws (j + 1) r
theorem ckv_ws : ∀ (l : List Int) (j : Nat) (s : Int), 0 ≤ s → s < 65521 → ckv j s l = (s + ws j l) % 65521
  | [], j, s, h0, h1 => by
    show s = (s + 0) % 65521
    omega
  | x :: r, j, s, h0, h1 => by
    show ckv (j + 1) ((s + ((j : Int) + 1) * x) % 65521) r = (s + (((j : Int) + 1) * x + ws (j + 1) r)) % 65521
    rw [ckv_ws r (j + 1) _ (Int.emod_nonneg _ (by decide)) (Int.emod_lt_of_pos _ (by decide))]
    omega
theorem ws_set : ∀ (l : List Int) (j i : Nat) (h : i < l.length) (y : Int), ws j (l.set i y) = ws j l + ((j : Int) + (i : Int) + 1) * (y - l[i])
  | [], j, i, h, y => by simp at h
  | x :: r, j, 0, h, y => by
    show ((j : Int) + 1) * y + ws (j + 1) r = (((j : Int) + 1) * x + ws (j + 1) r) + ((j : Int) + ((0 : Nat) : Int) + 1) * (y - x)
    rw [show (j : Int) + ((0 : Nat) : Int) + 1 = (j : Int) + 1 by omega, Int.mul_sub]
    omega
  | x :: r, j, i + 1, h, y => by
    have hr : i < r.length := by simpa using h
    show ((j : Int) + 1) * x + ws (j + 1) (r.set i y) = (((j : Int) + 1) * x + ws (j + 1) r) + ((j : Int) + ((i + 1 : Nat) : Int) + 1) * (y - r[i])
    rw [ws_set r (j + 1) i hr y, show (((j + 1 : Nat) : Int) + (i : Int) + 1) = (j : Int) + ((i + 1 : Nat) : Int) + 1 by omega]
    omega
theorem cop : ∀ d : Nat, d < 256 → 0 < d → Nat.gcd 65521 d = 1 := by decide +kernel
theorem no_mul {a d : Int} (ha : ¬ a % 65521 = 0) (hd : d ≠ 0) (h0 : -256 < d) (h1 : d < 256) : ¬ (a * d) % 65521 = 0 := by
  intro h
  have h2 : (65521 : Int) ∣ a * d := Int.dvd_of_emod_eq_zero h
  have h3 : (65521 : Nat) ∣ (a * d).natAbs := by simpa using Int.natAbs_dvd_natAbs.2 h2
  rw [Int.natAbs_mul] at h3
  have h4 : (65521 : Nat) ∣ a.natAbs := Nat.Coprime.dvd_of_dvd_mul_right (cop d.natAbs (by omega) (by omega)) h3
  have h5 : (65521 : Int) ∣ a := by
    have := Int.natCast_dvd_natCast.2 h4
    exact Int.dvd_natAbs.1 (by simpa using this)
  exact ha (Int.emod_eq_zero_of_dvd h5)
theorem ck_set {l : List Int} {i : Nat} (h : i < l.length) {y : Int} (hi : ¬ ((i : Int) + 1) % 65521 = 0) (hy : y ≠ l[i]) (h0 : -256 < y - l[i]) (h1 : y - l[i] < 256) : ck (l.set i y) ≠ ck l := by
  intro e
  unfold ck at e
  rw [ckv_ws _ _ _ (by decide) (by decide), ckv_ws _ _ _ (by decide) (by decide), ws_set l 0 i h y] at e
  refine no_mul (a := (i : Int) + 1) (d := y - l[i]) hi (by omega) h0 h1 ?_
  have e2 : ((0 : Nat) : Int) + (i : Int) + 1 = (i : Int) + 1 := by omega
  rw [e2] at e
  omega
theorem two_inj {a b : Int} (a0 : 0 ≤ a) (a1 : a < 65536) (b0 : 0 ≤ b) (b1 : b < 65536) (h : two a = two b) : a = b := by
  unfold two at h
  simp only [List.cons.injEq, and_true] at h
  omega
theorem told_len (u : S28) : (told u).length = (body u).length + 2 := by
  unfold told two
  rw [List.length_append, List.length_cons, List.length_cons, List.length_nil]
/-- No unit's bytes are another's with one byte changed. -/
theorem told_set {u v : S28} {i : Nat} (h : i < (told u).length) {y : Int} (hy0 : 0 ≤ y) (hy1 : y < 256) (hi : ¬ ((i : Int) + 1) % 65521 = 0) (hy : y ≠ (told u)[i]) : (told u).set i y ≠ told v := by
  intro e
  have hl := congrArg List.length e
  rw [List.length_set, told_len, told_len] at hl
  have hb : (body v).length = (body u).length := by omega
  have cu := ck_rng (body u)
  have cv := ck_rng (body v)
  have hx := bytes_told u (told u)[i] (List.getElem_mem h)
  have split : ∀ w : S28, told w = body w ++ two (ck (body w)) := fun _ => rfl
  have key : (told u).set i y = if i < (body u).length then (body u).set i y ++ two (ck (body u)) else body u ++ (two (ck (body u))).set (i - (body u).length) y := by
    rw [split, List.set_append]
  by_cases hlt : i < (body u).length
  · rw [if_pos hlt, e, split v] at key
    obtain ⟨e1, e2⟩ := List.append_inj key (by rw [List.length_set]; omega)
    have hg : (told u)[i] = (body u)[i] := by
      have : (body u ++ two (ck (body u)))[i]'(by rw [← split]; exact h) = (body u)[i] := List.getElem_append_left hlt
      exact this
    rw [hg] at hy hx
    refine ck_set hlt hi hy (by omega) (by omega) ?_
    rw [← e1]
    exact two_inj cv.1 (by omega) cu.1 (by omega) e2
  · rw [if_neg hlt, e, split v] at key
    obtain ⟨e1, e2⟩ := List.append_inj key (by omega)
    have e3 : told v = told u := by rw [split v, e1]; rfl
    rw [e3] at e
    have e4 := congrArg (fun l => l[i]?) e
    simp only [List.getElem?_set_self h] at e4
    rw [List.getElem?_eq_getElem h] at e4
    exact hy (Option.some.inj e4)
theorem and_any (x : Int) : 0 ≤ Go.bits .and .i64 x 255 ∧ Go.bits .and .i64 x 255 ≤ 255 := by
  have e : (BitVec.ofInt 64 255).toNat = 255 := by decide
  have hk : ∀ n : Nat, n ≤ 255 → IntKind.i64.wrap ((n : Nat) : Int) = (n : Int) := fun n h => by rw [i64_w]; unfold wrap64; omega
  have hle : (BitVec.ofInt 64 x).toNat &&& 255 ≤ 255 := Nat.and_le_right
  have : Go.bits .and .i64 x 255 = (((BitVec.ofInt 64 x).toNat &&& 255 : Nat) : Int) := by
    show IntKind.i64.wrap (((BitVec.ofInt 64 x &&& BitVec.ofInt 64 255).toNat : Nat) : Int) = _
    rw [BitVec.toNat_and, e]
    exact hk _ hle
  rw [this]
  omega
set_option maxRecDepth 100000 in
theorem works_ev : Ev (fun k => swagelaw17_works.f k) true := Ev.of swagelaw17_works.mono (k := 300) (by decide +kernel)
/-- Lists that the statement's memory can hold. -/
theorem held {a : S28} (h : wfS28 a) : Held a := by
  obtain ⟨_, _, ⟨h2, _⟩, ⟨_, _, ⟨h3, _⟩, ⟨h4, _⟩⟩, ⟨_, _, ⟨h5, _⟩, ⟨h6, _⟩⟩, ⟨_, _, ⟨h7, _⟩, ⟨h8, _⟩⟩⟩ := h
  exact ⟨by omega, by omega, by omega, by omega, by omega, by omega, by omega⟩
theorem long_at (a : S28) : ∃ b, swagelaw17_long.f a.f0 a.f1 a.f2 a.f3.f0 a.f3.f1 a.f3.f2 a.f3.f3 a.f4.f0 a.f4.f1 a.f4.f2 a.f4.f3 a.f5.f0 a.f5.f1 a.f5.f2 a.f5.f3 = some b := by
  unfold swagelaw17_long.f
  split <;> exact ⟨_, rfl⟩
theorem short_held {x : S28} (h : Short x) : Held x := by
  have h1 := h.p; have h2 := h.c3; have h3 := h.o3; have h4 := h.c4; have h5 := h.o4; have h6 := h.c5; have h7 := h.o5
  exact ⟨by omega, by omega, by omega, by omega, by omega, by omega, by omega⟩
theorem enc_fine {u : S28} (hu : mayv u = 0) : Ev (fun k => code_Encode.f k u.f0 u.f1 u.f2 u.f3.f0 u.f3.f1 u.f3.f2 u.f3.f3 u.f4.f0 u.f4.f1 u.f4.f2 u.f4.f3 u.f5.f0 u.f5.f1 u.f5.f2 u.f5.f3) (told u, 0) := by
  have hs := (fine_of hu).s
  have m := may_ev' (short_held hs)
  rw [hu] at m
  exact enc_ev hs m
theorem told_src {u : S28} (hu : mayv u = 0) : Src (told u) := by
  have hl := body_len u
  have hf := (fine_of hu).s
  have h1 := hf.p; have h2 := hf.c3; have h3 := hf.o3; have h4 := hf.c4; have h5 := hf.o4; have h6 := hf.c5; have h7 := hf.o5
  refine ⟨bytes_told u, ?_⟩
  unfold told two
  simp only [List.length_append, List.length_cons, List.length_nil]
  omega
def zz : S28 := ⟨0, 0, [], ⟨0, 0, [], []⟩, ⟨0, 0, [], []⟩, ⟨0, 0, [], []⟩⟩
theorem same_zero : Ev (fun k => swagelaw17_same.f k 0 0 ([] : List (S48)) 0 0 ([] : List (S63)) ([] : List Int) 0 0 ([] : List (S63)) ([] : List Int) 0 0 ([] : List (S63)) ([] : List Int) 0 0 ([] : List (S48)) 0 0 ([] : List (S63)) ([] : List Int) 0 0 ([] : List (S63)) ([] : List Int) 0 0 ([] : List (S63)) ([] : List Int)) true := by
  have h := ref_ev (a := zz) (b := zz) ⟨Nat.zero_le _, Nat.zero_le _, Nat.zero_le _, Nat.zero_le _, Nat.zero_le _, Nat.zero_le _, Nat.zero_le _⟩
  rw [usame_self] at h
  unfold swagelaw17_same.f
  exact Ev.bind h (Ev.now _)
theorem cut_j2 {x : S28} (hx : mayv x = 0) {at_ by_ : Int} (c : Bool) (hc : c = false → 0 ≤ at_ ∧ at_ < ((told x).length : Int) ∧ ¬ (at_ + 1) % 65521 = 0 ∧ ¬ Go.bits .and .i64 by_ 255 = 0) : Ev (fun k => swagelaw17_CodeCut.j2 k at_ by_ (told x) c) true := by
  refine Ev.step (f := _) (fun k => by simp only [swagelaw17_CodeCut.j2]; rfl) ?_
  cases c
  · obtain ⟨h0, h1, h2, h3⟩ := hc rfl
    have hd := and_any by_
    have hs := told_src hx
    have hl := hs.l
    obtain ⟨i, rfl⟩ := Int.eq_ofNat_of_zero_le h0
    have hi : i < (told x).length := by omega
    refine ev_neg (by decide) ?_
    have hc : slices_Clone_byte_byte.f (told x) = some (told x) := by
      unfold slices_Clone_byte_byte.f
      rw [Option.bind_some, if_pos (by rw [List.length_nil]; omega), List.nil_append]
    rw [hc]
    refine Ev.congr (fun k => Option.bind_some _ _) (ev_pos h0 (ev_pos h1 ?_))
    rw [rd_at hi, Int.toNat_natCast]
    have hb := bytes_told x (told x)[i] (List.getElem_mem hi)
    have hsrc : Src ((told x).set i (((told x)[i] + Go.bits .and .i64 by_ 255) % 256)) := ⟨fun q hq => by
      rcases List.mem_or_eq_of_mem_set hq with h | h
      · exact bytes_told x q h
      · rw [h]; omega, by rw [List.length_set]; exact hl⟩
    obtain ⟨r, hr, hcs⟩ := dec_all2 hsrc
    refine Ev.bind hr ?_
    rcases hcs with ⟨v, rfl, hv, e⟩ | ⟨a, rfl, ha, no⟩
    · exact absurd e (told_set hi (by omega) (by omega) h2 (by omega))
    · refine ev_pos rfl (ev_pos ?_ (Ev.bind same_zero (Ev.now _)))
      show (a : Int) ≥ (i : Int)
      by_cases hai : i ≤ a
      · omega
      · refine absurd ?_ (no x hx)
        rw [List.take_set_of_le (by omega)]
  · exact ev_pos rfl (Ev.now _)
theorem cut_j1 {x : S28} (hx : mayv x = 0) {at_ by_ : Int} : Ev (fun k => swagelaw17_CodeCut.j1 k at_ by_ (told x)) true := by
  refine Ev.step (f := _) (fun k => by simp only [swagelaw17_CodeCut.j1]; rfl) ?_
  have hl := (told_src hx).l
  by_cases h0 : at_ < 0
  · exact ev_pos h0 (cut_j2 hx true (fun q => by cases q))
  refine ev_neg h0 ?_
  by_cases h1 : at_ ≥ ((told x).length : Int)
  · exact ev_pos h1 (cut_j2 hx true (fun q => by cases q))
  refine ev_neg h1 ?_
  have hw : Int.tmod (wrap64 (at_ + 1)) 65521 = (at_ + 1) % 65521 := by
    rw [show wrap64 (at_ + 1) = at_ + 1 by unfold wrap64; omega, Int.tmod_eq_emod_of_nonneg (by omega)]
  rw [hw]
  by_cases h2 : (at_ + 1) % 65521 = 0
  · exact ev_pos h2 (cut_j2 hx true (fun q => by cases q))
  refine ev_neg h2 (cut_j2 hx _ fun q => ⟨by omega, by omega, h2, ?_⟩)
  exact beq_eq_false_iff_ne.1 q
theorem cut_j0 {x : S28} (hx : mayv x = 0) {cut at_ by_ : Int} (c : Bool) (hc : c = true → 0 ≤ cut ∧ cut < ((told x).length : Int)) : Ev (fun k => swagelaw17_CodeCut.j0 k cut at_ by_ (told x) c) true := by
  refine Ev.step (f := _) (fun k => by simp only [swagelaw17_CodeCut.j0]; rfl) ?_
  cases c
  · exact ev_neg (by decide) (cut_j1 hx)
  · obtain ⟨h0, h1⟩ := hc rfl
    have hs := told_src hx
    have hl := hs.l
    obtain ⟨i, rfl⟩ := Int.eq_ofNat_of_zero_le h0
    refine ev_pos rfl (ev_pos h0 (ev_pos (by omega) ?_))
    rw [Int.toNat_natCast]
    have hsrc : Src ((told x).take i) := ⟨fun q hq => bytes_told x q (List.mem_of_mem_take hq), by rw [List.length_take]; omega⟩
    obtain ⟨r, hr, hcs⟩ := dec_all2 hsrc
    refine Ev.bind hr ?_
    rcases hcs with ⟨v, rfl, hv, e⟩ | ⟨a, rfl, ha, no⟩
    · have e2 : told x = told v ++ (told x).drop i := by rw [← e, List.take_append_drop]
      have e3 := told_same (told_inj hx hv e2)
      have e4 := congrArg List.length e
      rw [List.length_take, ← e3] at e4
      omega
    · rw [List.length_take] at ha
      have hai : a = i := by
        by_cases hlt : a < i
        · refine absurd ?_ (no x hx)
          rw [List.take_take, Nat.min_eq_left (by omega)]
        · omega
      subst hai
      refine ev_neg (by show ¬ ((!((170 : Int) == 170) || !((a : Int) == (a : Int))) = true); simp) (Ev.bind same_zero (ev_pos rfl (cut_j1 hx)))
theorem CodeCut : SaidCodeCut.Pure := by
  intro x cut at_ by_ h0 h1 h2 h3
  refine Ev.rounds (g := fun k => swagelaw17_CodeCut.f k x.f0 x.f1 x.f2 x.f3.f0 x.f3.f1 x.f3.f2 x.f3.f3 x.f4.f0 x.f4.f1 x.f4.f2 x.f4.f3 x.f5.f0 x.f5.f1 x.f5.f2 x.f5.f3 cut at_ by_) ?_
  unfold swagelaw17_CodeCut.f
  refine Ev.bind works_ev (ev_pos rfl ?_)
  obtain ⟨c, hc⟩ := long_at x
  rw [hc]
  refine Ev.congr (fun k => Option.bind_some _ _) ?_
  cases c
  · refine ev_neg (by decide) ?_
    by_cases hm : mayv x = 0
    · refine Ev.bind (enc_fine hm) (ev_pos rfl ?_)
      by_cases hq : cut ≥ 0
      · exact ev_pos hq (cut_j0 hm _ fun q => ⟨hq, of_decide_eq_true q⟩)
      · exact ev_neg hq (cut_j0 hm false fun q => by cases q)
    · exact Ev.bind (enc_no hm (may_ev' (held h0))) (ev_neg hm (Ev.now _))
  · exact ev_pos rfl (Ev.now _)
end Go.Proofs.Ytccbdcbeinkjgaa.Pure
end

section
/- The row of the law CodeCut, for every input: out of the pure statement and the walk. No condition. -/
namespace Go.Proofs.Ytccbdcbeinkjgaa.codeCut
open Go.ChangeShapes Go.WideShapes Go.ChangeAt Go.RowKit Go.Proofs.YtccbdcbeinkjgaaW.PrintWords Go.Proofs.Ytccbdcbeinkjgaa.Opn Go.Proofs.Ytccbdcbeinkjgaa.XA Go.Proofs.Ytccbdcbeinkjgaa.SaidCodeCut
open Go.ChangeMaps (open_string shut_string)
set_option linter.unusedVariables false
theorem own : ownKnob Try.prog.godebug = none := by kernel_rfl
theorem laidOut : laidOutB Try.prog = true := by kernel_rfl
set_option maxRecDepth 100000 in
theorem lifted (os : Os) (started : os.Started) (H : Type) (enc : TypeId × Value → H) :
    ReturnsInHanded {} Try.checked os 8 .any (Rows.codeCutSpec.pre6 enc Try.prog Try.f8 Rows.codeCutRow.domain false) (Rows.codeCutSpec.post enc Try.prog Try.f8 false true false false) := by
  refine returnsInHanded_of_change_sized (C := Try.checked) own started (by kernel_rfl) Try.func8
    (ChangeSpec.witness6 (enc := enc) (C := Try.checked) false ⟨#[], #[.agg #[.int .i64 0, .int .i64 0, .slice none 0 0, .int .i64 0, .int .i64 0, .slice none 0 0, .slice none 0 0, .int .i64 0, .int .i64 0, .slice none 0 0, .slice none 0 0, .int .i64 0, .int .i64 0, .slice none 0 0, .slice none 0 0], .int .i64 0, .int .i64 0, .int .i64 0], []⟩ 8 (by kernel_rfl) (by kernel_rfl) (by kernel_rfl) (by kernel_rfl)) ?_
  intro W base args ds gs before hval0 hW hcnd hsz0 _
  have hsz : (DataW.weightsEach Try.prog (Try.f8.params.toList ++ Rows.codeCutSpec.plain.varTypes Try.prog) (ds ++ gs)).all (· ≤ reachBytes) = true := hsz0
  have hval : ∀ (j : Nat) t v, Try.f8.params[j]? = some t → args[j]? = some v → Value.okWide Try.prog W .any base t v := hval0
  have hW' := hW
  obtain ⟨p, q, hA0, hV, rfl, hfz, hnd⟩ := hW
  have hA : DataW.TrodAll enc Try.prog W 0 (fun _ => true) true Try.f8.params.toList args.toList ds p := hA0
  rw [Try.params8] at hA hval hsz
  obtain ⟨v0, vs0, d0, ds0, p0, q0, hargs, rfl, rfl, h0, r0⟩ := trodAll_cons hA
  obtain ⟨v1, vs1, d1, ds1, p1, q1, rfl, rfl, rfl, h1, r1⟩ := trodAll_cons r0
  obtain ⟨v2, vs2, d2, ds2, p2, q2, rfl, rfl, rfl, h2, r2⟩ := trodAll_cons r1
  obtain ⟨v3, vs3, d3, ds3, p3, q3, rfl, rfl, rfl, h3, r3⟩ := trodAll_cons r2
  obtain ⟨rfl, rfl, rfl⟩ := trodAll_nil r3
  obtain rfl : args = #[v0, v1, v2, v3] := by cases args; simp_all
  obtain ⟨rfl, rfl⟩ := trodVars_none hV
  have lt0 := trod_lt h0
  obtain ⟨⟨cs0⟩, rfl, _⟩ := okWide_struct Try.underlying28 (hval 0 28 v0 rfl rfl)
  obtain ⟨x0, hK00, w0⟩ := opened (opnS28) hsz (j := 0) (t := 28) rfl rfl h0
  have hK0 : k28.K W x0 cs0 := hK00
  clear hK00
  obtain ⟨_, _, rfl, rfl, ⟨_, _, rfl, rfl, ⟨_, _, rfl, ⟨A0_2, c0_2, rfl, hl0_2, hC0_2⟩, ⟨_, _, rfl, ⟨_, _, rfl, rfl, ⟨_, _, rfl, rfl, ⟨_, _, rfl, ⟨A0_5, c0_5, rfl, hl0_5, hC0_5⟩, ⟨A0_6, c0_6, rfl, hl0_6, hC0_6⟩⟩⟩⟩, ⟨_, _, rfl, ⟨_, _, rfl, rfl, ⟨_, _, rfl, rfl, ⟨_, _, rfl, ⟨A0_9, c0_9, rfl, hl0_9, hC0_9⟩, ⟨A0_10, c0_10, rfl, hl0_10, hC0_10⟩⟩⟩⟩, ⟨_, _, rfl, rfl, ⟨_, _, rfl, rfl, ⟨_, _, rfl, ⟨A0_13, c0_13, rfl, hl0_13, hC0_13⟩, ⟨A0_14, c0_14, rfl, hl0_14, hC0_14⟩⟩⟩⟩⟩⟩⟩⟩⟩ := hK0
  obtain ⟨a1, rfl, rfl, rfl, w1⟩ := open_int Try.underlying3 (hval 1 3 v1 rfl rfl) h1
  obtain ⟨a2, rfl, rfl, rfl, w2⟩ := open_int Try.underlying3 (hval 2 3 v2 rfl rfl) h2
  obtain ⟨a3, rfl, rfl, rfl, w3⟩ := open_int Try.underlying3 (hval 3 3 v3 rfl rfl) h3
  clear hA0 hval0 hsz0 hsz
  obtain ⟨k, h⟩ := Pure.CodeCut x0 a1 a2 a3 w0 w1 w2 w3
  refine (swagelaw17_CodeCut.calls k x0.f0 x0.f1 A0_2 c0_2 x0.f2 x0.f3.f0 x0.f3.f1 A0_5 c0_5 x0.f3.f2 A0_6 c0_6 x0.f3.f3 x0.f4.f0 x0.f4.f1 A0_9 c0_9 x0.f4.f2 A0_10 c0_10 x0.f4.f3 x0.f5.f0 x0.f5.f1 A0_13 c0_13 x0.f5.f2 A0_14 c0_14 x0.f5.f3 a1 a2 a3 true W hC0_2 hl0_2 hC0_5 hl0_5 hC0_6 hl0_6 hC0_9 hl0_9 hC0_10 hl0_10 hC0_13 hl0_13 hC0_14 hl0_14 (⟨rfl⟩) h).mono fun e W' he_ => ?_
  obtain ⟨rfl, bel⟩ := he_
  exact ⟨_, rfl, _, _, _, [], _, [], hW', trodAll_mk1 (shut_bool Try.underlying4 _), (trodAll_cons_mk (Below.trod laidOut (by kernel_rfl) (of_decide_eq_true (by kernel_rfl)) h0 bel lt0) (trodAll_cons_mk (shut_int Try.underlying3 w1) (trodAll_cons_mk (shut_int Try.underlying3 w2) (trodAll_cons_mk (shut_int Try.underlying3 w3) trodAll_mk0)))), rfl, bel.frame _, fun h => by cases h⟩
theorem over : Rows.codeCutRow.holds Try.pinned (OpenSpec.ofChange Rows.codeCutSpec) :=
  OpenClaim.holds_of_wide 8 Try.f8 rfl rfl rfl rfl rfl rfl rfl ⟨rfl, rfl, rfl, rfl, rfl⟩ rfl rfl rfl rfl rfl (by kernel_rfl) Try.func8 (by kernel_rfl)
    (of_decide_eq_true (by kernel_rfl)) (by unfold Func.isWrapper; first | (rw [if_pos (by decide +kernel)]; kernel_rfl) | (rw [if_neg (by decide +kernel)]; exact ⟨rfl, rfl⟩))
    (fun os started H enc _ => lifted os started H enc)
theorem proved : Rows.CodeCutSaid := over
#print axioms proved
end Go.Proofs.Ytccbdcbeinkjgaa.codeCut
namespace Go.Proofs.Ytccbdcbeinkjgaa
/-- The row, under a short name, for the claim. -/
theorem codeCut_holds : Rows.CodeCutSaid := codeCut.proved
end Go.Proofs.Ytccbdcbeinkjgaa
end
