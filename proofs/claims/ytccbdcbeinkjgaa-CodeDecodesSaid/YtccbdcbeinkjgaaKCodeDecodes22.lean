/- Part 22 of the proof of the law CodeDecodes for every input: words, walks and plain laws. No condition. -/
import Derived.Test.YtccbdcbeinkjgaaRows
import Derived.WalkKit
import Derived.ProofKit
import Derived.OpenShut
import Derived.ShutString
import Derived.ChangeOld
import Derived.Below
import Derived.SizedLaws
import Derived.Test.YtccbdcbeinkjgaaKCodeDecodes21
set_option linter.unusedVariables false
set_option linter.unusedSimpArgs false
set_option maxHeartbeats 8000000
set_option maxRecDepth 100000
section
namespace Go.Proofs.Ytccbdcbeinkjgaa.PlainDec
open Go.RowKit Go.Proofs.YtccbdcbeinkjgaaW.PrintWords Go.Proofs.YtccbdcbeinkjgaaW.PrintLast Go.Proofs.YtccbdcbeinkjgaaW.PrintMore Go.Proofs.Ytccbdcbeinkjgaa.XA Go.Proofs.Ytccbdcbeinkjgaa.Evs Go.Proofs.Ytccbdcbeinkjgaa.PlainCode Go.Proofs.Ytccbdcbeinkjgaa.PlainChk Go.Proofs.Ytccbdcbeinkjgaa.PlainEnc Go.Proofs.Ytccbdcbeinkjgaa.PlainRef Go.Proofs.Ytccbdcbeinkjgaa.PlainInj
def st (n : Nat) (w : Bool) : Int := if w then (n : Int) else -1
section
variable {s : List Int} {n : Nat}
theorem st_live (n : Nat) : st n false = -1 := rfl
theorem st_dead (n : Nat) : st n true = (n : Int) := rfl
theorem next_dead (s : List Int) (n : Nat) (lo hi : Int) : sR_reader_next.f s (n : Int) (n : Int) lo hi = some (0, (n : Int), (n : Int)) := by
  unfold sR_reader_next.f
  rw [if_pos (by omega)]
theorem next_of (hs : Src s) (hn : n ≤ s.length) (w0 : Bool) {good : Int → Bool} {lo hi : Int} (hg : ∀ b, 0 ≤ b → b < 256 → (good b = true ↔ lo ≤ b ∧ b ≤ hi)) {x : Int} {m : Nat} {w : Bool} (e : byteF good s (n : Int) w0 = some (x, (m : Int), w)) :
    sR_reader_next.f s (n : Int) (st n w0) lo hi = some (x, (m : Int), st m w) := by
  have hl := hs.l
  cases w0
  · unfold byteF at e
    rw [if_neg (by decide)] at e
    unfold sR_reader_next.f
    rw [st_live, if_neg (by decide)]
    by_cases h : (n : Int) = (s.length : Int)
    · rw [if_pos h] at e
      simp only [Option.some.injEq, Prod.mk.injEq] at e
      obtain ⟨rfl, e1, rfl⟩ := e
      obtain rfl : m = n := by omega
      rw [if_pos (by omega), st_dead]
    · have hlt : n < s.length := by omega
      have hr := rd_at hlt
      have hb := hs.b s[n] (List.getElem_mem hlt)
      have w1 : wrap64 (rd s (n : Int)) = s[n] := by rw [hr]; unfold wrap64; omega
      have w2 : wrap64 (wrap64 ((n : Int) + 1) - 1) = (n : Int) := by unfold wrap64; omega
      have w3 : wrap64 ((n : Int) + 1) = (n : Int) + 1 := by unfold wrap64; omega
      rw [if_neg h, if_pos (by rw [hr]; omega), hr] at e
      rw [if_neg (by omega), if_pos (by omega), if_pos (by omega), w2, w3, w1]
      have hgg := hg s[n] hb.1 hb.2
      by_cases q : good s[n] = true
      · rw [if_pos q] at e
        simp only [Option.some.injEq, Prod.mk.injEq] at e
        obtain ⟨rfl, e1, rfl⟩ := e
        have hq := hgg.1 q
        rw [if_neg (by omega), if_neg (by omega), if_pos (by omega), if_pos (by omega), e1, st_live]
      · rw [if_neg q] at e
        simp only [Option.some.injEq, Prod.mk.injEq] at e
        obtain ⟨rfl, e1, rfl⟩ := e
        obtain rfl : m = n := by omega
        rw [st_dead]
        by_cases h1 : s[m] < lo
        · rw [if_pos h1]
        · rw [if_neg h1, if_pos (by
            have : ¬ (lo ≤ s[m] ∧ s[m] ≤ hi) := fun z => q (hgg.2 z)
            omega)]
  · rw [byte_dead] at e
    simp only [Option.some.injEq, Prod.mk.injEq] at e
    obtain ⟨rfl, e1, rfl⟩ := e
    obtain rfl : m = n := by omega
    exact next_dead s m lo hi
theorem next_in (hs : Src s) (hn : n ≤ s.length) (w0 : Bool) {lo hi x : Int} {m : Nat} {w : Bool} (e : cR_within.f s (n : Int) w0 lo hi = some (x, (m : Int), w)) :
    sR_reader_next.f s (n : Int) (st n w0) lo hi = some (x, (m : Int), st m w) :=
  next_of hs hn w0 (fun b _ _ => by simp only [Bool.and_eq_true, decide_eq_true_eq]) e
theorem byte_cases (hs : Src s) (hn : n ≤ s.length) (good : Int → Bool) : (n = s.length ∧ byteF good s (n : Int) false = some (0, (n : Int), true)) ∨
    (∃ h : n < s.length, (0 ≤ s[n] ∧ s[n] < 256) ∧ rd s (n : Int) = s[n] ∧ byteF good s (n : Int) false = if good s[n] = true then some (s[n], ((n + 1 : Nat) : Int), false) else some (0, (n : Int), true)) := by
  have hl := hs.l
  by_cases h : n = s.length
  · refine .inl ⟨h, ?_⟩
    unfold byteF
    rw [if_neg (by decide), if_pos (by omega)]
  · have hlt : n < s.length := by omega
    have hb := hs.b s[n] (List.getElem_mem hlt)
    have hr := rd_at hlt
    refine .inr ⟨hlt, hb, hr, ?_⟩
    unfold byteF
    rw [if_neg (by decide), if_neg (by omega), if_pos (by rw [hr]; omega), hr]
    rfl
theorem next_end (hs : Src s) {lo hi : Int} : sR_reader_next.f s (s.length : Int) (-1) lo hi = some (0, (s.length : Int), (s.length : Int)) :=
  next_of (n := s.length) (lo := lo) (hi := hi) (good := fun x => decide (lo ≤ x) && decide (x ≤ hi)) hs (Nat.le_refl _) false (fun b _ _ => by simp only [Bool.and_eq_true, decide_eq_true_eq]) (x := 0) (m := s.length) (w := true) (by
    unfold byteF
    rw [if_neg (by decide), if_pos rfl])
theorem next_at (hs : Src s) (h : n < s.length) {lo hi : Int} : sR_reader_next.f s (n : Int) (-1) lo hi = if lo ≤ s[n] ∧ s[n] ≤ hi then some (s[n], ((n + 1 : Nat) : Int), -1) else some (0, (n : Int), (n : Int)) := by
  rcases byte_cases hs (Nat.le_of_lt h) (fun x => decide (lo ≤ x) && decide (x ≤ hi)) with ⟨h', _⟩ | ⟨_, hb, _, e⟩
  · omega
  · have hg : ∀ b : Int, 0 ≤ b → b < 256 → ((decide (lo ≤ b) && decide (b ≤ hi)) = true ↔ lo ≤ b ∧ b ≤ hi) := fun b _ _ => by simp only [Bool.and_eq_true, decide_eq_true_eq]
    by_cases q : lo ≤ s[n] ∧ s[n] ≤ hi
    · rw [if_pos q]
      rw [if_pos ((hg _ hb.1 hb.2).2 q)] at e
      exact next_of hs (Nat.le_of_lt h) false hg (x := s[n]) (m := n + 1) (w := false) e
    · rw [if_neg q]
      rw [if_neg (fun z => q ((hg _ hb.1 hb.2).1 z))] at e
      exact next_of hs (Nat.le_of_lt h) false hg (x := 0) (m := n) (w := true) e
theorem some3 {a a' : Int} {b b' : Nat} {c c' : Bool} (h : some (a, (b : Int), c) = some (a', (b' : Int), c')) : a = a' ∧ b = b' ∧ c = c' := by
  simp only [Option.some.injEq, Prod.mk.injEq] at h
  exact ⟨h.1, by omega, h.2.2⟩
theorem coord_of (hs : Src s) (hn : n ≤ s.length) (w0 : Bool) {x : Int} {m : Nat} {w : Bool} (e : cR_signed.f s (n : Int) w0 = some (x, (m : Int), w)) : ∃ x2, (w = false → x2 = x) ∧ Ev (fun k => sR_reader_coordinate.f k s (n : Int) (st n w0)) (x2, (m : Int), st m w) := by
  unfold cR_signed.f at e
  unfold sR_reader_coordinate.f
  cases w0
  · rw [st_live]
    rcases byte_cases hs hn (fun x => decide (x ≤ 16) || decide (240 ≤ x)) with ⟨h, h2⟩ | ⟨h, hb, hr, h2⟩
    · rw [h2, Option.bind_some] at e
      obtain ⟨_, rfl, rfl⟩ := some3 e
      refine ⟨0, (fun q => absurd q (by simp)), ev_pos (by decide) (ev_neg (by omega) (Ev.step (f := _) (fun k => by simp only [sR_reader_coordinate.j0]; rfl) (ev_neg (by decide) ?_)))⟩
      subst h
      rw [next_end hs, st_dead]
      exact Ev.now _
    · by_cases hg : s[n] ≥ 128
      · by_cases q : 240 ≤ s[n]
        · rw [h2, if_pos (by simp only [Bool.or_eq_true, decide_eq_true_eq]; omega), Option.bind_some] at e
          obtain ⟨rfl, rfl, rfl⟩ := some3 e
          refine ⟨s[n] - 256, fun _ => by unfold s8; split <;> omega, ev_pos (by decide) (ev_pos (by omega) (ev_pos (by omega) ?_))⟩
          rw [hr, decide_eq_true hg]
          refine Ev.step (f := _) (fun k => by simp only [sR_reader_coordinate.j0]; rfl) (ev_pos trivial ?_)
          rw [next_at hs h, if_pos (by omega), Option.bind_some, show wrap64 (s[n] - 256) = s[n] - 256 by unfold wrap64; omega, st_live]
          exact Ev.now _
        · rw [h2, if_neg (by simp only [Bool.or_eq_true, decide_eq_true_eq]; omega), Option.bind_some] at e
          obtain ⟨rfl, rfl, rfl⟩ := some3 e
          refine ⟨wrap64 (0 - 256), (fun q => absurd q (by simp)), ev_pos (by decide) (ev_pos (by omega) (ev_pos (by omega) ?_))⟩
          rw [hr, decide_eq_true hg]
          refine Ev.step (f := _) (fun k => by simp only [sR_reader_coordinate.j0]; rfl) (ev_pos trivial ?_)
          rw [next_at hs h, if_neg (by omega), Option.bind_some, st_dead]
          exact Ev.now _
      · by_cases q : s[n] ≤ 16
        · rw [h2, if_pos (by simp only [Bool.or_eq_true, decide_eq_true_eq]; omega), Option.bind_some] at e
          obtain ⟨rfl, rfl, rfl⟩ := some3 e
          refine ⟨s[n], fun _ => by unfold s8; split <;> omega, ev_pos (by decide) (ev_pos (by omega) (ev_pos (by omega) ?_))⟩
          rw [hr, decide_eq_false hg]
          refine Ev.step (f := _) (fun k => by simp only [sR_reader_coordinate.j0]; rfl) (ev_neg (by decide) ?_)
          rw [next_at hs h, if_pos (by omega), Option.bind_some, st_live]
          exact Ev.now _
        · rw [h2, if_neg (by simp only [Bool.or_eq_true, decide_eq_true_eq]; omega), Option.bind_some] at e
          obtain ⟨rfl, rfl, rfl⟩ := some3 e
          refine ⟨0, (fun q => absurd q (by simp)), ev_pos (by decide) (ev_pos (by omega) (ev_pos (by omega) ?_))⟩
          rw [hr, decide_eq_false hg]
          refine Ev.step (f := _) (fun k => by simp only [sR_reader_coordinate.j0]; rfl) (ev_neg (by decide) ?_)
          rw [next_at hs h, if_neg (by omega), Option.bind_some, st_dead]
          exact Ev.now _
  · rw [byte_dead, Option.bind_some] at e
    obtain ⟨_, rfl, rfl⟩ := some3 e
    refine ⟨0, (fun q => absurd q (by simp)), ev_neg (by rw [st_dead]; omega) (Ev.step (f := _) (fun k => by simp only [sR_reader_coordinate.j0]; rfl) (ev_neg (by decide) ?_))⟩
    rw [st_dead, next_dead, Option.bind_some]
    exact Ev.now _
theorem may5 {op : Int} (h : op = 5 ∨ op = 6) (c : Int) : mayC op c = mayC 5 c := by unfold mayC; rw [if_pos h, if_pos (.inl rfl)]
theorem may7 {op : Int} (h : op = 7 ∨ op = 8) (c : Int) : mayC op c = mayC 7 c := by
  unfold mayC
  rw [if_neg (by omega), if_pos h, if_neg (by decide), if_pos (.inl rfl)]
theorem may1 {op : Int} (h : ¬ (op = 5 ∨ op = 6)) (h' : ¬ (op = 7 ∨ op = 8)) (c : Int) : mayC op c = mayC 1 c := by
  unfold mayC
  rw [if_neg h, if_neg h', if_neg (by decide), if_neg (by decide)]
theorem low_congr {op q : Int} (h : ∀ c, mayC op c = mayC q c) (x : Int) : anyLow op x = anyLow q x := by
  unfold anyLow
  simp only [h]
theorem low5 : ∀ b : Nat, b < 256 → anyLow 5 (b : Int) = (decide (254 ≤ b) || decide (b ≤ 2)) := by decide +kernel
theorem low7 : ∀ b : Nat, b < 256 → anyLow 7 (b : Int) = decide (b = 0) := by decide +kernel
theorem low1 : ∀ b : Nat, b < 256 → anyLow 1 (b : Int) = decide (b = 0) := by decide +kernel
theorem low5i {b : Int} (h0 : 0 ≤ b) (h1 : b < 256) : anyLow 5 b = true ↔ 254 ≤ b ∨ b ≤ 2 := by
  obtain ⟨n, rfl⟩ := Int.eq_ofNat_of_zero_le h0
  rw [low5 n (by omega)]
  simp only [Bool.or_eq_true, decide_eq_true_eq]
  omega
theorem low7i {b : Int} (h0 : 0 ≤ b) (h1 : b < 256) : anyLow 7 b = true ↔ 0 ≤ b ∧ b ≤ 0 := by
  obtain ⟨n, rfl⟩ := Int.eq_ofNat_of_zero_le h0
  rw [low7 n (by omega)]
  simp only [decide_eq_true_eq]
  omega
theorem low1i {b : Int} (h0 : 0 ≤ b) (h1 : b < 256) : anyLow 1 b = true ↔ 0 ≤ b ∧ b ≤ 0 := by
  obtain ⟨n, rfl⟩ := Int.eq_ofNat_of_zero_le h0
  rw [low1 n (by omega)]
  simp only [decide_eq_true_eq]
  omega
theorem byte_zero (hs : Src s) (hn : n ≤ s.length) (w0 : Bool) {good : Int → Bool} {x : Int} {m : Nat} (e : byteF good s (n : Int) w0 = some (x, (m : Int), true)) : x = 0 ∧ m = n := by
  cases w0
  · rcases byte_cases hs hn good with ⟨h, h2⟩ | ⟨h, hb, hr, h2⟩
    · rw [h2] at e
      obtain ⟨rfl, rfl, _⟩ := some3 e
      exact ⟨rfl, rfl⟩
    · rw [h2] at e
      by_cases q : good s[n] = true
      · rw [if_pos q] at e
        exact absurd (some3 e).2.2 (by decide)
      · rw [if_neg q] at e
        obtain ⟨rfl, rfl, _⟩ := some3 e
        exact ⟨rfl, rfl⟩
  · rw [byte_dead] at e
    obtain ⟨rfl, rfl, _⟩ := some3 e
    exact ⟨rfl, rfl⟩
theorem const_of (hs : Src s) (hn : n ≤ s.length) (w0 : Bool) {op x : Int} {m : Nat} {w : Bool} (e : cR_constant.f s (n : Int) w0 op = some (x, (m : Int), w)) : ∃ x2, (w = false → x2 = x) ∧ Ev (fun k => sR_reader_constant.f k s (n : Int) (st n w0) op) (x2, (m : Int), st m w) := by
  obtain ⟨h, n1, w1, eh, bh, rh⟩ := byte_any hs (anyLow op) hn w0
  obtain ⟨l, n2, w2, el, bl, rl⟩ := byte_any hs (fun x => mayC op (both16 h x)) rh.le w1
  unfold cR_constant.f at e
  rw [eh, Option.bind_some, el, Option.bind_some] at e
  obtain ⟨rfl, rfl, rfl⟩ := some3 e
  have hz : w1 = true → h = 0 ∧ n1 = n := fun q => by subst q; exact byte_zero hs hn w0 eh
  unfold sR_reader_constant.f
  by_cases h5 : op = 5 ∨ op = 6
  · have hm := may5 h5
    have hlow := low_congr hm
    have hj : ∀ v, Ev (fun k => sR_reader_constant.j0 k op true s (n : Int) (st n w0)) v → Ev (fun k => if op = 5 then sR_reader_constant.j0 k op (op == 5) s (n : Int) (st n w0) else sR_reader_constant.j0 k op (op == 6) s (n : Int) (st n w0)) v := by
      intro v hv
      by_cases q : op = 5
      · refine ev_pos q ?_
        rw [beq_iff_eq.2 q]
        exact hv
      · refine ev_neg q ?_
        rw [beq_iff_eq.2 (show op = 6 by omega)]
        exact hv
    -- the second byte behind what begins with less than 128
    have small : (h = 0 ∨ h = 1 ∨ h = 2) → sR_reader_next.f s (n : Int) (st n w0) 0 2 = some (h, (n1 : Int), st n1 w1) → ∃ x2, (w2 = false → x2 = both16 h l) ∧ Ev (fun k => sR_reader_constant.j1 k false s (n : Int) (st n w0)) (x2, (n2 : Int), st n2 w2) := by
      intro hh he
      rcases hh with rfl | rfl | rfl
      · have e2 := next_of (lo := 1) (hi := 255) hs rh.le w1 (fun b b0 b1 => by
          simp only [hm]
          unfold mayC both16
          rw [if_pos (.inl rfl)]
          simp only [Bool.and_eq_true, decide_eq_true_eq, Bool.not_eq_true', beq_eq_false_iff_ne, ne_eq]
          split <;> omega) el
        refine ⟨l, fun _ => by unfold both16; rw [if_pos (by decide)]; omega, Ev.step (f := _) (fun k => by simp only [sR_reader_constant.j1]; rfl) (ev_neg (by decide) ?_)⟩
        rw [he, Option.bind_some]
        refine ev_pos rfl ?_
        rw [e2, Option.bind_some]
        exact Ev.now _
      · have e2 := next_of (lo := 0) (hi := 255) hs rh.le w1 (fun b b0 b1 => by
          simp only [hm]
          unfold mayC both16
          rw [if_pos (.inl rfl)]
          simp only [Bool.and_eq_true, decide_eq_true_eq, Bool.not_eq_true', beq_eq_false_iff_ne, ne_eq]
          split <;> omega) el
        refine ⟨256 + l, fun _ => by unfold both16; rw [if_pos (by decide)]; omega, Ev.step (f := _) (fun k => by simp only [sR_reader_constant.j1]; rfl) (ev_neg (by decide) ?_)⟩
        rw [he, Option.bind_some]
        refine ev_neg (by simp) (ev_pos rfl ?_)
        rw [e2, Option.bind_some, show wrap64 (256 + l) = 256 + l by unfold wrap64; omega]
        exact Ev.now _
      · have e2 := next_of (lo := 0) (hi := 0) hs rh.le w1 (fun b b0 b1 => by
          simp only [hm]
          unfold mayC both16
          rw [if_pos (.inl rfl)]
          simp only [Bool.and_eq_true, decide_eq_true_eq, Bool.not_eq_true', beq_eq_false_iff_ne, ne_eq]
          split <;> omega) el
        refine ⟨512 + l, fun _ => by unfold both16; rw [if_pos (by decide)]; omega, Ev.step (f := _) (fun k => by simp only [sR_reader_constant.j1]; rfl) (ev_neg (by decide) ?_)⟩
        rw [he, Option.bind_some]
        refine ev_neg (by simp) (ev_neg (by simp) ?_)
        rw [e2, Option.bind_some, show wrap64 (512 + l) = 512 + l by unfold wrap64; omega]
        exact Ev.now _
    cases w0
    · rw [st_live] at small hj ⊢
      rcases byte_cases hs hn (anyLow op) with ⟨q, h2⟩ | ⟨q, hb, hr, h2⟩
      · rw [h2] at eh
        obtain ⟨rfl, rfl, rfl⟩ := some3 eh
        obtain ⟨x2, hx, ev⟩ := small (.inl rfl) (by rw [q, next_end hs, st_dead])
        exact ⟨x2, hx, hj _ (Ev.step (f := _) (fun k => by simp only [sR_reader_constant.j0]; rfl) (ev_pos trivial (ev_pos (by decide) (ev_neg (by omega) ev))))⟩
      · by_cases hg : s[n] ≥ 128
        · have jj : ∀ v, Ev (fun k => sR_reader_constant.j1 k true s (n : Int) (-1)) v → Ev (fun k => sR_reader_constant.j0 k op true s (n : Int) (-1)) v := fun v hv =>
            Ev.step (f := _) (fun k => by simp only [sR_reader_constant.j0]; rfl) (ev_pos trivial (ev_pos (by decide) (ev_pos (by omega) (ev_pos (by omega) (by rw [hr, decide_eq_true hg]; exact hv)))))
          by_cases q2 : 254 ≤ s[n]
          · rw [h2, if_pos (by rw [hlow]; exact (low5i hb.1 hb.2).2 (.inl q2))] at eh
            obtain ⟨rfl, rfl, rfl⟩ := some3 eh
            have e2 := next_of (lo := 0) (hi := 255) hs rh.le false (fun b b0 b1 => by
              simp only [hm]
              unfold mayC both16
              rw [if_pos (.inl rfl)]
              simp only [Bool.and_eq_true, decide_eq_true_eq, Bool.not_eq_true', beq_eq_false_iff_ne, ne_eq]
              split <;> omega) el
            rw [st_live] at e2
            refine ⟨both16 s[n] l, fun _ => rfl, hj _ (jj _ (Ev.step (f := _) (fun k => by simp only [sR_reader_constant.j1]; rfl) (ev_pos trivial ?_)))⟩
            rw [next_at hs q, if_pos (by omega), Option.bind_some, e2, Option.bind_some, show wrap64 (wrap64 (wrap64 (s[n] * 256) + l) - 65536) = both16 s[n] l by unfold both16 wrap64; split <;> omega]
            exact Ev.now _
          · rw [h2, if_neg (by rw [hlow]; exact fun z => by have := (low5i hb.1 hb.2).1 z; omega)] at eh
            obtain ⟨rfl, rfl, rfl⟩ := some3 eh
            rw [byte_dead] at el
            obtain ⟨rfl, rfl, rfl⟩ := some3 el
            refine ⟨wrap64 (wrap64 (wrap64 (0 * 256) + 0) - 65536), fun z => absurd z (by simp), hj _ (jj _ (Ev.step (f := _) (fun k => by simp only [sR_reader_constant.j1]; rfl) (ev_pos trivial ?_)))⟩
            rw [next_at hs q, if_neg (by omega), Option.bind_some, next_dead, Option.bind_some, st_dead]
            exact Ev.now _
        · have jj : ∀ v, Ev (fun k => sR_reader_constant.j1 k false s (n : Int) (-1)) v → Ev (fun k => sR_reader_constant.j0 k op true s (n : Int) (-1)) v := fun v hv =>
            Ev.step (f := _) (fun k => by simp only [sR_reader_constant.j0]; rfl) (ev_pos trivial (ev_pos (by decide) (ev_pos (by omega) (ev_pos (by omega) (by rw [hr, decide_eq_false hg]; exact hv)))))
          by_cases q2 : s[n] ≤ 2
          · rw [h2, if_pos (by rw [hlow]; exact (low5i hb.1 hb.2).2 (.inr q2))] at eh
            obtain ⟨rfl, rfl, rfl⟩ := some3 eh
            obtain ⟨x2, hx, ev⟩ := small (by omega) (by rw [next_at hs q, if_pos (by omega), st_live])
            exact ⟨x2, hx, hj _ (jj _ ev)⟩
          · rw [h2, if_neg (by rw [hlow]; exact fun z => by have := (low5i hb.1 hb.2).1 z; omega)] at eh
            obtain ⟨rfl, rfl, rfl⟩ := some3 eh
            obtain ⟨x2, hx, ev⟩ := small (.inl rfl) (by rw [next_at hs q, if_neg (by omega), st_dead])
            exact ⟨x2, hx, hj _ (jj _ ev)⟩
    · rw [byte_dead] at eh
      obtain ⟨rfl, rfl, rfl⟩ := some3 eh
      obtain ⟨x2, hx, ev⟩ := small (.inl rfl) (by rw [st_dead, next_dead])
      exact ⟨x2, hx, hj _ (Ev.step (f := _) (fun k => by simp only [sR_reader_constant.j0]; rfl) (ev_pos trivial (ev_neg (by rw [st_dead]; omega) ev)))⟩
  · have hj : ∀ b v, b = decide (op = 7 ∨ op = 8) → Ev (fun k => sR_reader_constant.j2 k b s (n : Int) (st n w0)) v → Ev (fun k => if op = 5 then sR_reader_constant.j0 k op (op == 5) s (n : Int) (st n w0) else sR_reader_constant.j0 k op (op == 6) s (n : Int) (st n w0)) v := by
      rintro b v rfl hv
      refine ev_neg (by omega) ?_
      rw [beq_eq_false_iff_ne.2 (show op ≠ 6 by omega)]
      refine Ev.step (f := _) (fun k => by simp only [sR_reader_constant.j0]; rfl) (ev_neg (by decide) ?_)
      by_cases q : op = 7
      · refine ev_pos q ?_
        rw [beq_iff_eq.2 q]
        rw [decide_eq_true (.inl q)] at hv
        exact hv
      · refine ev_neg q ?_
        by_cases q8 : op = 8
        · rw [beq_iff_eq.2 q8]
          rw [decide_eq_true (.inr q8)] at hv
          exact hv
        · rw [beq_eq_false_iff_ne.2 q8]
          rw [decide_eq_false (by omega)] at hv
          exact hv
    by_cases h7 : op = 7 ∨ op = 8
    · have hm := may7 h7
      have e1 := next_of (lo := 0) (hi := 0) hs hn w0 (fun b b0 b1 => by rw [low_congr hm]; exact low7i b0 b1) eh
      have h0 : h = 0 := by
        cases w1
        · have := (rh.live).2.1.1
          rw [low_congr hm] at this
          have := (low7i bh.1 bh.2).1 this
          omega
        · exact (hz rfl).1
      subst h0
      have e2 := next_of (lo := 1) (hi := 64) hs rh.le w1 (fun b b0 b1 => by
        simp only [hm]
        unfold mayC both16
        rw [if_neg (by decide), if_pos (.inl rfl), if_pos (by decide)]
        simp only [Bool.and_eq_true, decide_eq_true_eq]
        omega) el
      refine ⟨l, fun _ => by show l = both16 0 l; unfold both16; rw [if_pos (by decide)]; omega, hj true _ (decide_eq_true h7).symm (Ev.step (f := _) (fun k => by simp only [sR_reader_constant.j2]; rfl) (ev_pos trivial ?_))⟩
      rw [e1, Option.bind_some, e2, Option.bind_some]
      exact Ev.now _
    · have hm := may1 h5 h7
      have e1 := next_of (lo := 0) (hi := 0) hs hn w0 (fun b b0 b1 => by rw [low_congr hm]; exact low1i b0 b1) eh
      have h0 : h = 0 := by
        cases w1
        · have := (rh.live).2.1.1
          rw [low_congr hm] at this
          have := (low1i bh.1 bh.2).1 this
          omega
        · exact (hz rfl).1
      subst h0
      have e2 := next_of (lo := 0) (hi := 0) hs rh.le w1 (fun b b0 b1 => by
        simp only [hm]
        unfold mayC both16
        rw [if_neg (by decide), if_neg (by decide), if_pos (by decide)]
        simp only [beq_iff_eq]
        omega) el
      refine ⟨l, fun _ => by show l = both16 0 l; unfold both16; rw [if_pos (by decide)]; omega, hj false _ (decide_eq_false h7).symm (Ev.step (f := _) (fun k => by simp only [sR_reader_constant.j2]; rfl) (ev_neg (by decide) ?_))⟩
      rw [e1, Option.bind_some, e2, Option.bind_some]
      exact Ev.now _
end
section
variable {s : List Int} {n : Nat}
theorem byte_le (hs : Src s) (hn : n ≤ s.length) (w0 : Bool) {good : Int → Bool} {x : Int} {m : Nat} {w : Bool} (e : byteF good s (n : Int) w0 = some (x, (m : Int), w)) : m ≤ s.length := by
  obtain ⟨x', m', w', e', _, r⟩ := byte_any hs good hn w0
  rw [e] at e'
  obtain ⟨_, rfl, _⟩ := some3 e'
  exact r.le
theorem zero_val (hs : Src s) (hn : n ≤ s.length) (w0 : Bool) {x : Int} {m : Nat} {w : Bool} (e : cR_within.f s (n : Int) w0 0 0 = some (x, (m : Int), w)) : x = 0 := by
  obtain ⟨x', m', w', e', _, r⟩ := within_any hs hn w0 0 0
  rw [e] at e'
  obtain ⟨rfl, rfl, rfl⟩ := some3 e'
  cases w
  · have := r.live.2.1
    unfold Wi at this
    omega
  · exact (byte_zero hs hn w0 e).1
theorem code_both (hs : Src s) {ins regs cnt : Int} (h0 : 0 ≤ regs) (h1 : regs ≤ 255) (hc : cnt ≤ 65535) : ∀ (m j : Nat) (acc acc2 : List S63) (n : Nat) (w0 : Bool), n ≤ s.length → (j : Int) + m = cnt → acc.length + m < 3518437208883 → acc2.length + m < 3518437208883 →
    ∃ (c : List S63) (n' : Nat) (w' : Bool), RdS s n w0 (fun c => c.flatMap ib) (Ls (fun i => mayb regs i = true) m) c n' w' ∧
      (∀ v, Ev (fun k => cR_program.j2 k s (n' : Int) w' ins regs (acc ++ c)) v → Ev (fun k => cR_program.l0 k cnt (j : Int) s (n : Int) w0 ins regs acc) v) ∧
      ∃ c2, (w' = false → c2 = c) ∧ ∀ v, Ev (fun k => (sR_reader_next.f s (n' : Int) (st n' w') 1 128).bind fun bt => sR_reader_program.l1 k bt.1 0 s bt.2.1 bt.2.2 ins regs (acc2 ++ c2) []) v → Ev (fun k => sR_reader_program.l0 k cnt (j : Int) s (n : Int) (st n w0) ins regs acc2) v := by
  -- the reference's loop ends
  have fin : ∀ (j : Nat) (acc2 : List S63) (n : Nat) (w0 : Bool), (w0 = true ∨ (j : Int) = cnt) → ∀ v, Ev (fun k => (sR_reader_next.f s (n : Int) (st n w0) 1 128).bind fun bt => sR_reader_program.l1 k bt.1 0 s bt.2.1 bt.2.2 ins regs acc2 []) v → Ev (fun k => sR_reader_program.l0 k cnt (j : Int) s (n : Int) (st n w0) ins regs acc2) v := by
    intro j acc2 n w0 hx v h
    refine Ev.step (f := fun k => sR_reader_program.j2 k cnt (j : Int) false s (n : Int) (st n w0) ins regs acc2) (fun k => ?_) (Ev.step (fun k => ?_) h)
    · simp only [sR_reader_program.l0]
      by_cases hj : (j : Int) < cnt
      · obtain rfl : w0 = true := by rcases hx with q | q; exact q; omega
        rw [if_pos hj, st_dead, decide_eq_false (by omega)]
      · rw [if_neg hj]
    · simp only [sR_reader_program.j2]
      rw [if_neg (by decide)]
  intro m
  induction m with
  | zero =>
    intro j acc acc2 n w0 hn hj hl hl2
    obtain ⟨c, n', w', r, h⟩ := code_ev hs (ins := ins) h0 h1 hc 0 j acc n w0 hn hj hl
    have e0 : n' = n ∧ w' = w0 ∧ c.length = 0 ∨ w' = true := by
      cases w'
      · obtain ⟨q, v, e⟩ := r.live
        have hc0 : c = [] := List.eq_nil_of_length_eq_zero v.1
        subst hc0
        have e1 := congrArg List.length e
        simp only [List.flatMap_nil, List.nil_append, List.length_drop] at e1
        have := r.le
        exact .inl ⟨by omega, q.symm, rfl⟩
      · exact .inr rfl
    refine ⟨[], n, w0, RdS.nil hn, fun v h => ?_, [], fun _ => rfl, fun v h => ?_⟩
    · rw [List.append_nil] at h
      refine Ev.step (fun k => ?_) h
      simp only [cR_program.l0]
      rw [if_neg (by omega)]
    · rw [List.append_nil] at h
      exact fin j acc2 n w0 (.inr (by omega)) v h
  | succ m ih =>
    intro j acc acc2 n w0 hn hj hl hl2
    obtain ⟨op, t, a, b, c, n1, n2, n3, n4, n5, w1, w2, w3, w4, w5, e1, e2, e3, e4, e5, r⟩ := instr_any hs hn w0 h0 h1
    have l1 := byte_le hs hn w0 e1
    have l2 := byte_le hs l1 w1 e2
    have l3 := byte_le hs l2 w2 e3
    have l4 := byte_le hs l3 w3 e4
    have d1 := next_in hs hn w0 e1
    have d2 := next_in hs l1 w1 e2
    have d3 := next_in hs l2 w2 e3
    have d4 := next_in hs l3 w3 e4
    obtain ⟨c', hc', d5⟩ := const_of hs l4 w4 e5
    have run : ∀ v, Ev (fun k => if w5 = true then cR_program.j2 k s (n5 : Int) w5 ins regs acc else if acc.length < 3518437208883 then cR_program.l0 k cnt (wrap64 ((j : Int) + 1)) s (n5 : Int) w5 ins regs (acc ++ [(⟨op, t, a, if op = 3 ∨ op = 4 then b else 0, c⟩ : S63)]) else none) v → Ev (fun k => cR_program.l0 k cnt (j : Int) s (n : Int) w0 ins regs acc) v := by
      intro v h
      refine Ev.step (f := fun k => cR_program.j1 k cnt (j : Int) (decide (op = 3 ∨ op = 4)) s (n3 : Int) w3 ins regs acc op t a 0 0) (fun k => ?_) (Ev.step (fun k => ?_) h)
      · simp only [cR_program.l0]
        rw [if_pos (by omega), e1, Option.bind_some, e2, Option.bind_some, e3, Option.bind_some]
        by_cases q : op = 3
        · rw [if_pos q, decide_eq_true (.inl q)]
        · rw [if_neg q]
          congr 1
          by_cases q4 : op = 4
          · rw [decide_eq_true (.inr q4), q4]; rfl
          · rw [decide_eq_false (by omega)]; exact beq_eq_false_iff_ne.2 q4
      · simp only [cR_program.j1]
        by_cases q : op = 3 ∨ op = 4
        · rw [if_pos q] at e4
          rw [if_pos (decide_eq_true q), e4, Option.bind_some, e5, Option.bind_some, if_pos q]
        · rw [if_neg q] at e4
          rw [if_neg (by rw [decide_eq_false q]; decide), e4, Option.bind_some, e5, Option.bind_some, if_neg q]
    have hw : wrap64 ((j : Int) + 1) = ((j + 1 : Nat) : Int) := by unfold wrap64; omega
    have rrun : w0 = false → ∀ v, Ev (fun k => sR_reader_program.l0 k cnt ((j + 1 : Nat) : Int) s (n5 : Int) (st n5 w5) ins regs (acc2 ++ [(⟨op, t, a, b, c'⟩ : S63)])) v → Ev (fun k => sR_reader_program.l0 k cnt (j : Int) s (n : Int) (st n w0) ins regs acc2) v := by
      rintro rfl v h
      refine Ev.step (f := fun k => sR_reader_program.j2 k cnt (j : Int) true s (n : Int) (st n false) ins regs acc2) (fun k => ?_) (Ev.step (f := fun k => sR_reader_program.j3 k cnt (j : Int) (decide (op = 3 ∨ op = 4)) s (n3 : Int) (st n3 w3) ins regs acc2 op t a 0 0) (fun k => ?_) (Ev.step (f := fun k => (sR_reader_constant.f k s (n4 : Int) (st n4 w4) op).bind fun bt => if acc2.length < 3518437208883 then sR_reader_program.l0 k cnt (wrap64 ((j : Int) + 1)) s bt.2.1 bt.2.2 ins regs (acc2 ++ [(⟨op, t, a, b, bt.1⟩ : S63)]) else none) (fun k => ?_) (Ev.bind d5 (ev_pos (by omega) (by rw [hw]; exact h)))))
      · simp only [sR_reader_program.l0]
        rw [if_pos (by omega), st_live, decide_eq_true (by decide)]
      · simp only [sR_reader_program.j2]
        rw [if_pos trivial, d1, Option.bind_some, d2, Option.bind_some, d3, Option.bind_some]
        by_cases q : op = 3
        · rw [if_pos q, decide_eq_true (.inl q)]
        · rw [if_neg q]
          congr 1
          by_cases q4 : op = 4
          · rw [decide_eq_true (.inr q4), q4]; rfl
          · rw [decide_eq_false (by omega)]; exact beq_eq_false_iff_ne.2 q4
      · simp only [sR_reader_program.j3]
        by_cases q : op = 3 ∨ op = 4
        · rw [if_pos q] at d4
          rw [if_pos (decide_eq_true q), d4, Option.bind_some]
        · rw [if_neg q] at d4
          rw [if_neg (by rw [decide_eq_false q]; decide), d4, Option.bind_some]
    have hb : b = if op = 3 ∨ op = 4 then b else 0 := by
      by_cases q : op = 3 ∨ op = 4
      · rw [if_pos q]
      · rw [if_neg q] at e4 ⊢
        exact zero_val hs l3 w3 e4
    cases w5
    · have hw0 := r.live.1
      obtain ⟨cs, n', w', r', h', c2, hc2, h2⟩ := ih (j + 1) (acc ++ [(⟨op, t, a, if op = 3 ∨ op = 4 then b else 0, c⟩ : S63)]) (acc2 ++ [(⟨op, t, a, b, c'⟩ : S63)]) n5 false r.le (by omega) (by rw [List.length_append, List.length_cons, List.length_nil]; omega) (by rw [List.length_append, List.length_cons, List.length_nil]; omega)
      refine ⟨_ :: cs, n', w', RdS.cons (pre_ib (by omega)) r r', fun v h => run v (ev_neg (by decide) (ev_pos (by omega) ?_)), ⟨op, t, a, b, c'⟩ :: c2, fun q => ?_, fun v h => rrun hw0 v (h2 v ?_)⟩
      · rw [hw]
        refine h' v ?_
        rw [List.append_assoc]
        exact h
      · rw [hc2 q, hc' rfl, ← hb]
      · rw [List.append_assoc]
        exact h
    · refine ⟨[], n5, true, (RdS.cons (k := m) (xs := []) (pre_ib (by omega)) r (RdS.stop r.le)).any, fun v h => run v (ev_pos rfl ?_), ?_⟩
      · rw [List.append_nil] at h
        exact h
      · cases w0
        · refine ⟨[⟨op, t, a, b, c'⟩], fun q => (by cases q), fun v h => rrun rfl v (fin (j + 1) _ n5 true (.inl rfl) v h)⟩
        · obtain ⟨_, rfl⟩ := r.dead
          refine ⟨[], fun q => (by cases q), fun v h => ?_⟩
          rw [List.append_nil] at h
          exact fin j acc2 n5 true (.inl rfl) v h
end
theorem ev_uniq {β : Type} {f : Nat → Option β} {a b : β} (h1 : Ev f a) (h2 : Ev f b) : a = b := by
  obtain ⟨n1, h1⟩ := h1
  obtain ⟨n2, h2⟩ := h2
  have e := (h1 (max n1 n2) (by omega)).symm.trans (h2 (max n1 n2) (by omega))
  exact Option.some.inj e
section
variable {s : List Int} {n : Nat}
theorem outs_both (hs : Src s) {ins regs cnt : Int} {code code2 : List S63} (h0 : 0 ≤ regs) (h1 : regs ≤ 255) (hc : cnt ≤ 65535) : ∀ (m j : Nat) (acc acc2 : List Int) (n : Nat) (w0 : Bool), n ≤ s.length → (j : Int) + m = cnt → acc.length + m < 17592186044416 → acc2.length + m < 17592186044416 →
    ∃ (o : List Int) (n' : Nat) (w' : Bool), RdS s n w0 (fun c => c.flatMap ob) (Ls (fun x => 0 ≤ x ∧ x < regs) m) o n' w' ∧
      Ev (fun k => cR_program.l1 k cnt (j : Int) s (n : Int) w0 ins regs code acc) (ins, regs, code, acc ++ o, (n' : Int), w') ∧
      ∃ o2, (w' = false → o2 = o) ∧ Ev (fun k => sR_reader_program.l1 k cnt (j : Int) s (n : Int) (st n w0) ins regs code2 acc2) (ins, regs, code2, acc2 ++ o2, (n' : Int), st n' w') := by
  intro m
  induction m with
  | zero =>
    intro j acc acc2 n w0 hn hj hl hl2
    refine ⟨[], n, w0, RdS.nil hn, ?_, [], fun _ => rfl, ?_⟩
    · rw [List.append_nil]
      refine Ev.step (fun k => ?_) (Ev.now _)
      simp only [cR_program.l1]
      rw [if_neg (by omega)]
    · rw [List.append_nil]
      refine Ev.step (fun k => ?_) (Ev.now _)
      simp only [sR_reader_program.l1]
      rw [if_neg (by omega)]
  | succ m ih =>
    intro j acc acc2 n w0 hn hj hl hl2
    have hw : wrap64 (regs - 1) = regs - 1 := by unfold wrap64; omega
    have hw1 : wrap64 ((j : Int) + 1) = ((j + 1 : Nat) : Int) := by unfold wrap64; omega
    obtain ⟨x, n1, w1, e1, _, r1⟩ := within_any hs hn w0 0 (regs - 1)
    have d1 := next_in hs hn w0 e1
    have r : RdS s n w0 ob (fun x => 0 ≤ x ∧ x < regs) x n1 w1 := r1.map id (fun y v => by unfold Wi at v; exact ⟨by show 0 ≤ y ∧ y < regs; omega, by show [y % 256] = [y]; rw [show y % 256 = y by omega]⟩) (fun y v => ⟨y, by unfold Wi; omega, by show [y] = [y % 256]; rw [show y % 256 = y by omega], rfl⟩) (fun _ _ => rfl)
    obtain ⟨o, n', w', r', h', o2, ho, h2⟩ := ih (j + 1) (acc ++ [x]) (acc2 ++ [x]) n1 w1 r.le (by omega) (by rw [List.length_append, List.length_cons, List.length_nil]; omega) (by rw [List.length_append, List.length_cons, List.length_nil]; omega)
    have rr := RdS.cons (pre_fix (d := 1) (fun _ => rfl) (fun a b ha hb h => ob_inj a b (by unfold OkB; omega) (by unfold OkB; omega) h)) r r'
    refine ⟨x :: o, n', w', rr, ?_, ?_⟩
    · rw [show acc ++ x :: o = acc ++ [x] ++ o by rw [List.append_assoc]; rfl]
      refine Ev.step (fun k => ?_) h'
      simp only [cR_program.l1]
      rw [if_pos (by omega), hw, e1, Option.bind_some, if_pos (by omega), hw1]
    · cases w0
      · refine ⟨x :: o2, fun q => by rw [ho q], ?_⟩
        rw [show acc2 ++ x :: o2 = acc2 ++ [x] ++ o2 by rw [List.append_assoc]; rfl]
        refine Ev.step (fun k => ?_) h2
        simp only [sR_reader_program.l1]
        rw [if_pos (by omega), if_pos (by rw [st_live]; decide), hw, d1, Option.bind_some, if_pos (by omega), hw1]
      · obtain ⟨rfl, rfl⟩ := rr.dead
        refine ⟨[], fun q => (by cases q), ?_⟩
        rw [List.append_nil]
        refine Ev.step (fun k => ?_) (Ev.now _)
        simp only [sR_reader_program.l1]
        rw [if_pos (by omega), if_neg (by rw [st_dead]; omega)]
theorem prog_both (hs : Src s) (hn : n ≤ s.length) (w0 : Bool) : ∃ (p : S26) (n' : Nat) (w' : Bool), Ev (fun k => cR_program.f k s (n : Int) w0) (p.f0, p.f1, p.f2, p.f3, (n' : Int), w') ∧ RdS s n w0 (fun p : S26 => pb p.f0 p.f1 p.f2 p.f3) (fun p => wrong p = false) p n' w' ∧
    ∃ p2 : S26, (w' = false → p2 = p) ∧ Ev (fun k => sR_reader_program.f k s (n : Int) (st n w0)) (p2.f0, p2.f1, p2.f2, p2.f3, (n' : Int), st n' w') := by
  obtain ⟨p, n', w', hp, rp⟩ := prog_any hs hn w0
  refine ⟨p, n', w', hp, rp, ?_⟩
  obtain ⟨ins, n1, w1, e1, b1, r1⟩ := within_any hs hn w0 1 128
  obtain ⟨regs, n2, w2, e2, b2, r2⟩ := within_any hs r1.le w1 ins 128
  obtain ⟨hi, n3, w3, e3, b3, r3⟩ := byte_any hs (fun x => decide (x * 256 ≤ 16384)) r2.le w2
  obtain ⟨lo, n4, w4, e4, b4, r4⟩ := byte_any hs (fun x => decide (hi * 256 + x ≤ 16384)) r3.le w3
  have hi64 : hi ≤ 64 := by
    cases w3
    · have := of_decide_eq_true r3.live.2.1.1
      omega
    · have := (byte_zero hs r2.le w2 e3).1
      omega
  obtain ⟨c, n5, w5, r5, h5, c2, hc2, g5⟩ := code_both hs (ins := ins) (regs := regs) (cnt := hi * 256 + lo) (by omega) (by omega) (by omega) (hi * 256 + lo).toNat 0 [] [] n4 w4 r4.le (by omega) (by simp only [List.length_nil]; omega) (by simp only [List.length_nil]; omega)
  obtain ⟨q, n6, w6, e6, b6, r6⟩ := within_any hs r5.le w5 1 128
  obtain ⟨o, n7, w7, r7, h7, o2, ho2, g7⟩ := outs_both hs (ins := ins) (regs := regs) (cnt := q) (code := c) (code2 := c2) (by omega) (by omega) (by omega) q.toNat 0 [] [] n6 w6 r6.le (by omega) (by simp only [List.length_nil]; omega) (by simp only [List.length_nil]; omega)
  rw [List.nil_append] at h7 g7
  have d1 := next_in hs hn w0 e1
  have d2 := next_in hs r1.le w1 e2
  have d3 := next_of (lo := 0) (hi := 64) hs r2.le w2 (fun b b0 b1 => by simp only [decide_eq_true_eq]; omega) e3
  have d4 := next_of (lo := 0) (hi := if hi = 64 then 0 else 255) hs r3.le w3 (fun b b0 b1 => by simp only [decide_eq_true_eq]; split <;> omega) e4
  have d6 := next_in hs r5.le w5 e6
  have ho := or256 (h := hi) (l := lo) b3.1 (by omega) b4.1 (by omega)
  have hw : wrap64 (hi * 256) = hi * 256 := by unfold wrap64; omega
  have hw2 : wrap64 (hi * 256 + lo) = hi * 256 + lo := by unfold wrap64; omega
  have hcode : Ev (fun k => cR_program.f k s (n : Int) w0) (ins, regs, c, o, (n7 : Int), w7) := by
    unfold cR_program.f
    refine Ev.congr (fun k => ?_) (h5 _ (Ev.step (fun k => ?_) h7))
    · rw [e1, Option.bind_some, e2, Option.bind_some]
      unfold cR_program_1.f cR_program_2.f
      rw [e3, Option.bind_some, if_pos (by show 0 ≤ hi ∧ hi ≤ 255; omega), e4, Option.bind_some, hw, ho]
      rfl
    · simp only [cR_program.j2]
      rw [e6, Option.bind_some, List.nil_append]
      rfl
  have hu := ev_uniq hp hcode
  simp only [Prod.mk.injEq] at hu
  obtain ⟨u0, u1, u2, u3, u4, rfl⟩ := hu
  obtain rfl : n' = n7 := by omega
  refine ⟨⟨ins, regs, c2, o2⟩, fun z => ?_, ?_⟩
  · obtain ⟨p0, p1, p2, p3⟩ := p
    simp only at u0 u1 u2 u3
    subst z
    have z6 : w6 = false := r7.live.1
    subst z6
    have z5 : w5 = false := r6.live.1
    subst z5
    rw [hc2 rfl, ho2 rfl, u0, u1, u2, u3]
  · unfold sR_reader_program.f
    have tail : Ev (fun k => sR_reader_program.j0 k hi (if hi = 64 then 0 else 255) s (n3 : Int) (st n3 w3) ins regs) (ins, regs, c2, o2, (n' : Int), st n' w') := by
      refine Ev.step (fun k => ?_) (g5 _ (Ev.congr (fun k => ?_) g7))
      · simp only [sR_reader_program.j0]
        rw [d4, Option.bind_some, hw, hw2]
        rfl
      · rw [d6, Option.bind_some, List.nil_append]
        rfl
    refine Ev.congr (fun k => ?_) tail
    rw [d1, Option.bind_some, d2, Option.bind_some, d3, Option.bind_some]
    by_cases z : hi = 64
    · rw [if_pos z, if_pos z]
    · rw [if_neg z, if_neg z]
end
section
variable {s : List Int} {n : Nat}
theorem signed_dead {x : Int} {m : Nat} {w : Bool} (e : cR_signed.f s (n : Int) true = some (x, (m : Int), w)) : w = true := by
  unfold cR_signed.f at e
  rw [byte_dead, Option.bind_some] at e
  exact (some3 (b := n) e).2.2.symm
theorem pts_both (hs : Src s) {K1 K2 cnt : Int} (hc : cnt ≤ 65535) (X0 X1 : List Int) : ∀ (m j : Nat) (acc acc2 : List S48) (n : Nat) (w0 : Bool), n ≤ s.length → (j : Int) + m = cnt → acc.length + m < 8796093022208 → acc2.length + m < 8796093022208 →
    ∃ (c : List S48) (n' : Nat) (w' : Bool), RdS s n w0 (fun c => c.flatMap qb) (Ls PIn m) c n' w' ∧
      (∀ v, Ev (fun k => code_Decode.l2 k X0 0 s (n' : Int) w' K1 K2 (acc ++ c) 0 0 [] [] 0 0 [] [] 0 0 [] []) v → Ev (fun k => code_Decode.l1 k X0 cnt (j : Int) s (n : Int) w0 K1 K2 acc 0 0 0 0 0 0) v) ∧
      ∃ c2, (w' = false → c2 = c) ∧ ∀ v, (∀ x9 : Int, Ev (fun k => sR_Decode.j2 k X1 cnt x9 false s (n' : Int) (st n' w') K1 K2 (acc2 ++ c2) 0 0 0 0 0 0) v) → Ev (fun k => sR_Decode.l1 k X1 cnt (j : Int) s (n : Int) (st n w0) K1 K2 acc2 0 0 0 0 0 0) v := by
  have fin : ∀ (j : Nat) (acc2 : List S48) (n : Nat) (w0 : Bool), (w0 = true ∨ (j : Int) = cnt) → ∀ v, (∀ x9 : Int, Ev (fun k => sR_Decode.j2 k X1 cnt x9 false s (n : Int) (st n w0) K1 K2 acc2 0 0 0 0 0 0) v) → Ev (fun k => sR_Decode.l1 k X1 cnt (j : Int) s (n : Int) (st n w0) K1 K2 acc2 0 0 0 0 0 0) v := by
    intro j acc2 n w0 hx v h
    refine Ev.step (fun k => ?_) (h j)
    simp only [sR_Decode.l1]
    by_cases hj : (j : Int) < cnt
    · obtain rfl : w0 = true := by rcases hx with q | q; exact q; omega
      rw [if_pos hj, st_dead, decide_eq_false (by omega)]
    · rw [if_neg hj]
  intro m
  induction m with
  | zero =>
    intro j acc acc2 n w0 hn hj hl hl2
    refine ⟨[], n, w0, RdS.nil hn, fun v h => ?_, [], fun _ => rfl, fun v h => ?_⟩
    · rw [List.append_nil] at h
      refine Ev.step (fun k => ?_) h
      simp only [code_Decode.l1]
      rw [if_neg (by omega)]
      rfl
    · rw [List.append_nil] at h
      exact fin j acc2 n w0 (.inr (by omega)) v h
  | succ m ih =>
    intro j acc acc2 n w0 hn hj hl hl2
    obtain ⟨x, n1, w1, e1, r1⟩ := signed_any hs hn w0
    obtain ⟨y, n2, w2, e2, r2⟩ := signed_any hs r1.le w1
    obtain ⟨x', y', m1, m2, z1, z2, f1, f2, r⟩ := point_any hs hn w0
    rw [e1] at f1
    obtain ⟨rfl, rfl, rfl⟩ := some3 f1
    rw [e2] at f2
    obtain ⟨rfl, rfl, rfl⟩ := some3 f2
    obtain ⟨xr, hx, g1⟩ := coord_of hs hn w0 e1
    obtain ⟨yr, hy, g2⟩ := coord_of hs r1.le w1 e2
    have hw1 : wrap64 ((j : Int) + 1) = ((j + 1 : Nat) : Int) := by unfold wrap64; omega
    obtain ⟨c, n', w', r', h', c2, hc2, h2⟩ := ih (j + 1) (acc ++ [(⟨x, y⟩ : S48)]) (acc2 ++ [(⟨xr, yr⟩ : S48)]) n2 w2 r.le (by omega) (by rw [List.length_append, List.length_cons, List.length_nil]; omega) (by rw [List.length_append, List.length_cons, List.length_nil]; omega)
    have rr := RdS.cons pre_qb r r'
    refine ⟨⟨x, y⟩ :: c, n', w', rr, fun v h => Ev.step (fun k => ?_) (h' v (by rw [List.append_assoc]; exact h)), ?_⟩
    · simp only [code_Decode.l1]
      rw [if_pos (by omega), e1, Option.bind_some, e2, Option.bind_some, if_pos (by omega), hw1]
    · cases w0
      · refine ⟨⟨xr, yr⟩ :: c2, fun q => ?_, fun v h => ?_⟩
        · subst q
          have z2 : w2 = false := r'.live.1
          subst z2
          have z1 : w1 = false := by
            cases w1
            · rfl
            · exact absurd (signed_dead e2) (by decide)
          rw [hc2 rfl, hx z1, hy rfl]
        · refine Ev.step (f := fun k => sR_Decode.j2 k X1 cnt (j : Int) true s (n : Int) (st n false) K1 K2 acc2 0 0 0 0 0 0) (fun k => ?_) (Ev.step (f := fun k => (sR_reader_coordinate.f k s (n : Int) (st n false)).bind fun b1 => (sR_reader_coordinate.f k s b1.2.1 b1.2.2).bind fun b2 => if acc2.length < 8796093022208 then sR_Decode.l1 k X1 cnt (wrap64 ((j : Int) + 1)) s b2.2.1 b2.2.2 K1 K2 (acc2 ++ [(⟨b1.1, b2.1⟩ : S48)]) 0 0 0 0 0 0 else none) (fun k => ?_) (Ev.bind g1 (Ev.bind g2 (ev_pos (by omega) ?_))))
          · simp only [sR_Decode.l1]
            rw [if_pos (by omega), st_live, decide_eq_true (by decide)]
          · simp only [sR_Decode.j2]
            rw [if_pos trivial]
          · rw [hw1]
            exact h2 v (fun x9 => by rw [List.append_assoc]; exact h x9)
      · obtain ⟨rfl, rfl⟩ := rr.dead
        refine ⟨[], fun q => (by cases q), fun v h => ?_⟩
        rw [List.append_nil] at h
        exact fin j acc2 n' true (.inl rfl) v h
end
abbrev R17 := Int × Int × (List (S48)) × Int × Int × (List (S63)) × List Int × Int × Int × (List (S63)) × List Int × Int × Int × (List (S63)) × List Int × Int
def rbad (a : Int) : R17 := (0, 0, ([] : List (S48)), 0, 0, ([] : List (S63)), ([] : List Int), 0, 0, ([] : List (S63)), ([] : List Int), 0, 0, ([] : List (S63)), ([] : List Int), a)
def rgood (u : S28) : R17 := (u.f0, u.f1, u.f2, u.f3.f0, u.f3.f1, u.f3.f2, u.f3.f3, u.f4.f0, u.f4.f1, u.f4.f2, u.f4.f3, u.f5.f0, u.f5.f1, u.f5.f2, u.f5.f3, -1)
section
variable {s : List Int} {n : Nat}
theorem two_at' {t : Int} (h0 : 0 ≤ t) (h1 : t < 65521) : sR_two.f t = some [t / 256, t % 256] := by
  unfold sR_two.f
  have e1 : Int.tmod (wrap64 (t + 65536)) 65536 = t := by
    rw [show wrap64 (t + 65536) = t + 65536 by unfold wrap64; omega, Int.tmod_eq_emod_of_nonneg (by omega)]
    omega
  rw [e1, Int.tmod_eq_emod_of_nonneg h0, Int.tdiv_eq_ediv_of_nonneg h0]
  have e2 : wrap64 (t / 256) % 256 = t / 256 := by unfold wrap64; omega
  rw [e2]
  simp only [Option.some.injEq, List.cons.injEq, and_true, true_and]
  omega
theorem rj3 (u : S28) (m : Nat) (w : Bool) : Ev (fun k => sR_Decode.j3 k s s (m : Int) (st m w) u.f0 u.f1 u.f2 u.f3.f0 u.f3.f1 u.f3.f2 u.f3.f3 u.f4.f0 u.f4.f1 u.f4.f2 u.f4.f3 u.f5.f0 u.f5.f1 u.f5.f2 u.f5.f3) (if w = true ∨ m < s.length then rbad (m : Int) else rgood u) := by
  cases w
  · by_cases h : m < s.length
    · rw [if_pos (.inr h)]
      refine Ev.step (f := _) (fun k => by simp only [sR_Decode.j3]; rfl) (ev_pos (by rw [st_live]; decide) ?_)
      rw [decide_eq_true (by omega)]
      refine Ev.step (f := _) (fun k => by simp only [sR_Decode.j4]; rfl) (ev_pos trivial (ev_pos (by omega) (Ev.now _)))
    · rw [if_neg (by simp; omega)]
      refine Ev.step (f := _) (fun k => by simp only [sR_Decode.j3]; rfl) (ev_pos (by rw [st_live]; decide) ?_)
      rw [decide_eq_false (by omega)]
      refine Ev.step (f := _) (fun k => by simp only [sR_Decode.j4]; rfl) (ev_neg (by decide) (ev_neg (by rw [st_live]; decide) (Ev.now _)))
  · rw [if_pos (.inl rfl)]
    refine Ev.step (f := _) (fun k => by simp only [sR_Decode.j3]; rfl) (ev_neg (by rw [st_dead]; omega) ?_)
    refine Ev.step (f := _) (fun k => by simp only [sR_Decode.j4]; rfl) (ev_neg (by decide) (ev_pos (by rw [st_dead]; omega) (Ev.now _)))
end
section
variable {s : List Int} {n : Nat}
theorem tail_both (hs : Src s) (hn : n ≤ s.length) (w : Bool) (u u2 : S28) (hu : w = false → u2 = u) : ∃ (m : Nat) (w' : Bool),
    Ev (fun k => code_Decode.l2 k s 3 s (n : Int) w u.f0 u.f1 u.f2 u.f3.f0 u.f3.f1 u.f3.f2 u.f3.f3 u.f4.f0 u.f4.f1 u.f4.f2 u.f4.f3 u.f5.f0 u.f5.f1 u.f5.f2 u.f5.f3) (if w' = true ∨ m < s.length then bads (m : Int) else goods u) ∧
    Ev (fun k => if st n w < 0 then (if 0 ≤ (n : Int) then (if (n : Int) ≤ (s.length : Int) then ((sR_check.f k (s.take (n : Int).toNat)).bind fun t => ((sR_two.f t).bind fun t2 => (if 0 < (t2.length : Int) then ((sR_reader_next.f s (n : Int) (st n w) (wrap64 (rd t2 0)) (wrap64 (rd t2 0))).bind fun b4 => (if 1 < (t2.length : Int) then ((sR_reader_next.f s b4.2.1 b4.2.2 (wrap64 (rd t2 1)) (wrap64 (rd t2 1))).bind fun b5 => (sR_Decode.j3 k s s b5.2.1 b5.2.2 u2.f0 u2.f1 u2.f2 u2.f3.f0 u2.f3.f1 u2.f3.f2 u2.f3.f3 u2.f4.f0 u2.f4.f1 u2.f4.f2 u2.f4.f3 u2.f5.f0 u2.f5.f1 u2.f5.f2 u2.f5.f3)) else none)) else none))) else none) else none) else (sR_Decode.j3 k s s (n : Int) (st n w) u2.f0 u2.f1 u2.f2 u2.f3.f0 u2.f3.f1 u2.f3.f2 u2.f3.f3 u2.f4.f0 u2.f4.f1 u2.f4.f2 u2.f4.f3 u2.f5.f0 u2.f5.f1 u2.f5.f2 u2.f5.f3)) (if w' = true ∨ m < s.length then rbad (m : Int) else rgood u) := by
  cases w
  · obtain rfl := hu rfl
    have hl := hs.l
    have ht := ck_rng (s.take n)
    obtain ⟨x, n1, w1, e1, _, r1⟩ := within_any hs hn false (ck (s.take n) / 256) (ck (s.take n) / 256)
    obtain ⟨y, n2, w2, e2, _, r2⟩ := within_any hs r1.le w1 (ck (s.take n) % 256) (ck (s.take n) % 256)
    have d1 := next_in hs hn false e1
    have d2 := next_in hs r1.le w1 e2
    have hb : Bytes (s.take n) := fun q hq => hs.b q (List.mem_of_mem_take hq)
    have hlen : (s.take n).length < 1099511627776 := by rw [List.length_take]; omega
    refine ⟨n2, w2, ?_, ?_⟩
    · refine Ev.step (f := fun k => (code_check.f k (s.take n)).bind fun t => (cR_within.f s (n : Int) false (t / 256) (t / 256)).bind fun a => (cR_within.f s a.2.1 a.2.2 (Go.bits .and .i64 t 255) (Go.bits .and .i64 t 255)).bind fun b => if b.2.2 = true then some (bads b.2.1) else if b.2.1 < (s.length : Int) then some (bads b.2.1) else some (goods u2)) (fun k => ?_) (Ev.bind (check_ev' hlen hb) ?_)
      · simp only [code_Decode.l2]
        rw [if_neg (by omega), if_neg (by decide), if_pos (by omega), if_pos (by omega)]
        rfl
      · rw [and255 ht.1 (by omega), e1, Option.bind_some, e2, Option.bind_some]
        by_cases h : w2 = true
        · rw [show (if w2 = true ∨ n2 < s.length then bads (n2 : Int) else goods u2) = bads (n2 : Int) from if_pos (.inl h)]
          exact ev_pos h (Ev.now _)
        · refine ev_neg h ?_
          by_cases h' : n2 < s.length
          · rw [show (if w2 = true ∨ n2 < s.length then bads (n2 : Int) else goods u2) = bads (n2 : Int) from if_pos (.inr h')]
            exact ev_pos (by show (n2 : Int) < _; omega) (Ev.now _)
          · rw [show (if w2 = true ∨ n2 < s.length then bads (n2 : Int) else goods u2) = goods u2 from if_neg (fun q => q.elim h h')]
            exact ev_neg (by show ¬ (n2 : Int) < _; omega) (Ev.now _)
    · refine ev_pos (by rw [st_live]; decide) (ev_pos (by omega) (ev_pos (by omega) ?_))
      rw [Int.toNat_natCast]
      refine Ev.bind (refcheck_ev' hlen hb) ?_
      rw [two_at' ht.1 ht.2]
      refine Ev.congr (fun k => Option.bind_some _ _) (ev_pos (by show (0 : Int) < ((2 : Nat) : Int); decide) ?_)
      have q1 : wrap64 (rd [ck (s.take n) / 256, ck (s.take n) % 256] 0) = ck (s.take n) / 256 := by show wrap64 (ck (s.take n) / 256) = _; unfold wrap64; omega
      have q2 : wrap64 (rd [ck (s.take n) / 256, ck (s.take n) % 256] 1) = ck (s.take n) % 256 := by show wrap64 (ck (s.take n) % 256) = _; unfold wrap64; omega
      rw [q1, q2, d1]
      refine Ev.congr (fun k => Option.bind_some _ _) (ev_pos (by show (1 : Int) < ((2 : Nat) : Int); decide) ?_)
      refine Ev.congr (fun k => by rw [d2, Option.bind_some]) (rj3 u2 n2 w2)
  · refine ⟨n, true, ?_, ?_⟩
    · rw [if_pos (.inl rfl)]
      refine Ev.step (fun k => ?_) (Ev.now _)
      simp only [code_Decode.l2]
      rw [if_neg (by omega), if_pos trivial]
      rfl
    · refine ev_neg (by rw [st_dead]; omega) ?_
      have h := rj3 (s := s) u2 n true
      rw [if_pos (.inl rfl)] at h ⊢
      exact h
end
section
variable {s : List Int}
theorem dec_both (hs : Src s) : ∃ r, Ev (fun k => code_Decode.f k s) r ∧ ∃ r2, Ev (fun k => sR_Decode.f k s) r2 ∧ ((∃ u, r = goods u ∧ r2 = rgood u) ∨ (∃ a : Nat, r = bads (a : Int) ∧ r2 = rbad (a : Int))) := by
  obtain ⟨x1, n1, w1, e1, _, r1⟩ := within_any hs (Nat.zero_le _) false 65 65
  obtain ⟨x2, n2, w2, e2, _, r2⟩ := within_any hs r1.le w1 78 78
  obtain ⟨x3, n3, w3, e3, _, r3⟩ := within_any hs r2.le w2 86 86
  obtain ⟨x4, n4, w4, e4, _, r4⟩ := within_any hs r3.le w3 49 49
  obtain ⟨k1, n5, w5, e5, b5, r5⟩ := within_any hs r4.le w4 1 8
  obtain ⟨k2, n6, w6, e6, b6, r6⟩ := within_any hs r5.le w5 1 8
  obtain ⟨cn, n7, w7, e7, b7, r7⟩ := within_any hs r6.le w6 0 255
  have d1 := next_in hs (Nat.zero_le _) false e1
  have d2 := next_in hs r1.le w1 e2
  have d3 := next_in hs r2.le w2 e3
  have d4 := next_in hs r3.le w3 e4
  have d5 := next_in hs r4.le w4 e5
  have d6 := next_in hs r5.le w5 e6
  have d7 := next_in hs r6.le w6 e7
  obtain ⟨ps, n8, w8, r8, h8, ps2, hps, g8⟩ := pts_both hs (K1 := k1) (K2 := k2) (cnt := cn) (by omega) s s cn.toNat 0 [] [] n7 w7 r7.le (by omega) (by simp only [List.length_nil]; omega) (by simp only [List.length_nil]; omega)
  obtain ⟨p3, n9, w9, f9, r9, q3, hq3, g9⟩ := prog_both hs r8.le w8
  obtain ⟨p4, n10, w10, f10, r10, q4, hq4, g10⟩ := prog_both hs r9.le w9
  obtain ⟨p5, n11, w11, f11, r11, q5, hq5, g11⟩ := prog_both hs r10.le w10
  obtain ⟨m, w, hc, hr⟩ := tail_both hs r11.le w11 ⟨k1, k2, ps, p3, p4, p5⟩ ⟨k1, k2, ps2, q3, q4, q5⟩ (fun z => by
    subst z
    have z10 : w10 = false := r11.live.1
    subst z10
    have z9 : w9 = false := r10.live.1
    subst z9
    have z8 : w8 = false := r9.live.1
    subst z8
    rw [hps rfl, hq3 rfl, hq4 rfl, hq5 rfl])
  refine ⟨(if w = true ∨ m < s.length then bads (m : Int) else goods ⟨k1, k2, ps, p3, p4, p5⟩), ?_, (if w = true ∨ m < s.length then rbad (m : Int) else rgood ⟨k1, k2, ps, p3, p4, p5⟩), ?_, ?_⟩
  rotate_left
  rotate_left
  · by_cases z : w = true ∨ m < s.length
    · exact .inr ⟨m, if_pos z, if_pos z⟩
    · exact .inl ⟨_, if_neg z, if_neg z⟩
  · unfold code_Decode.f code_newreader.f code_marked.f
    show Ev (fun k => code_Decode.l0 k s [65, 78, 86, 49] 4 0 s ((0 : Nat) : Int) false) _
    refine (Ev.step (f := fun k => code_Decode.l0 k s [65, 78, 86, 49] 4 1 s (n1 : Int) w1) (fun k => ?_) (Ev.step (f := fun k => code_Decode.l0 k s [65, 78, 86, 49] 4 2 s (n2 : Int) w2) (fun k => ?_) (Ev.step (f := fun k => code_Decode.l0 k s [65, 78, 86, 49] 4 3 s (n3 : Int) w3) (fun k => ?_) (Ev.step (f := fun k => code_Decode.l0 k s [65, 78, 86, 49] 4 4 s (n4 : Int) w4) (fun k => ?_) (Ev.step (fun k => ?_) (h8 _ (Ev.step (f := fun k => (cR_program.f k s (n8 : Int) w8).bind fun b => code_Decode.l2 k s (0 + 1) s b.2.2.2.2.1 b.2.2.2.2.2 k1 k2 ps b.1 b.2.1 b.2.2.1 b.2.2.2.1 0 0 [] [] 0 0 [] []) (fun k => ?_) (Ev.bind f9 (Ev.step (f := fun k => (cR_program.f k s (n9 : Int) w9).bind fun b => code_Decode.l2 k s (1 + 1) s b.2.2.2.2.1 b.2.2.2.2.2 k1 k2 ps p3.f0 p3.f1 p3.f2 p3.f3 b.1 b.2.1 b.2.2.1 b.2.2.2.1 0 0 [] []) (fun k => ?_) (Ev.bind f10 (Ev.step (f := fun k => (cR_program.f k s (n10 : Int) w10).bind fun b => code_Decode.l2 k s (2 + 1) s b.2.2.2.2.1 b.2.2.2.2.2 k1 k2 ps p3.f0 p3.f1 p3.f2 p3.f3 p4.f0 p4.f1 p4.f2 p4.f3 b.1 b.2.1 b.2.2.1 b.2.2.2.1) (fun k => ?_) (Ev.bind f11 (by rw [show (2 : Int) + 1 = 3 from rfl]; exact hc)))))))))))))
    · show code_Decode.l0 (k + 1) s [65, 78, 86, 49] 4 0 s ((0 : Nat) : Int) false = _
      simp only [code_Decode.l0]
      rw [if_pos (by decide), if_pos (by decide), if_pos (by decide), show wrap64 (rd [65, 78, 86, 49] 0) = 65 from (by show wrap64 65 = 65; unfold wrap64; omega), e1, Option.bind_some, show wrap64 (0 + 1) = 1 from (by unfold wrap64; omega)]
    · simp only [code_Decode.l0]
      rw [if_pos (by decide), if_pos (by decide), if_pos (by decide), show wrap64 (rd [65, 78, 86, 49] 1) = 78 from (by show wrap64 78 = 78; unfold wrap64; omega), e2, Option.bind_some, show wrap64 (1 + 1) = 2 from (by unfold wrap64; omega)]
    · simp only [code_Decode.l0]
      rw [if_pos (by decide), if_pos (by decide), if_pos (by decide), show wrap64 (rd [65, 78, 86, 49] 2) = 86 from (by show wrap64 86 = 86; unfold wrap64; omega), e3, Option.bind_some, show wrap64 (2 + 1) = 3 from (by unfold wrap64; omega)]
    · simp only [code_Decode.l0]
      rw [if_pos (by decide), if_pos (by decide), if_pos (by decide), show wrap64 (rd [65, 78, 86, 49] 3) = 49 from (by show wrap64 49 = 49; unfold wrap64; omega), e4, Option.bind_some, show wrap64 (3 + 1) = 4 from (by unfold wrap64; omega)]
    · simp only [code_Decode.l0]
      rw [if_neg (by decide), e5, Option.bind_some, e6, Option.bind_some, e7, Option.bind_some]
      rfl
    · rw [List.nil_append]
      simp only [code_Decode.l2]
      rw [if_pos (by decide), if_pos trivial]
    · show code_Decode.l2 (k + 1) s (0 + 1) s (n9 : Int) w9 k1 k2 ps p3.f0 p3.f1 p3.f2 p3.f3 0 0 [] [] 0 0 [] [] = _
      simp only [code_Decode.l2]
      rw [if_pos (by decide), if_neg (by decide), if_pos (by decide)]
    · show code_Decode.l2 (k + 1) s (1 + 1) s (n10 : Int) w10 k1 k2 ps p3.f0 p3.f1 p3.f2 p3.f3 p4.f0 p4.f1 p4.f2 p4.f3 0 0 [] [] = _
      simp only [code_Decode.l2]
      rw [if_pos (by decide), if_neg (by decide), if_neg (by decide), if_pos (by decide)]
  · unfold sR_Decode.f sR_newreader.f
    show Ev (fun k => sR_Decode.l0 k s 0 s ((0 : Nat) : Int) (st 0 false) 65 78 86 49) _
    refine (Ev.step (f := fun k => sR_Decode.l0 k s (0 + 1) s (n1 : Int) (st n1 w1) 65 78 86 49) (fun k => ?_) (Ev.step (f := fun k => sR_Decode.l0 k s (1 + 1) s (n2 : Int) (st n2 w2) 65 78 86 49) (fun k => ?_) (Ev.step (f := fun k => sR_Decode.l0 k s (2 + 1) s (n3 : Int) (st n3 w3) 65 78 86 49) (fun k => ?_) (Ev.step (f := fun k => sR_Decode.l0 k s (3 + 1) s (n4 : Int) (st n4 w4) 65 78 86 49) (fun k => ?_) (Ev.step (fun k => ?_) (g8 _ (fun x9 => Ev.step (fun k => by simp only [sR_Decode.j2]; rw [if_neg (by decide)]) (Ev.bind g9 (Ev.bind g10 (Ev.bind g11 hr))))))))))
    · show sR_Decode.l0 (k + 1) s 0 s ((0 : Nat) : Int) (st 0 false) 65 78 86 49 = _
      simp only [sR_Decode.l0]
      rw [if_pos (by decide), if_pos trivial, d1, Option.bind_some]
    · simp only [sR_Decode.l0]
      rw [if_pos (by decide), if_neg (by decide), if_pos (by decide), d2, Option.bind_some]
    · simp only [sR_Decode.l0]
      rw [if_pos (by decide), if_neg (by decide), if_neg (by decide), if_pos (by decide), d3, Option.bind_some]
    · simp only [sR_Decode.l0]
      rw [if_pos (by decide), if_neg (by decide), if_neg (by decide), if_neg (by decide), if_pos (by decide), d4, Option.bind_some]
    · simp only [sR_Decode.l0]
      rw [if_neg (by decide), d5, Option.bind_some, d6, Option.bind_some, d7, Option.bind_some]
      rfl
end
end Go.Proofs.Ytccbdcbeinkjgaa.PlainDec
end
section
namespace Go.Proofs.Ytccbdcbeinkjgaa.Pure
open Go.RowKit Go.Proofs.YtccbdcbeinkjgaaW.PrintWords Go.Proofs.YtccbdcbeinkjgaaW.PrintLast Go.Proofs.YtccbdcbeinkjgaaW.PrintMore Go.Proofs.Ytccbdcbeinkjgaa.XA Go.Proofs.Ytccbdcbeinkjgaa.SaidCodeDecodes Go.Proofs.Ytccbdcbeinkjgaa.PlainCode Go.Proofs.Ytccbdcbeinkjgaa.PlainChk Go.Proofs.Ytccbdcbeinkjgaa.PlainEnc Go.Proofs.Ytccbdcbeinkjgaa.PlainRef Go.Proofs.Ytccbdcbeinkjgaa.PlainInj Go.Proofs.Ytccbdcbeinkjgaa.PlainDec Go.Proofs.Ytccbdcbeinkjgaa.Evs
theorem works_ev : Ev (fun k => sL_works.f k) true := Ev.of sL_works.mono (k := 300) (by decide +kernel)
theorem short_held {x : S28} (h : Short x) : Held x := by
  have h1 := h.p; have h2 := h.c3; have h3 := h.o3; have h4 := h.c4; have h5 := h.o4; have h6 := h.c5; have h7 := h.o5
  exact ⟨by omega, by omega, by omega, by omega, by omega, by omega, by omega⟩
theorem same_ev {u : S28} (h : Held u) : Ev (fun k => sL_same.f k u.f0 u.f1 u.f2 u.f3.f0 u.f3.f1 u.f3.f2 u.f3.f3 u.f4.f0 u.f4.f1 u.f4.f2 u.f4.f3 u.f5.f0 u.f5.f1 u.f5.f2 u.f5.f3 u.f0 u.f1 u.f2 u.f3.f0 u.f3.f1 u.f3.f2 u.f3.f3 u.f4.f0 u.f4.f1 u.f4.f2 u.f4.f3 u.f5.f0 u.f5.f1 u.f5.f2 u.f5.f3) true := by
  have h := ref_ev (a := u) (b := u) h
  rw [usame_self] at h
  unfold sL_same.f
  exact Ev.bind h (Ev.now _)
def zz : S28 := ⟨0, 0, [], ⟨0, 0, [], []⟩, ⟨0, 0, [], []⟩, ⟨0, 0, [], []⟩⟩
theorem goods_inj {u v : S28} (h : goods u = goods v) : u = v := by
  obtain ⟨a0, a1, a2, ⟨b0, b1, b2, b3⟩, ⟨c0, c1, c2, c3⟩, ⟨d0, d1, d2, d3⟩⟩ := u
  obtain ⟨a0', a1', a2', ⟨b0', b1', b2', b3'⟩, ⟨c0', c1', c2', c3'⟩, ⟨d0', d1', d2', d3'⟩⟩ := v
  simp only [goods, Prod.mk.injEq] at h
  obtain ⟨rfl, rfl, rfl, rfl, rfl, rfl, rfl, rfl, rfl, rfl, rfl, rfl, rfl, rfl, rfl, _⟩ := h
  rfl
theorem CodeDecodes : SaidCodeDecodes.Pure := by
  intro b hb
  refine Ev.rounds (g := fun k => sL_CodeDecodes.f k b) ?_
  unfold sL_CodeDecodes.f
  refine Ev.bind works_ev (ev_pos rfl ?_)
  by_cases hl : (b.length : Int) > 20000
  · exact ev_pos hl (Ev.now _)
  refine ev_neg hl ?_
  have hs : Src b := ⟨fun y hy => by
    have hq := hb.2.2 y hy
    simp [Lit.wf, IntKind.min, IntKind.max, IntKind.bits, IntKind.signed] at hq
    omega, by omega⟩
  have hc : slices_Clone_byte_byte.f b = some b := by
    unfold slices_Clone_byte_byte.f
    rw [Option.bind_some, if_pos (by rw [List.length_nil]; omega), List.nil_append]
  rw [hc]
  refine Ev.congr (fun k => Option.bind_some _ _) (Ev.congr (fun k => Option.bind_some _ _) (ev_pos (by simp only [List.length_cons, List.length_nil]; omega) (Ev.congr (fun k => Option.bind_some _ _) (ev_pos (by omega) (ev_pos (by simp only [List.length_append, List.length_cons, List.length_nil]; omega) (Ev.congr (fun k => Option.bind_some _ _) ?_))))))
  rw [Int.toNat_natCast, List.take_left]
  obtain ⟨r, hr, r2, hr2, hcs⟩ := dec_both hs
  obtain ⟨r', hr', hcs'⟩ := dec_all hs
  obtain rfl := ev_uniq hr hr'
  refine Ev.bind hr (Ev.bind hr2 (Ev.bind (bytes_eq_ev (y := b) (by omega)) ?_))
  rw [decide_eq_true rfl]
  refine ev_pos rfl ?_
  rcases hcs with ⟨u, rfl, rfl⟩ | ⟨a, rfl, rfl⟩
  · have hu : Held u := by
      rcases hcs' with ⟨v, e, hv, _⟩ | ⟨a, e, _⟩
      · rw [goods_inj e]
        exact short_held (fine_of hv).s
      · simp only [goods, bads, Prod.mk.injEq] at e
        exact absurd e.2.2.2.2.2.2.2.2.2.2.2.2.2.2.2.1 (by decide)
    refine ev_neg (by show ¬ ((-1 : Int) ≥ 0); decide) (ev_pos (by simp only [List.length_append, List.length_cons, List.length_nil]; omega) (ev_pos (by show ((0 : Int) == 0 && ((0 : Int) == 0)) = true; decide) (Ev.bind (same_ev hu) (Ev.now _))))
  · refine ev_pos (by show (a : Int) ≥ 0; omega) (ev_pos (by show ((170 : Int) == 170 && ((a : Int) == (a : Int))) = true; simp) (Ev.bind (same_ev (u := zz) ⟨Nat.zero_le _, Nat.zero_le _, Nat.zero_le _, Nat.zero_le _, Nat.zero_le _, Nat.zero_le _, Nat.zero_le _⟩) (Ev.now _)))
end Go.Proofs.Ytccbdcbeinkjgaa.Pure
end
section
namespace Go.Proofs.Ytccbdcbeinkjgaa.codeDecodes
open Go.ChangeShapes Go.WideShapes Go.ChangeAt Go.RowKit Go.Proofs.YtccbdcbeinkjgaaW.PrintWords Go.Proofs.Ytccbdcbeinkjgaa.Opn Go.Proofs.Ytccbdcbeinkjgaa.XA Go.Proofs.Ytccbdcbeinkjgaa.SaidCodeDecodes
open Go.ChangeMaps (open_string shut_string)
theorem own : ownKnob Try.prog.godebug = none := by kernel_rfl
theorem laidOut : laidOutB Try.prog = true := by kernel_rfl
theorem lifted (os : Os) (started : os.Started) (H : Type) (enc : TypeId × Value → H) :
    ReturnsInHanded {} Try.checked os 6 .any (Rows.codeDecodesSpec.pre6 enc Try.prog Try.f6 Rows.codeDecodesRow.domain false) (Rows.codeDecodesSpec.post enc Try.prog Try.f6 false true false false) := by
  refine returnsInHanded_of_change_sized (C := Try.checked) own started (by kernel_rfl) Try.func6
    (ChangeSpec.witness6 (enc := enc) (C := Try.checked) false ⟨#[], #[.slice none 0 0], []⟩ 8 (by kernel_rfl) (by kernel_rfl) (by kernel_rfl) (by kernel_rfl)) ?_
  intro W base args ds gs before hval0 hW hcnd hsz0 _
  have hsz : (DataW.weightsEach Try.prog (Try.f6.params.toList ++ Rows.codeDecodesSpec.plain.varTypes Try.prog) (ds ++ gs)).all (· ≤ reachBytes) = true := hsz0
  have hval : ∀ (j : Nat) t v, Try.f6.params[j]? = some t → args[j]? = some v → Value.okWide Try.prog W .any base t v := hval0
  have hW' := hW
  obtain ⟨p, q, hA0, hV, rfl, hfz, hnd⟩ := hW
  have hA : DataW.TrodAll enc Try.prog W 0 (fun _ => true) true Try.f6.params.toList args.toList ds p := hA0
  rw [Try.params6] at hA hval hsz
  obtain ⟨v0, vs0, d0, ds0, p0, q0, hargs, rfl, rfl, h0, r0⟩ := trodAll_cons hA
  obtain ⟨rfl, rfl, rfl⟩ := trodAll_nil r0
  obtain rfl : args = #[v0] := by cases args; simp_all
  obtain ⟨rfl, rfl⟩ := trodVars_none hV
  have lt0 := trod_lt h0
  obtain ⟨a0, len0, cap0, rfl⟩ := okWide_slice Try.underlying31 (hval 0 31 v0 rfl rfl)
  obtain ⟨x0, hK0, w0⟩ := opened (opn_slice (B := 1) Try.underlying31 (by kernel_rfl) (by kernel_rfl) (opn_int Try.underlying5)) hsz (j := 0) (t := 31) rfl rfl h0
  obtain ⟨A0, c0, he0, hl0, hC0⟩ := hK0
  simp [Value.cells] at he0
  obtain ⟨rfl, rfl, rfl⟩ := he0
  clear hA0 hval0 hsz0 hsz
  obtain ⟨k, h⟩ := Pure.CodeDecodes x0 w0
  refine (sL_CodeDecodes.calls k a0 cap0 x0 true W hC0 hl0 (⟨rfl⟩) h).mono fun e W' he_ => ?_
  obtain ⟨rfl, bel⟩ := he_
  exact ⟨_, rfl, _, _, _, [], _, [], hW', trodAll_mk1 (shut_bool Try.underlying4 _), (trodAll_cons_mk (Below.trod laidOut (by kernel_rfl) (of_decide_eq_true (by kernel_rfl)) h0 bel lt0) trodAll_mk0), rfl, bel.frame _, fun h => by cases h⟩
theorem over : Rows.codeDecodesRow.holds Try.pinned (OpenSpec.ofChange Rows.codeDecodesSpec) :=
  OpenClaim.holds_of_wide 6 Try.f6 rfl rfl rfl rfl rfl rfl rfl ⟨rfl, rfl, rfl, rfl, rfl⟩ rfl rfl rfl rfl rfl (by kernel_rfl) Try.func6 (by kernel_rfl)
    (of_decide_eq_true (by kernel_rfl)) (by unfold Func.isWrapper; first | (rw [if_pos (by decide +kernel)]; kernel_rfl) | (rw [if_neg (by decide +kernel)]; exact ⟨rfl, rfl⟩))
    (fun os started H enc _ => lifted os started H enc)
theorem proved : Rows.CodeDecodesSaid := over
#print axioms proved
end Go.Proofs.Ytccbdcbeinkjgaa.codeDecodes
namespace Go.Proofs.Ytccbdcbeinkjgaa
theorem codeDecodes_holds : Rows.CodeDecodesSaid := codeDecodes.proved
end Go.Proofs.Ytccbdcbeinkjgaa
end
