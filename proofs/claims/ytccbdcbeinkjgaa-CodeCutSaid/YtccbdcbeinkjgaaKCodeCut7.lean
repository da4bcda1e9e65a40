/- Part 7 of the proof of the law CodeCut for every input: words, walks and plain laws. No condition. -/
import Derived.Test.YtccbdcbeinkjgaaKCodeCut6
section
namespace Go.Proofs.Ytccbdcbeinkjgaa.XA
open Go.Proofs.Ytccbdcbeinkjgaa.Lift Go.RowKit Go.Proofs.YtccbdcbeinkjgaaW.PrintWords Go.Proofs.YtccbdcbeinkjgaaW.PrintLast Go.Proofs.YtccbdcbeinkjgaaW.PrintMore
attribute [local go_sem] max2_int min2_int max_two min_two max_three min_three max_four min_four
set_option linter.unusedVariables false
set_option linter.unusedSimpArgs false

/-! ### code_reader_signed: function 34 -/
theorem signed_pred (w : World) : PredB Try.prog 53 #[] (fun x => decide (x ≤ 16) || decide (240 ≤ x)) w := by
 intro W x x0 x1 hb
 unfold FnGives
 by_cases c : x ≤ 16
 ·have cb : decide (x ≤ 16) = true := decide_eq_true c
  clear c
  go_enter Try.func53, Try.ntmps53
  go_wp2
  repeat (go_quiet (fail); try go_wp2)
  go_ret
  exact ⟨by simp [cb], 0, rfl⟩
 ·have cb : decide (x ≤ 16) = false := decide_eq_false c
  clear c
  go_enter Try.func53, Try.ntmps53
  go_wp2
  repeat (go_quiet (fail); try go_wp2)
  go_ret
  exact ⟨by simp [cb], 0, rfl⟩
theorem byteF_rng {good : Int → Bool} {s : List Int} {at_ : Int} {wrong : Bool} {r1 r2 : Int} {r3 : Bool} (h : byteF good s at_ wrong = some (r1, r2, r3)) : 0 ≤ r1 ∧ r1 ≤ 255 := by
 unfold byteF at h
 split at h
 ·cases h; decide
 ·split at h
  ·cases h; decide
  ·split at h
   ·rename_i hc
    split at h
    ·cases h; exact ⟨hc.2.2.2.1, hc.2.2.2.2⟩
    ·cases h; decide
   ·cases h
/-- A byte as a number with a sign. -/
def s8 (x : Int) : Int := if x ≤ 127 then x else x - 256
def code_reader_signed.f (s0_0 : List Int) (s0_1 : Int) (s0_2 : Bool) : Option (Int × Int × Bool) := (byteF (fun x => decide (x ≤ 16) || decide (240 ≤ x)) s0_0 s0_1 s0_2).bind fun b => some (s8 b.1, b.2.1, b.2.2)
set_option maxHeartbeats 4000000 in
set_option maxRecDepth 100000 in
theorem code_reader_signed.calls (g : Nat) (s0_0 : List Int) (s0_1 : Int) (s0_2 : Bool) (r1 : Int) (r2 : Int) (r3 : Bool) (w0 w : World) (hI : IsS70 w0 w g s0_0 s0_1 s0_2) (hB : Below w0.heap.size w0 w) (h : code_reader_signed.f s0_0 s0_1 s0_2 = some (r1, r2, r3)) :
  Calls Try.prog 34 #[.pointer (some ⟨g, 0, none⟩)] w fun e w' => e = .returned (.int .i64 r1) ∧ IsS70 w0 w' g s0_0 r2 r3 ∧ Below w0.heap.size w0 w' ∧ KeepBut w w' g none := by
 unfold code_reader_signed.f at h
 obtain ⟨⟨x, y, z⟩, hb, h⟩ := Option.bind_eq_some_iff.mp h
 simp only [Option.some.injEq, Prod.mk.injEq] at h
 obtain ⟨rfl, rfl, rfl⟩ := h
 have eg := enters_of Try.func53 zk rfl
 have C := code_reader_byte eg g s0_0 s0_1 s0_2 x y z w0 w (signed_pred w) hI hB hb
 have hr := byteF_rng hb
 obtain ⟨hr0, hr1⟩ := hr
 have h8 : IntKind.i8.wrap x = s8 x := by
  obtain ⟨n, rfl⟩ : ∃ n : Nat, x = (n : Int) := ⟨x.toNat, by omega⟩
  exact (by decide +kernel : ∀ n, n < 256 → IntKind.i8.wrap ((n : Nat) : Int) = s8 ((n : Nat) : Int)) n (by omega)
 have h64 : IntKind.i64.wrap (s8 x) = s8 x := by rw [i64_w]; unfold s8 wrap64; split <;> omega
 have h64b : wrap64 (s8 x) = s8 x := by rw [← i64_w]; exact h64
 clear hI hB hb
 go_enter Try.func34, Try.ntmps34
 go_wp2_with (go_at_call 51; refine C.mono ?_; rintro e w1 ⟨rfl, hI1, hB1, hK1⟩)
 go_ret
 exact ⟨rfl, hI1, hB1, hK1⟩

end Go.Proofs.Ytccbdcbeinkjgaa.XA
end
