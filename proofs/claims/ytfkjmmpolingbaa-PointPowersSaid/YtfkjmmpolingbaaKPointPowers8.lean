/- Part 8 of the proof of the law PointPowers for every input: words, walks and plain laws. No condition. -/
import Derived.Test.YtfkjmmpolingbaaRows
import Derived.WalkKit
import Derived.ProofKit
import Derived.OpenShut
import Derived.ShutString
import Derived.ChangeOld
import Derived.Below
import Derived.SizedLaws
import Derived.Test.YtfkjmmpolingbaaKPointPowers7
section
/- The law PointPowers, over numbers and lists. -/
namespace Go.Proofs.Ytfkjmmpolingbaa.Pure
open Go Go.RowKit Go.Proofs.YtfkjmmpolingbaaW.PrintWords Go.Proofs.YtfkjmmpolingbaaW.PrintLast Go.Proofs.Ytfkjmmpolingbaa.XA Go.Proofs.Ytfkjmmpolingbaa.SaidPointPowers Go.Proofs.Ytfkjmmpolingbaa.PlainPoint Go.Proofs.Ytfkjmmpolingbaa.Evs Go.Proofs.Ytfkjmmpolingbaa.Tabs Go.Proofs.Ytfkjmmpolingbaa.Nums
set_option linter.unusedVariables false
set_option linter.unusedSimpArgs false

def N57 (v : Int) : S57 := ⟨neg v, mag 4294967296 v⟩
def N59 (v : Int) : S59 := ⟨neg v, mag 65536 v⟩
def ok (v : Int) : Prop := v.natAbs ≤ 2 ^ 200
theorem ok_len {b : Nat} (hb : 2 ≤ b) {v : Int} (h : ok v) : (mag b v).length ≤ 1099511627776 := by
  have : v.natAbs < 2 ^ 201 := Nat.lt_of_le_of_lt h (by decide)
  have := mag_len_of hb this
  omega
theorem ok_pow {x : Int} (hx : x.natAbs ≤ 16) {j : Nat} (hj : j ≤ 16) : (x ^ j).natAbs ≤ 2 ^ 64 := by
  rw [Int.natAbs_pow]
  calc x.natAbs ^ j ≤ 16 ^ j := Nat.pow_le_pow_left hx j
    _ ≤ 16 ^ 16 := Nat.pow_le_pow_right (by omega) hj
    _ = 2 ^ 64 := by decide
theorem ok_small {v : Int} (h : v.natAbs ≤ 2 ^ 64) : ok v := Nat.le_trans h (by decide)
theorem ok_mul {v w : Int} (h : v.natAbs ≤ 2 ^ 64) (h' : w.natAbs ≤ 2 ^ 64) : (v * w).natAbs ≤ 2 ^ 128 := by
  rw [Int.natAbs_mul]
  calc v.natAbs * w.natAbs ≤ 2 ^ 64 * 2 ^ 64 := Nat.mul_le_mul h h'
    _ = 2 ^ 128 := by decide
theorem is_true (v : Int) (h : ok v) : Ev (fun k => swagelaw06_is.f k (neg v) (mag 4294967296 v) (neg v) (mag 65536 v)) true := by
  have hl := ok_len (b := 4294967296) (by decide) h
  have hl2 := ok_len (b := 65536) (by decide) h
  have e : integer_Int_Limbs.f (neg v) (mag 4294967296 v) = some (neg v, mag 4294967296 v) := by
    unfold integer_Int_Limbs.f slices_Clone_uint32_uint32.f
    simp only [Option.bind_some, List.length_nil, List.nil_append]
    rw [if_pos (by omega)]
    rfl
  unfold swagelaw06_is.f
  simp only [e, Option.bind_some]
  refine Ev.bind (RefA.ev_make v hl) ?_
  have := RefA.ev_same v v hl2 hl2
  simp only [decide_true] at this
  exact Ev.bind this (Ev.now _)

def term (x y : Int) (n j : Nat) : Int := x ^ j * y ^ (n - 1 - j)
theorem ok_term {x y : Int} (hx : x.natAbs ≤ 16) (hy : y.natAbs ≤ 16) {n j : Nat} (hn : n ≤ 16) (hj : j < n) : (term x y n j).natAbs ≤ 2 ^ 128 := ok_mul (ok_pow hx (by omega)) (ok_pow hy (by omega))

theorem up_loop (x y : Int) (hx : x.natAbs ≤ 16) (hy : y.natAbs ≤ 16) (n : Nat) (hn : n ≤ 16) (R : List S57 × Int)
    (next : Ev (fun k => point_Powers.l1 k (tab n fun j => N57 (x ^ j)) ((n : Int) - 1) x y (neg 1) (mag 4294967296 1)) R) (d : Nat) :
    ∀ i g, i + d = n → (∀ j, j < i → g j = N57 (x ^ j)) → Ev (fun k => point_Powers.l0 k (n : Int) (tab n g) (n : Int) (i : Int) x y (neg (x ^ i)) (mag 4294967296 (x ^ i)) (neg 1) (mag 4294967296 1)) R := by
  induction d with
  | zero =>
    intro i g hi hg
    obtain rfl : i = n := by omega
    rw [tab_congr hg]
    refine Ev.step (f := fun k => point_Powers.l1 k (tab i fun j => N57 (x ^ j)) ((i : Int) - 1) x y (neg 1) (mag 4294967296 1)) (fun k => ?_) next
    simp only [point_Powers.l0]
    rw [if_neg (by omega), wrap_in (by omega)]
  | succ d ih =>
    intro i g hi hg
    refine Ev.step (f := fun k => (integer_Int_Times.f k (neg (x ^ i)) (mag 4294967296 (x ^ i)) x).bind fun bt316 => point_Powers.l0 k (n : Int) (tab n fun j => if j = i then N57 (x ^ i) else g j) (n : Int) ((i : Int) + 1) x y bt316.1 bt316.2 (neg 1) (mag 4294967296 1)) (fun k => ?_) (Ev.bind (IntB.ev_times (x ^ i) x (ok_len (by decide) (ok_small (ok_pow hx (by omega)))) (by omega) (by omega)) ?_)
    · simp only [point_Powers.l0]
      rw [if_pos (by omega), if_pos (by omega), if_pos (by rw [tab_length]; omega), wrap_in (by omega), Int.toNat_natCast, tab_set]
      rfl
    · have := ih (i + 1) (fun j => if j = i then N57 (x ^ i) else g j) (by omega) (by
        intro j hj
        by_cases h : j = i
        · rw [if_pos h, h]
        · rw [if_neg h]; exact hg j (by omega))
      rw [show ((i + 1 : Nat) : Int) = (i : Int) + 1 by omega, Int.pow_succ] at this
      exact this
theorem down_loop (x y : Int) (hx : x.natAbs ≤ 16) (hy : y.natAbs ≤ 16) (n : Nat) (hn : n ≤ 16) :
    ∀ i g, i ≤ n → (∀ j, j < i → g j = N57 (x ^ j)) → (∀ j, i ≤ j → j < n → g j = N57 (term x y n j)) → Ev (fun k => point_Powers.l1 k (tab n g) ((i : Int) - 1) x y (neg (y ^ (n - i))) (mag 4294967296 (y ^ (n - i)))) (tab n fun j => N57 (term x y n j), 0)
  | 0, g, hi, h1, h2 => by
    rw [tab_congr (h := fun j => N57 (term x y n j)) fun j hj => h2 j (by omega) hj]
    refine Ev.step (f := fun _ => some (tab n fun j => N57 (term x y n j), 0)) (fun k => ?_) (Ev.now _)
    simp only [point_Powers.l1]
    rw [if_neg (by omega)]
  | i + 1, g, hi, h1, h2 => by
    have e : ((i + 1 : Nat) : Int) - 1 = (i : Int) := by omega
    have hr : rd_T57 (tab n g) (i : Int) = N57 (x ^ i) := by
      unfold rd_T57
      rw [Int.toNat_natCast, tab_getD g _ (by omega), h1 i (by omega)]
    have hp : x ^ i * y ^ (n - (i + 1)) = term x y n i := by unfold term; rw [show n - (i + 1) = n - 1 - i by omega]
    refine Ev.step (f := fun k => (integer_Int_Mul.f k (neg (x ^ i)) (mag 4294967296 (x ^ i)) (neg (y ^ (n - (i + 1)))) (mag 4294967296 (y ^ (n - (i + 1))))).bind fun bt321 => (integer_Int_Times.f k (neg (y ^ (n - (i + 1)))) (mag 4294967296 (y ^ (n - (i + 1)))) y).bind fun bt326 => point_Powers.l1 k (tab n fun j => if j = i then (⟨bt321.1, bt321.2⟩ : S57) else g j) ((i : Int) - 1) x y bt326.1 bt326.2) (fun k => ?_)
      (Ev.bind (IntA.ev_mul _ _ (ok_len (by decide) (ok_small (ok_pow hx (by omega)))) (ok_len (by decide) (ok_small (ok_pow hy (by omega))))) (Ev.bind (IntB.ev_times _ _ (ok_len (by decide) (ok_small (ok_pow hy (by omega)))) (by omega) (by omega)) ?_))
    · simp only [point_Powers.l1]
      rw [e, if_pos (by omega), if_pos (by omega), if_pos (by rw [tab_length]; omega), hr, wrap_in (by omega)]
      simp only [Int.toNat_natCast, tab_set]
      rfl
    · have := down_loop x y hx hy n hn i (fun j => if j = i then N57 (term x y n i) else g j) (by omega) (by
        intro j hj
        rw [if_neg (by omega)]; exact h1 j (by omega)) (by
        intro j hj hj2
        by_cases h : j = i
        · rw [if_pos h, h]
        · rw [if_neg h]; exact h2 j (by omega) hj2)
      rw [hp]
      rw [show n - i = n - (i + 1) + 1 by omega, Int.pow_succ] at this
      exact this
theorem powers_in (x y : Int) (hx : x.natAbs ≤ 16) (hy : y.natAbs ≤ 16) (n : Nat) (hn : n ≤ 16) : Ev (fun k => point_Powers.f k x y (n : Int)) (tab n fun j => N57 (term x y n j), 0) := by
  have hi : inR x y = true := inR_iff.2 (by omega)
  have hdown := down_loop x y hx hy n hn n (fun j => N57 (x ^ j)) (Nat.le_refl _) (fun _ _ => rfl) (fun j h1 h2 => by omega)
  rw [Nat.sub_self, Int.pow_zero] at hdown
  have hup := up_loop x y hx hy n hn _ hdown n 0 (fun _ => z57) (by omega) (fun j hj => by omega)
  rw [Int.pow_zero] at hup
  unfold point_Powers.f
  simp only [in_at, hi, Option.bind_some, if_true]
  refine ev_neg (by omega) (Ev.step (f := fun k => (integer_Of.f k 1).bind fun bt305 => (integer_Of.f k 1).bind fun bt309 => point_Powers.l0 k (n : Int) (tab n fun _ => z57) (n : Int) 0 x y bt305.1 bt305.2 bt309.1 bt309.2) (fun k => ?_) ?_)
  · simp only [point_Powers.j0]
    rw [if_neg (by simp; omega), if_pos (by omega), if_pos (by omega), Int.toNat_natCast, tab_replicate]
    simp only [Option.bind_some, tab_length]
  · exact Ev.bind (IntA.ev_of 1 (by omega) (by omega)) (Ev.bind (IntA.ev_of 1 (by omega) (by omega)) hup)
theorem powers_out (x y n : Int) (h : ¬ (inR x y = true ∧ 0 ≤ n ∧ n ≤ 16)) : Ev (fun k => point_Powers.f k x y n) ([], 2) := by
  have st : Ev (fun k => point_Powers.j0 k n true x y) ([], 2) := Ev.step (f := fun _ => some ([], 2)) (fun k => by simp only [point_Powers.j0, if_true]) (Ev.now _)
  unfold point_Powers.f
  simp only [in_at, Option.bind_some]
  by_cases h1 : inR x y = true
  · refine ev_pos h1 ?_
    by_cases h2 : n < 0
    · exact ev_pos h2 st
    · refine ev_neg h2 ?_
      have h3 : ¬ n ≤ 16 := fun h3 => h ⟨h1, by omega, h3⟩
      rw [decide_eq_true (show n > 16 by omega)]
      exact st
  · exact ev_neg h1 st

theorem ref_loop (x y : Int) (hx : x.natAbs ≤ 16) (hy : y.natAbs ≤ 16) (n : Nat) (hn : n ≤ 16) (d : Nat) :
    ∀ i, i + d = n → Ev (fun k => swageref06_Powers.l0 k (n : Int) (tab i fun j => N59 (term x y n j)) (i : Int) x y) (tab n fun j => N59 (term x y n j)) := by
  have b5 : ∀ v : Int, v.natAbs ≤ 16 → blen v.natAbs ≤ 5 := fun v hv => blen_le (by omega)
  induction d with
  | zero =>
    intro i hi
    obtain rfl : i = n := by omega
    refine Ev.step (f := fun _ => some (tab i fun j => N59 (term x y i j))) (fun k => ?_) (Ev.now _)
    simp only [swageref06_Powers.l0]
    rw [if_neg (by omega)]
  | succ d ih =>
    intro i hi
    have bx := b5 x hx
    have by' := b5 y hy
    have c1 : blen x.natAbs * i ≤ 5 * 16 := Nat.mul_le_mul bx (by omega)
    have c2 : blen y.natAbs * (n - 1 - i) ≤ 5 * 16 := Nat.mul_le_mul by' (by omega)
    have e : wrap64 ((wrap64 ((n : Int) - 1)) - (i : Int)) = ((n - 1 - i : Nat) : Int) := by rw [wrap_in (x := (n : Int) - 1) (by omega), wrap_in (by omega)]; omega
    refine Ev.step (f := fun k => (swageref02_Of.f k x).bind fun bt387 => ((swageref02_Pow.f k bt387.1 bt387.2 (i : Int)).bind fun bt391 => ((swageref02_Of.f k y).bind fun bt395 => ((swageref02_Pow.f k bt395.1 bt395.2 ((n - 1 - i : Nat) : Int)).bind fun bt399 => ((swageref02_Mul.f k bt391.1 bt391.2 bt399.1 bt399.2).bind fun bt403 => swageref06_Powers.l0 k (n : Int) ((tab i fun j => N59 (term x y n j)) ++ [(⟨bt403.1, bt403.2⟩ : S59)]) ((i : Int) + 1) x y))))) (fun k => ?_) ?_
    · simp only [swageref06_Powers.l0]
      rw [if_pos (by omega), e, wrap_in (by omega)]
      simp only [tab_length, show i < 4398046511104 by omega, if_true]
    · refine Ev.bind (RefA.ev_of x (by omega) (by omega)) (Ev.bind (RefA.ev_pow x i (ok_len (by decide) (ok_small (by omega))) (by omega) (by omega)) (Ev.bind (RefA.ev_of y (by omega) (by omega)) (Ev.bind (RefA.ev_pow y (n - 1 - i) (ok_len (by decide) (ok_small (by omega))) (by omega) (by omega)) (Ev.bind (RefA.ev_mul _ _ (ok_len (by decide) (ok_small (ok_pow hx (by omega)))) (ok_len (by decide) (ok_small (ok_pow hy (by omega))))) ?_))))
      have := ih (i + 1) (by omega)
      rw [tab_succ, show ((i + 1 : Nat) : Int) = (i : Int) + 1 by omega] at this
      exact this
theorem ref_powers (x y : Int) (hx : x.natAbs ≤ 16) (hy : y.natAbs ≤ 16) (n : Nat) (hn : n ≤ 16) : Ev (fun k => swageref06_Powers.f k x y (n : Int)) (tab n fun j => N59 (term x y n j)) := ref_loop x y hx hy n hn n 0 (by omega)

theorem term_scale (x y t : Int) {n i : Nat} (h : i < n) : term (x * t) (y * t) n i = term x y n i * t ^ (n - 1) := by
  unfold term
  rw [Int.mul_pow, Int.mul_pow, show n - 1 = i + (n - 1 - i) by omega, Int.pow_add, show i + (n - 1 - i) - i = n - 1 - i by omega]
  grind
theorem scale_loop (x y t : Int) (n : Nat) (hn : n ≤ 16) (hx : x.natAbs ≤ 16) (hy : y.natAbs ≤ 16) (hxt : (x * t).natAbs ≤ 16) (hyt : (y * t).natAbs ≤ 16) (ht : t.natAbs ≤ 16) (d : Nat) :
    ∀ i, i + d = n → Ev (fun k => swagelaw06_PointPowers.l1 k (n : Int) (tab n fun j => N57 (term x y n j)) (tab n fun j => N57 (term (x * t) (y * t) n j)) (i : Int) (neg (t ^ (n - 1))) (mag 4294967296 (t ^ (n - 1)))) true := by
  induction d with
  | zero =>
    intro i hi
    refine Ev.step (f := fun _ => some true) (fun k => ?_) (Ev.now _)
    simp only [swagelaw06_PointPowers.l1]
    rw [if_neg (by omega)]
  | succ d ih =>
    intro i hi
    have e1 : rd_T57 (tab n fun j => N57 (term x y n j)) (i : Int) = N57 (term x y n i) := by
      unfold rd_T57; rw [Int.toNat_natCast, tab_getD _ _ (by omega)]
    have e2 : rd_T57 (tab n fun j => N57 (term (x * t) (y * t) n j)) (i : Int) = N57 (term x y n i * t ^ (n - 1)) := by
      unfold rd_T57; rw [Int.toNat_natCast, tab_getD _ _ (by omega), term_scale x y t (by omega)]
    have o1 : ok (term x y n i) := Nat.le_trans (ok_term hx hy hn (by omega)) (by decide)
    have o2 : (t ^ (n - 1)).natAbs ≤ 2 ^ 64 := ok_pow ht (by omega)
    have o3 : ok (term x y n i * t ^ (n - 1)) := by
      rw [← term_scale x y t (by omega)]
      exact Nat.le_trans (ok_term hxt hyt hn (by omega)) (by decide)
    refine Ev.step (f := fun k => (integer_Int_Mul.f k (neg (term x y n i)) (mag 4294967296 (term x y n i)) (neg (t ^ (n - 1))) (mag 4294967296 (t ^ (n - 1)))).bind fun bt527 => (integer_Int_Cmp.f k (neg (term x y n i * t ^ (n - 1))) (mag 4294967296 (term x y n i * t ^ (n - 1))) bt527.1 bt527.2).bind fun t531 => if t531 = 0 then swagelaw06_PointPowers.l1 k (n : Int) (tab n fun j => N57 (term x y n j)) (tab n fun j => N57 (term (x * t) (y * t) n j)) ((i : Int) + 1) (neg (t ^ (n - 1))) (mag 4294967296 (t ^ (n - 1))) else some false) (fun k => ?_) ?_
    · simp only [swagelaw06_PointPowers.l1]
      rw [if_pos (by omega), if_pos (by omega), if_pos (by rw [tab_length]; omega), if_pos (by rw [tab_length]; omega), e1, e2, wrap_in (by omega)]
      rfl
    · refine Ev.bind (IntA.ev_mul _ _ (ok_len (by decide) o1) (ok_len (by decide) (ok_small o2))) (Ev.bind (IntB.ev_cmp _ _ (ok_len (by decide) o3) (ok_len (by decide) o3)) (ev_pos (cmp3_self _) ?_))
      have := ih (i + 1) (by omega)
      rw [show ((i + 1 : Nat) : Int) = (i : Int) + 1 by omega] at this
      exact this
theorem tail_at (x y m : Int) (n : Nat) (hn : n ≤ 16) (hx : x.natAbs ≤ 16) (hy : y.natAbs ≤ 16) (d : Nat) :
    ∀ i, i + d = n → Ev (fun k => swagelaw06_PointPowers.l0 k (n : Int) m (tab n fun j => N57 (term x y n j)) (tab n fun j => N59 (term x y n j)) (i : Int) x y) true := by
  induction d with
  | zero =>
    intro i hi
    obtain ⟨t, hte⟩ : ∃ t, t = Int.tmod m 17 := ⟨_, rfl⟩
    have ht : t.natAbs ≤ 16 := by
      rw [hte]
      have h1 := Int.tmod_lt_of_pos m (show (0 : Int) < 17 by omega)
      have h2 := Int.lt_tmod_of_pos m (show (0 : Int) < 17 by omega)
      omega
    have b1 : (x * t).natAbs ≤ 16 * 16 := by rw [Int.natAbs_mul]; exact Nat.mul_le_mul hx ht
    have b2 : (y * t).natAbs ≤ 16 * 16 := by rw [Int.natAbs_mul]; exact Nat.mul_le_mul hy ht
    have w1 : wrap64 (x * t) = x * t := wrap_in (by omega)
    have w2 : wrap64 (y * t) = y * t := wrap_in (by omega)
    refine Ev.step (f := fun k => if inR (x * t) (y * t) = true then swagelaw06_PointPowers.j3 k (n : Int) m (tab n fun j => N57 (term x y n j)) (decide ((n : Int) < 1)) (x * t) (y * t) else swagelaw06_PointPowers.j3 k (n : Int) m (tab n fun j => N57 (term x y n j)) true (x * t) (y * t)) (fun k => ?_) ?_
    · simp only [swagelaw06_PointPowers.l0]
      rw [if_neg (by omega), ← hte, w1, w2, refIn_at]
      rfl
    · have st : Ev (fun k => swagelaw06_PointPowers.j3 k (n : Int) m (tab n fun j => N57 (term x y n j)) true (x * t) (y * t)) true := Ev.step (f := fun _ => some true) (fun k => by simp only [swagelaw06_PointPowers.j3, if_true]) (Ev.now _)
      by_cases hin : inR (x * t) (y * t) = true
      · refine ev_pos hin ?_
        by_cases hn0 : n = 0
        · rw [decide_eq_true (by omega)]; exact st
        · have hb := inR_iff.1 hin
          rw [decide_eq_false (by omega)]
          have bt5 : blen t.natAbs ≤ 5 := blen_le (by omega)
          have c1 : blen t.natAbs * (n - 1) ≤ 5 * 16 := Nat.mul_le_mul bt5 (by omega)
          refine Ev.step (f := fun k => (point_Powers.f k (x * t) (y * t) (n : Int)).bind fun bt511 => ((integer_Of.f k t).bind fun bt515 => ((integer_Int_Pow.f k bt515.1 bt515.2 ((n - 1 : Nat) : Int)).bind fun bt519 => (if bt511.2 = 0 then (if bt519.2.2 = 0 then (swagelaw06_PointPowers.j4 k (n : Int) (tab n fun j => N57 (term x y n j)) bt511.1 ((bt511.1.length : Int) != (n : Int)) bt519.1 bt519.2.1) else (swagelaw06_PointPowers.j4 k (n : Int) (tab n fun j => N57 (term x y n j)) bt511.1 true bt519.1 bt519.2.1)) else (swagelaw06_PointPowers.j4 k (n : Int) (tab n fun j => N57 (term x y n j)) bt511.1 true bt519.1 bt519.2.1))))) (fun k => ?_) ?_
          · simp only [swagelaw06_PointPowers.j3, Bool.false_eq_true, if_false]
            rw [← hte, show wrap64 ((n : Int) - 1) = ((n - 1 : Nat) : Int) by rw [wrap_in (by omega)]; omega]
          · refine Ev.bind (powers_in (x * t) (y * t) (by omega) (by omega) n hn) (Ev.bind (IntA.ev_of t (by omega) (by omega)) (Ev.bind (IntB.ev_pow t (n - 1) (ok_len (by decide) (ok_small (by omega))) (by omega) (by omega)) (ev_pos rfl (ev_pos rfl ?_))))
            refine Ev.step (f := fun k => swagelaw06_PointPowers.l1 k (n : Int) (tab n fun j => N57 (term x y n j)) (tab n fun j => N57 (term (x * t) (y * t) n j)) ((0 : Nat) : Int) (neg (t ^ (n - 1))) (mag 4294967296 (t ^ (n - 1)))) (fun k => ?_) (scale_loop x y t n hn hx hy (by omega) (by omega) ht n 0 (by omega))
            simp only [swagelaw06_PointPowers.j4, tab_length, bne_self_eq_false, Bool.false_eq_true, if_false]
            rfl
      · exact ev_neg hin st
  | succ d ih =>
    intro i hi
    have e1 : rd_T57 (tab n fun j => N57 (term x y n j)) (i : Int) = N57 (term x y n i) := by
      unfold rd_T57; rw [Int.toNat_natCast, tab_getD _ _ (by omega)]
    have e2 : rd_T59 (tab n fun j => N59 (term x y n j)) (i : Int) = N59 (term x y n i) := by
      unfold rd_T59; rw [Int.toNat_natCast, tab_getD _ _ (by omega)]
    have o1 : ok (term x y n i) := Nat.le_trans (ok_term hx hy hn (by omega)) (by decide)
    refine Ev.step (f := fun k => (swagelaw06_is.f k (neg (term x y n i)) (mag 4294967296 (term x y n i)) (neg (term x y n i)) (mag 65536 (term x y n i))).bind fun t508 => if t508 = true then swagelaw06_PointPowers.l0 k (n : Int) m (tab n fun j => N57 (term x y n j)) (tab n fun j => N59 (term x y n j)) ((i : Int) + 1) x y else some false) (fun k => ?_) (Ev.bind (is_true _ o1) (ev_pos rfl ?_))
    · simp only [swagelaw06_PointPowers.l0]
      rw [if_pos (by omega), if_pos (by omega), if_pos (by rw [tab_length]; omega), if_pos (by rw [tab_length]; omega), e1, e2, wrap_in (by omega)]
      rfl
    · have := ih (i + 1) (by omega)
      rw [show ((i + 1 : Nat) : Int) = (i : Int) + 1 by omega] at this
      exact this
theorem ev_live : Ev (fun k => swagelaw06_live.f k) true := ⟨60, fun k hk => live_at (by omega)⟩
theorem PointPowers : SaidPointPowers.Pure := by
  intro p n m hp hn hm
  obtain ⟨x, y⟩ := p
  show ∃ k, swagelaw06_PointPowers.f k x y n m = some true
  apply Ev.rounds
  unfold swagelaw06_PointPowers.f
  refine Ev.bind ev_live (ev_pos rfl ?_)
  by_cases h : inR x y = true ∧ 0 ≤ n ∧ n ≤ 16
  · obtain ⟨h1, h2, h3⟩ := h
    obtain ⟨N, rfl⟩ : ∃ N : Nat, n = N := ⟨n.toNat, by omega⟩
    have hb := inR_iff.1 h1
    refine Ev.bind (powers_in x y (by omega) (by omega) N (by omega)) ?_
    simp only [refIn_at, h1, Option.bind_some, if_true]
    refine ev_neg (by omega) ?_
    rw [decide_eq_false (show ¬ (N : Int) > 16 by omega)]
    refine Ev.step (f := fun k => (swageref06_Powers.f k x y (N : Int)).bind fun t503 => swagelaw06_PointPowers.j1 k (N : Int) m (tab N fun j => N57 (term x y N j)) t503 false x y) (fun k => ?_) (Ev.bind (ref_powers x y (by omega) (by omega) N (by omega)) ?_)
    · simp only [swagelaw06_PointPowers.j0, Bool.false_eq_true, if_false, if_true, tab_length, bne_self_eq_false]
    · refine Ev.step (f := fun k => swagelaw06_PointPowers.l0 k (N : Int) m (tab N fun j => N57 (term x y N j)) (tab N fun j => N59 (term x y N j)) ((0 : Nat) : Int) x y) (fun k => ?_) (tail_at x y m N (by omega) (by omega) (by omega) N 0 (by omega))
      simp only [swagelaw06_PointPowers.j1, Bool.false_eq_true, if_false]
      rfl
  · have st : Ev (fun k => swagelaw06_PointPowers.j0 k n m [] 2 true x y) true := by
      refine Ev.step (f := fun k => (swagelaw06_live.f k).bind fun t502 => some t502) (fun k => ?_) (Ev.bind ev_live (Ev.now _))
      simp only [swagelaw06_PointPowers.j0, if_true, List.length_nil]
      rfl
    refine Ev.bind (powers_out x y n h) ?_
    simp only [refIn_at, Option.bind_some]
    by_cases h1 : inR x y = true
    · refine ev_pos h1 ?_
      by_cases h2 : n < 0
      · exact ev_pos h2 st
      · refine ev_neg h2 ?_
        have h3 : ¬ n ≤ 16 := fun h3 => h ⟨h1, by omega, h3⟩
        rw [decide_eq_true (show n > 16 by omega)]
        exact st
    · exact ev_neg h1 st
end Go.Proofs.Ytfkjmmpolingbaa.Pure
end

section
/- The row of the law PointPowers, for every input: out of the pure statement and the walk. No condition. -/
namespace Go.Proofs.Ytfkjmmpolingbaa.pointPowers
open Go.ChangeShapes Go.WideShapes Go.ChangeAt Go.RowKit Go.Proofs.YtfkjmmpolingbaaW.PrintWords Go.Proofs.Ytfkjmmpolingbaa.Opn Go.Proofs.Ytfkjmmpolingbaa.XA Go.Proofs.Ytfkjmmpolingbaa.SaidPointPowers
open Go.ChangeMaps (open_string shut_string)
set_option linter.unusedVariables false
theorem own : ownKnob Try.prog.godebug = none := by kernel_rfl
theorem laidOut : laidOutB Try.prog = true := by kernel_rfl
set_option maxRecDepth 100000 in
theorem lifted (os : Os) (started : os.Started) (H : Type) (enc : TypeId × Value → H) :
    ReturnsInHanded {} Try.checked os 7 .any (Rows.pointPowersSpec.pre6 enc Try.prog Try.f7 Rows.pointPowersRow.domain false) (Rows.pointPowersSpec.post enc Try.prog Try.f7 false true false false) := by
  refine returnsInHanded_of_change_sized (C := Try.checked) own started (by kernel_rfl) Try.func7
    (ChangeSpec.witness6 (enc := enc) (C := Try.checked) false ⟨#[], #[.agg #[.int .i64 0, .int .i64 0], .int .i64 0, .int .i64 0], []⟩ 8 (by kernel_rfl) (by kernel_rfl) (by kernel_rfl) (by kernel_rfl)) ?_
  intro W base args ds gs before hval0 hW hcnd hsz0 _
  have hsz : (DataW.weightsEach Try.prog (Try.f7.params.toList ++ Rows.pointPowersSpec.plain.varTypes Try.prog) (ds ++ gs)).all (· ≤ reachBytes) = true := hsz0
  have hval : ∀ (j : Nat) t v, Try.f7.params[j]? = some t → args[j]? = some v → Value.okWide Try.prog W .any base t v := hval0
  have hW' := hW
  obtain ⟨p, q, hA0, hV, rfl, hfz, hnd⟩ := hW
  have hA : DataW.TrodAll enc Try.prog W 0 (fun _ => true) true Try.f7.params.toList args.toList ds p := hA0
  rw [Try.params7] at hA hval hsz
  obtain ⟨v0, vs0, d0, ds0, p0, q0, hargs, rfl, rfl, h0, r0⟩ := trodAll_cons hA
  obtain ⟨v1, vs1, d1, ds1, p1, q1, rfl, rfl, rfl, h1, r1⟩ := trodAll_cons r0
  obtain ⟨v2, vs2, d2, ds2, p2, q2, rfl, rfl, rfl, h2, r2⟩ := trodAll_cons r1
  obtain ⟨rfl, rfl, rfl⟩ := trodAll_nil r2
  obtain rfl : args = #[v0, v1, v2] := by cases args; simp_all
  obtain ⟨rfl, rfl⟩ := trodVars_none hV
  have lt0 := trod_lt h0
  obtain ⟨⟨cs0⟩, rfl, _⟩ := okWide_struct Try.underlying23 (hval 0 23 v0 rfl rfl)
  obtain ⟨x0, hK00, w0⟩ := opened (opnS23) hsz (j := 0) (t := 23) rfl rfl h0
  have hK0 : k23.K W x0 cs0 := hK00
  clear hK00
  obtain ⟨_, _, rfl, rfl, rfl⟩ := hK0
  obtain ⟨a1, rfl, rfl, rfl, w1⟩ := open_int Try.underlying3 (hval 1 3 v1 rfl rfl) h1
  obtain ⟨a2, rfl, rfl, rfl, w2⟩ := open_int Try.underlying3 (hval 2 3 v2 rfl rfl) h2
  clear hA0 hval0 hsz0 hsz
  obtain ⟨k, h⟩ := Pure.PointPowers x0 a1 a2 w0 w1 w2
  refine (swagelaw06_PointPowers.calls k x0.f0 x0.f1 a1 a2 true W (⟨rfl⟩) h).mono fun e W' he_ => ?_
  obtain ⟨rfl, bel⟩ := he_
  exact ⟨_, rfl, _, _, _, [], _, [], hW', trodAll_mk1 (shut_bool Try.underlying4 _), (trodAll_cons_mk (Below.trod laidOut (by kernel_rfl) (of_decide_eq_true (by kernel_rfl)) h0 bel lt0) (trodAll_cons_mk (shut_int Try.underlying3 w1) (trodAll_cons_mk (shut_int Try.underlying3 w2) trodAll_mk0))), rfl, bel.frame _, fun h => by cases h⟩
theorem over : Rows.pointPowersRow.holds Try.pinned (OpenSpec.ofChange Rows.pointPowersSpec) :=
  OpenClaim.holds_of_wide 7 Try.f7 rfl rfl rfl rfl rfl rfl rfl ⟨rfl, rfl, rfl, rfl, rfl⟩ rfl rfl rfl rfl rfl (by kernel_rfl) Try.func7 (by kernel_rfl)
    (of_decide_eq_true (by kernel_rfl)) (by unfold Func.isWrapper; first | (rw [if_pos (by decide +kernel)]; kernel_rfl) | (rw [if_neg (by decide +kernel)]; exact ⟨rfl, rfl⟩))
    (fun os started H enc _ => lifted os started H enc)
theorem proved : Rows.PointPowersSaid := over
#print axioms proved
end Go.Proofs.Ytfkjmmpolingbaa.pointPowers
namespace Go.Proofs.Ytfkjmmpolingbaa
/-- The row, under a short name, for the claim. -/
theorem pointPowers_holds : Rows.PointPowersSaid := pointPowers.proved
end Go.Proofs.Ytfkjmmpolingbaa
end
