/- Part 14 of the proof of the law SplitJoins for every input: words, walks and plain laws. No condition. -/
import Derived.Lib.EndianBits
import Derived.Lib.TrimByte
import Derived.Laws.BytesArg
import Derived.OpenShut
import Derived.Test.YtakmkhokbcjapaaDoorCards
import Derived.Test.YtakmkhokbcjapaaDoorTie
import Derived.Deep.DeepHandedRow
import Derived.Test.YtakmkhokbcjapaaDoorRows
import Derived.WalkKit
import Derived.ProofKit
import Derived.ShutString
import Derived.ChangeOld
import Derived.Below
import Derived.SizedLaws
import Derived.Test.YtakmkhokbcjapaaDoorKSplitJoins13
set_option linter.unusedVariables false
set_option linter.unusedSimpArgs false
set_option maxHeartbeats 8000000
set_option maxRecDepth 100000
section
namespace Go.Proofs.YtakmkhokbcjapaaDoor.Texts
open Go Go.RowKit Go.Proofs.YtakmkhokbcjapaaDoorW.PrintWords Go.Proofs.YtakmkhokbcjapaaDoorW.PrintLast Go.Proofs.YtakmkhokbcjapaaDoor.XA Go.Proofs.YtakmkhokbcjapaaDoor.Nums Go.Proofs.YtakmkhokbcjapaaDoor.Evs
def divF (b c : Int) : List Int → List Int × Int
  | [] => ([], 0)
  | d :: l => (((divF b c l).2 * b + d) / c :: (divF b c l).1, ((divF b c l).2 * b + d) % c)
theorem divF_len (b c : Int) : ∀ l, (divF b c l).1.length = l.length
  | [] => rfl
  | d :: l => by simp [divF, divF_len b c l]
theorem divF_rest {b c : Int} (hc : 0 < c) : ∀ l, 0 ≤ (divF b c l).2 ∧ (divF b c l).2 < c
  | [] => ⟨Int.le_refl _, hc⟩
  | d :: l => ⟨Int.emod_nonneg _ (by omega), Int.emod_lt_of_pos _ hc⟩
theorem divF_dig {b c : Int} (hc : 0 < c) : ∀ {l : List Int}, dig b l → dig b (divF b c l).1
  | [], _ => dig_nil b
  | d :: l, h => by
    have hd := h d (by simp)
    have hl : dig b l := fun x hx => h x (by simp [hx])
    have hr := divF_rest (b := b) hc l
    have hm : 0 ≤ (divF b c l).2 * b := Int.mul_nonneg hr.1 (by omega)
    refine dig_cons (Int.ediv_nonneg (by omega) (by omega)) ?_ (divF_dig hc hl)
    refine Int.ediv_lt_of_lt_mul hc ?_
    have h1 : ((divF b c l).2 + 1) * b ≤ c * b := Int.mul_le_mul_of_nonneg_right (by omega) (by omega)
    rw [Int.add_mul, Int.one_mul, Int.mul_comm c b] at h1
    omega
theorem divF_val {b c : Int} (hc : 0 < c) : ∀ l, val b (divF b c l).1 * c + (divF b c l).2 = val b l
  | [] => by simp [divF, val]
  | d :: l => by
    have ih := divF_val (b := b) hc l
    have h1 := Int.mul_ediv_add_emod ((divF b c l).2 * b + d) c
    simp only [divF, val]
    rw [← ih, Int.add_mul, Int.mul_add, Int.mul_comm _ c]
    have e1 : b * val b (divF b c l).1 * c = b * (val b (divF b c l).1 * c) := Int.mul_assoc ..
    rw [e1, Int.mul_comm b (divF b c l).2]
    omega
theorem divF_digs {b c n : Nat} (hb : 2 ≤ b) (hc : 0 < c) : strip (divF b c (digs b n)).1 = digs b (n / c) ∧ (divF b c (digs b n)).2 = ((n % c : Nat) : Int) := by
  have h1 := divF_val (b := b) (c := c) (by omega) (digs b n)
  have h2 := divF_rest (b := b) (c := c) (by omega) (digs b n)
  rw [val_digs hb] at h1
  have hd := divF_dig (b := b) (c := c) (by omega) (dig_digs hb n)
  have h0 := val_nonneg hd
  obtain ⟨v, hv⟩ := Int.eq_ofNat_of_zero_le h0
  obtain ⟨r, hr⟩ := Int.eq_ofNat_of_zero_le h2.1
  rw [hv, hr] at h1
  rw [hr] at h2
  have e : v * c + r = n := by exact_mod_cast h1
  have hrc : r < c := by exact_mod_cast h2.2
  have ev : n / c = v := by
    rw [← e, Nat.add_comm, Nat.add_mul_div_right _ _ hc, Nat.div_eq_of_lt hrc, Nat.zero_add]
  have er : n % c = r := by
    rw [← e, Nat.add_comm, Nat.add_mul_mod_self_right, Nat.mod_eq_of_lt hrc]
  rw [ev, er, hr]
  exact ⟨digs_of hb hd hv, rfl⟩
theorem drop_rd {l : List Int} {n : Nat} (h : n < l.length) : l.drop n = rd l (n : Int) :: l.drop (n + 1) := by
  rw [List.drop_eq_getElem_cons h, rd_of h]
theorem or32 {h l : Int} (h0 : 0 ≤ h) (h1 : h < 4294967296) (l0 : 0 ≤ l) (l1 : l < 4294967296) : Go.bits .or .u64 (h * 4294967296) l = h * 4294967296 + l := by
  have e32 : (2 : Int) ^ 32 = 4294967296 := by decide
  have e64 : (2 : Int) ^ 64 = 18446744073709551616 := by decide
  exact bits_join .u64 64 (by decide) (fun n a b => wraps_u64 n a b) 32 (h * 4294967296) l (by omega) (by rw [e32]; omega) (by rw [e64]; omega) l0 (by rw [e32]; omega) (by rw [e64]; omega)
theorem trim_loop (l : List Int) (hl : l.length ≤ 4611686018427387904) : ∀ n : Nat, n ≤ l.length → Ev (fun k => limb_trim.l0 k l (n : Int)) (strip (l.take n))
  | 0, _ => by
    refine Ev.step (f := fun _ => some (l.take 0)) (fun k => ?_) (by simpa [strip] using Ev.now _)
    simp only [limb_trim.l0]
    rw [if_neg (by omega), if_pos (by omega), if_pos (by omega)]
    rfl
  | n + 1, h => by
    refine Ev.step (f := fun k => if rd l (n : Int) = 0 then limb_trim.l0 k l (n : Int) else some (l.take (n + 1))) (fun k => ?_) ?_
    · simp only [limb_trim.l0]
      have e : wrap64 (((n + 1 : Nat) : Int) - 1) = n := by rw [wrap64_in] <;> omega
      rw [if_pos (by omega), e, if_pos (by omega), if_pos (by omega), if_pos (show (0 : Int) ≤ ((n + 1 : Nat) : Int) by omega), if_pos (show ((n + 1 : Nat) : Int) ≤ (l.length : Int) by omega)]
      rfl
    · rw [take_snoc (show n < l.length by omega), strip_snoc]
      by_cases h0 : rd l (n : Int) = 0
      · rw [if_pos h0]; exact ev_pos h0 (trim_loop l hl n (by omega))
      · rw [if_neg h0]; exact ev_neg h0 (Ev.now _)
theorem ev_trim (l : List Int) (hl : l.length ≤ 4611686018427387904) : Ev (fun k => limb_trim.f k l) (strip l) := by
  have := trim_loop l hl l.length (Nat.le_refl _)
  rw [List.take_length] at this
  exact this
theorem ev_limbNorm (l : List Int) (hl : l.length ≤ 70368744177664) : Ev (fun k => limb_Norm.f k l) (strip l) := by
  unfold limb_Norm.f
  refine Ev.bind (ev_trim l (by omega)) ?_
  have := strip_len l
  exact ev_pos (by omega) (ev_pos (by omega) (Ev.now _))
theorem set_mid (P Q : List Int) (n : Nat) (h : P.length = n + 1) (v : Int) : (P ++ Q).set n v = P.take n ++ v :: Q := by
  rw [List.set_append_left (h := by omega)]
  have e : P.set n v = P.take n ++ [v] := by
    rw [List.set_eq_take_append_cons_drop, if_pos (by omega), List.drop_of_length_le (by omega)]
  rw [e]
  simp
theorem small_loop (x : List Int) (c : Int) (hc : 0 < c) (hc2 : c < 4294967296) (hx : dig 4294967296 x) (lx : x.length ≤ 1099511627776) :
    ∀ n : Nat, n ≤ x.length → ∀ P : List Int, P.length = n → Ev (fun k => limb_DivSmall.l0 k x c (P ++ (divF 4294967296 c (x.drop n)).1) (divF 4294967296 c (x.drop n)).2 ((n : Int) - 1)) (strip (divF 4294967296 c x).1, (divF 4294967296 c x).2, 0)
  | 0, _, P, hP => by
    obtain rfl := List.eq_nil_of_length_eq_zero hP
    refine Ev.step (f := fun k => (limb_trim.f k (divF 4294967296 c x).1).bind fun t => some (t, ((divF 4294967296 c x).2) % 4294967296, 0)) (fun k => ?_) ?_
    · simp only [limb_DivSmall.l0, List.drop_zero, List.nil_append]
      rw [if_neg (by omega)]
    · refine Ev.bind (ev_trim _ (by rw [divF_len]; omega)) ?_
      have := divF_rest (b := 4294967296) hc x
      rw [Int.emod_eq_of_lt this.1 (by omega)]
      exact Ev.now _
  | n + 1, h, P, hP => by
    have hd := rd_lt hx (show n < x.length by omega)
    have hr := divF_rest (b := 4294967296) hc (x.drop (n + 1))
    have hdr := drop_rd (show n < x.length by omega)
    refine Ev.step (f := fun k => limb_DivSmall.l0 k x c (P.take n ++ (divF 4294967296 c (x.drop n)).1) (divF 4294967296 c (x.drop n)).2 ((n : Int) - 1)) (fun k => ?_) (small_loop x c hc hc2 hx lx n (by omega) (P.take n) (by rw [List.length_take]; omega))
    simp only [limb_DivSmall.l0]
    have e : ((n + 1 : Nat) : Int) - 1 = n := by omega
    have hlen : (P ++ (divF 4294967296 c (x.drop (n + 1))).1).length = x.length := by rw [List.length_append, divF_len, List.length_drop]; omega
    rw [e, if_pos (show (n : Int) ≥ 0 by omega), if_pos (show (0 : Int) ≤ n by omega), if_pos (show (n : Int) < x.length by omega), u64_in (x := c) (by omega) (by omega), if_neg (by omega), hlen, if_pos (show (n : Int) < x.length by omega)]
    rw [u64_in (x := (divF 4294967296 c (x.drop (n + 1))).2 * 4294967296) (by omega) (by omega), u64_in (x := rd x (n : Int)) (by omega) (by omega), or32 hr.1 (by omega) hd.1 hd.2]
    have ht : 0 ≤ (divF 4294967296 c (x.drop (n + 1))).2 * 4294967296 + rd x (n : Int) := by omega
    rw [tdiv_pos ht, tmod_pos ht]
    have hq := divF_dig (b := 4294967296) hc (l := x.drop n) (fun y hy => hx y (List.mem_of_mem_drop hy))
    rw [hdr] at hq ⊢
    have hq0 := hq _ (by simp only [divF]; exact List.mem_cons_self ..)
    have hq1 : 0 ≤ ((divF 4294967296 c (x.drop (n + 1))).2 * 4294967296 + rd x (n : Int)) / c := Int.ediv_nonneg ht (by omega)
    rw [u64_in hq1 (by omega), Int.emod_eq_of_lt hq1 hq0.2, Int.toNat_natCast, set_mid P _ n hP, wrap64_in (by omega) (by omega)]
    rfl
theorem ev_divSmall (n c : Nat) (hc : 0 < c) (hc2 : c < 4294967296) (hl : (digs 4294967296 n).length ≤ 1099511627776) : Ev (fun k => limb_DivSmall.f k (digs 4294967296 n) (c : Int)) (digs 4294967296 (n / c), ((n % c : Nat) : Int), 0) := by
  unfold limb_DivSmall.f
  have h1 := divF_digs (b := 4294967296) (c := c) (n := n) (by decide) hc
  have h2 := small_loop (digs 4294967296 n) c (by omega) (by omega) (dig_digs (by decide) n) hl (digs 4294967296 n).length (Nat.le_refl _) (List.replicate (digs 4294967296 n).length 0) (List.length_replicate ..)
  rw [List.drop_length] at h2
  simp only [divF, List.append_nil] at h2
  rw [show ((4294967296 : Nat) : Int) = 4294967296 from rfl] at h1
  rw [h1.1, h1.2] at h2
  refine ev_neg (by omega) (ev_pos (by omega) (ev_pos (by omega) ?_))
  rw [wrap64_in (by omega) (by omega), Int.toNat_natCast]
  exact h2
def padF : Nat → Nat → List Int
  | 0, _ => []
  | j + 1, p => ((p % 10 : Nat) : Int) :: padF j (p / 10)
theorem padF_dig : ∀ j p, dig 10 (padF j p)
  | 0, _ => dig_nil _
  | j + 1, p => dig_cons (by omega) (by omega) (padF_dig j _)
theorem padF_val : ∀ j p, p < 10 ^ j → val 10 (padF j p) = p
  | 0, p, h => by
    have : p = 0 := by simpa using h
    subst this; rfl
  | j + 1, p, h => by
    have h' : p / 10 < 10 ^ j := by rw [Nat.pow_succ] at h; omega
    simp only [padF, val, padF_val j (p / 10) h']
    omega
theorem digs_pad : ∀ j p m, p < 10 ^ j → 0 < m → digs 10 (p + 10 ^ j * m) = padF j p ++ digs 10 m
  | 0, p, m, h, hm => by
    have : p = 0 := by simpa using h
    subst this; simp [padF]
  | j + 1, p, m, h, hm => by
    have h' : p / 10 < 10 ^ j := by rw [Nat.pow_succ] at h; omega
    have hp : 0 < 10 ^ j * m := Nat.mul_pos (Nat.pow_pos (by decide)) hm
    have e : 10 ^ (j + 1) * m = 10 * (10 ^ j * m) := by rw [Nat.pow_succ, Nat.mul_comm (10 ^ j) 10, Nat.mul_assoc]
    rw [e, digs_pos (by decide) (by omega)]
    have e1 : (p + 10 * (10 ^ j * m)) % 10 = p % 10 := by omega
    have e2 : (p + 10 * (10 ^ j * m)) / 10 = p / 10 + 10 ^ j * m := by omega
    rw [e1, e2, digs_pad j (p / 10) m h' hm]
    rfl
def chr (d : Int) : UInt8 := UInt8.ofNat (48 + d).toNat
def dtxt (n : Nat) : List UInt8 := (digs 10 n).reverse.map chr
theorem by9_pad (p : Nat) : by9 (p : Int) = (padF 9 p).reverse.map chr := by
  have e : List.range 9 = [0, 1, 2, 3, 4, 5, 6, 7, 8] := by decide
  simp only [by9, digs9, e, padF, List.map_cons, List.map_nil, List.reverse_cons, List.reverse_nil, List.nil_append, List.cons_append, dg, chr, List.cons.injEq, and_true]
  refine ⟨?_, ?_, ?_, ?_, ?_, ?_, ?_, ?_, ?_⟩ <;> congr 1 <;> simp only [Nat.reduceSub, Int.reducePow, Nat.reducePow, Int.pow_zero] <;> omega
theorem chr_zero {d : Int} (h0 : 0 ≤ d) (h1 : d < 10) : (chr d == 48) = decide (d = 0) := by
  obtain ⟨n, rfl⟩ := Int.eq_ofNat_of_zero_le h0
  have hn : n < 10 := by omega
  have hall : ∀ n < 10, (chr ((n : Nat) : Int) == 48) = decide (((n : Nat) : Int) = 0) := by decide
  exact hall n hn
theorem trim_strip : ∀ {l : List Int}, dig 10 l → Lib.trimLeftB (l.reverse.map chr) 48 = (strip l).reverse.map chr
  | [], _ => rfl
  | d :: l, h => by
    have hd := h d (by simp)
    have ih := trim_strip (l := l) (fun x hx => h x (by simp [hx]))
    unfold Lib.trimLeftB at ih ⊢
    rw [List.reverse_cons, List.map_append, List.dropWhile_append, ih]
    simp only [strip]
    by_cases hs : strip l = []
    · rw [hs, if_pos (by simp), if_pos rfl]
      simp only [List.map_cons, List.map_nil, List.dropWhile_cons, chr_zero hd.1 hd.2, List.dropWhile_nil]
      by_cases h0 : d = 0 <;> simp [h0]
    · rw [if_neg hs, if_neg (by simpa using hs)]
      simp
theorem limbrev_snoc (L : List Int) (p : Int) (h : L ≠ []) : limbrev (L ++ [p]) = limbrev L ++ by9 p := by
  cases L with
  | nil => exact absurd rfl h
  | cons q r => simp [limbrev, List.flatMap_append]
theorem limbrev_digs : ∀ n : Nat, 0 < n → limbrev (digs 1000000000 n).reverse = dtxt n := by
  refine digs_ind (b := 1000000000) (by decide) (fun h => absurd h (by omega)) (fun n hn ih _ => ?_)
  rw [digs_pos (by decide) hn, List.reverse_cons]
  by_cases hq : n / 1000000000 = 0
  · rw [hq, digs_zero, List.reverse_nil, List.nil_append]
    have e : n % 1000000000 = n := by omega
    rw [e]
    simp only [limbrev, List.flatMap_nil, List.append_nil]
    rw [by9_pad, trim_strip (padF_dig 9 n), digs_of (by decide) (padF_dig 9 n) (padF_val 9 n (by omega))]
    rfl
  · rw [limbrev_snoc _ _ (by rw [ne_eq, List.reverse_eq_nil_iff, digs_eq_nil (by decide)]; exact hq), ih (by omega), by9_pad]
    have e : n = n % 1000000000 + 10 ^ 9 * (n / 1000000000) := by omega
    have e2 := digs_pad 9 (n % 1000000000) (n / 1000000000) (by omega) (by omega)
    rw [← e] at e2
    unfold dtxt
    rw [e2, List.reverse_append, List.map_append]
def decB (n : Nat) : List UInt8 := if n = 0 then [48] else dtxt n
def ends (ps : List Int) : ByteArray := if ps = [] then ⟨#[48]⟩ else limbtxt ps
theorem limbText_loop : ∀ n : Nat, (digs 4294967296 n).length ≤ 1099511627776 → ∀ acc : List Int, dig 1000000000 acc → acc.length + (digs 1000000000 n).length ≤ 1099511627776 →
    Ev (fun k => limb_Text.l0 k acc (digs 4294967296 n)) (ends (acc ++ digs 1000000000 n)) := by
  refine digs_ind (b := 1000000000) (by decide) (fun _ acc ha hl => ?_) (fun n hn ih h1 acc ha hl => ?_)
  · have hl0 : (digs 1000000000 0).length = 0 := rfl
    rw [digs_zero, digs_zero, List.append_nil]
    refine Ev.step (f := fun _ => some (ends acc)) (fun k => ?_) (Ev.now _)
    have hg : ¬ ((([] : List Int).length : Int) > 0) := by simp
    simp only [limb_Text.l0]
    rw [if_neg hg]
    unfold ends
    by_cases h0 : acc = []
    · subst h0; rfl
    · have hp : 0 < acc.length := List.length_pos_iff.2 h0
      have hall : (acc.all fun p => decide (0 ≤ p ∧ p < 1000000000)) = true := List.all_eq_true.2 fun p hp => decide_eq_true (ha p hp)
      rw [if_neg (show ¬ (acc.length : Int) = 0 by omega), if_pos ⟨by omega, hall⟩, if_neg h0]
  · have hp : 0 < (digs 4294967296 n).length := List.length_pos_iff.2 (by rw [ne_eq, digs_eq_nil (by decide)]; omega)
    have e9 := digs_pos (b := 1000000000) (by decide) hn
    rw [e9] at hl ⊢
    rw [List.length_cons] at hl
    have hm := digs_len_mono (b := 4294967296) (by decide) (Nat.div_le_self n 1000000000)
    refine Ev.step (f := fun k => (limb_DivSmall.f k (digs 4294967296 n) ((1000000000 : Nat) : Int)).bind fun bt => if acc.length < 35184372088832 then limb_Text.l0 k (acc ++ [bt.2.1]) bt.1 else none) (fun k => ?_) ?_
    · simp only [limb_Text.l0]
      rw [if_pos (by omega)]
      rfl
    · refine Ev.bind (ev_divSmall n 1000000000 (by decide) (by decide) h1) (ev_pos (by omega) ?_)
      have := ih (by omega) (acc ++ [((n % 1000000000 : Nat) : Int)]) (dig_append ha (dig_cons (by omega) (by omega) (dig_nil _))) (by rw [List.length_append, List.length_cons, List.length_nil]; omega)
      rw [List.append_assoc] at this
      exact this
theorem ends_dec (n : Nat) : ends (digs 1000000000 n) = ⟨(decB n).toArray⟩ := by
  unfold ends decB
  by_cases h : n = 0
  · subst h; rfl
  · rw [if_neg (by rw [digs_eq_nil (by decide)]; exact h), if_neg h]
    unfold limbtxt
    rw [limbrev_digs n (by omega)]
theorem ev_limbText (n : Nat) (h1 : (digs 4294967296 n).length ≤ 1099511627776) (h2 : (digs 1000000000 n).length ≤ 1099511627776) : Ev (fun k => limb_Text.f k (digs 4294967296 n)) ⟨(decB n).toArray⟩ := by
  unfold limb_Text.f
  refine Ev.bind (ev_limbNorm _ (by omega)) ?_
  rw [strip_of_digs (by decide), ← ends_dec]
  exact limbText_loop n h1 [] (dig_nil _) (by simpa using h2)
def dec (s : Bool) (n : Nat) : ByteArray := ⟨((if s then [45] else []) ++ decB n).toArray⟩
theorem nums_ds (L : List UInt8) : ((dsOf ⟨L.toArray⟩).map fun d => 48 + d).map (fun n : Int => UInt8.ofNat n.toNat) = L := by
  unfold dsOf
  simp only [List.map_map]
  refine (List.map_congr_left (g := id) fun b _ => ?_).trans (by simp)
  simp only [Function.comp]
  have : (48 + ((b.toNat : Int) - 48)).toNat = b.toNat := by omega
  rw [this]
  simp
theorem ev_text (s : Bool) (n : Nat) (h1 : (digs 4294967296 n).length ≤ 1099511627776) (h2 : (digs 1000000000 n).length ≤ 1099511627776) : Ev (fun k => integer_Int_Text.f k s (digs 4294967296 n)) (dec s n) := by
  unfold integer_Int_Text.f
  refine Ev.bind (ev_limbText n h1 h2) ?_
  refine Ev.congr (f := fun _ => some (dec s n)) (fun _ => ?_) (Ev.now _)
  unfold strOfNums dec
  rw [List.map_append, nums_ds]
  cases s <;> rfl
theorem refNorm_loop (s : Bool) (l : List Int) (hl : l.length ≤ 4611686018427387904) : ∀ n : Nat, n ≤ l.length → Ev (fun k => swageref02_norm.l0 k s l (n : Int)) (s && decide (strip (l.take n) ≠ []), strip (l.take n))
  | 0, _ => by
    refine Ev.step (f := fun _ => some (false, [])) (fun k => ?_) (by simpa [strip] using Ev.now _)
    simp only [swageref02_norm.l0]
    rw [if_neg (by omega)]
    cases s <;> simp
  | n + 1, h => by
    refine Ev.step (f := fun k => if rd l (n : Int) = 0 then swageref02_norm.l0 k s l (n : Int) else some (s, l.take (n + 1))) (fun k => ?_) ?_
    · simp only [swageref02_norm.l0]
      have e : wrap64 (((n + 1 : Nat) : Int) - 1) = n := by rw [wrap64_in] <;> omega
      rw [if_pos (by omega), e, if_pos (by omega), if_pos (by omega)]
      cases s
      · simp only [Bool.false_eq_true, if_false]
        rw [if_pos (show (0 : Int) ≤ ((n + 1 : Nat) : Int) by omega), if_pos (show ((n + 1 : Nat) : Int) ≤ (l.length : Int) by omega)]
        rfl
      · simp only [if_true]
        rw [if_pos (show (0 : Int) ≤ ((n + 1 : Nat) : Int) by omega), if_pos (show ((n + 1 : Nat) : Int) ≤ (l.length : Int) by omega)]
        rfl
    · rw [take_snoc (show n < l.length by omega), strip_snoc]
      by_cases h0 : rd l (n : Int) = 0
      · rw [if_pos h0]; exact ev_pos h0 (refNorm_loop s l hl n (by omega))
      · rw [if_neg h0]
        refine ev_neg h0 ?_
        simp only [ne_eq, List.append_eq_nil_iff, List.cons_ne_self, and_false, not_false_eq_true, decide_true, Bool.and_true, reduceCtorEq]
        exact Ev.now _
theorem ev_refNorm (s : Bool) (l : List Int) (hl : l.length ≤ 4611686018427387904) : Ev (fun k => swageref02_norm.f k s l) (s && decide (strip l ≠ []), strip l) := by
  have := refNorm_loop s l hl l.length (Nat.le_refl _)
  rw [List.take_length] at this
  exact this
theorem ref_loop (x : List Int) (c : Int) (hc : 0 < c) (hc2 : c ≤ 65536) (hx : dig 65536 x) (lx : x.length ≤ 1099511627776) :
    ∀ n : Nat, n ≤ x.length → ∀ P : List Int, P.length = n → Ev (fun k => swageref02_divide.l0 k x [c] (P ++ (divF 65536 c (x.drop n)).1) (divF 65536 c (x.drop n)).2 ((n : Int) - 1)) (strip (divF 65536 c x).1, strip [(divF 65536 c x).2])
  | 0, _, P, hP => by
    obtain rfl := List.eq_nil_of_length_eq_zero hP
    refine Ev.step (f := fun k => (swageref02_norm.f k false (divF 65536 c x).1).bind fun t => (swageref02_norm.f k false [((divF 65536 c x).2) % 4294967296]).bind fun u => some (t.2, u.2)) (fun k => ?_) ?_
    · simp only [swageref02_divide.l0, List.drop_zero, List.nil_append]
      rw [if_neg (by omega)]
    · refine Ev.bind (ev_refNorm false _ (by rw [divF_len]; omega)) (Ev.bind (ev_refNorm false _ (by simp)) ?_)
      have := divF_rest (b := 65536) hc x
      rw [Int.emod_eq_of_lt this.1 (by omega)]
      exact Ev.now _
  | n + 1, h, P, hP => by
    have hd := rd_lt hx (show n < x.length by omega)
    have hr := divF_rest (b := 65536) hc (x.drop (n + 1))
    have hdr := drop_rd (show n < x.length by omega)
    refine Ev.step (f := fun k => swageref02_divide.l0 k x [c] (P.take n ++ (divF 65536 c (x.drop n)).1) (divF 65536 c (x.drop n)).2 ((n : Int) - 1)) (fun k => ?_) (ref_loop x c hc hc2 hx lx n (by omega) (P.take n) (by rw [List.length_take]; omega))
    simp only [swageref02_divide.l0]
    have e : ((n + 1 : Nat) : Int) - 1 = n := by omega
    have hlen : (P ++ (divF 65536 c (x.drop (n + 1))).1).length = x.length := by rw [List.length_append, divF_len, List.length_drop]; omega
    have hc0 : rd [c] 0 = c := rfl
    have h1 : (0 : Int) < ([c].length : Int) := by simp
    rw [e, if_pos (show (n : Int) ≥ 0 by omega), if_pos (show (0 : Int) ≤ n by omega), if_pos (show (n : Int) < x.length by omega), if_pos h1, hc0, u64_in (x := c) (by omega) (by omega), if_neg (by omega), hlen, if_pos (show (n : Int) < x.length by omega)]
    rw [u64_in (x := (divF 65536 c (x.drop (n + 1))).2 * 65536) (by omega) (by omega), u64_in (x := rd x (n : Int)) (by omega) (by omega), u64_in (x := (divF 65536 c (x.drop (n + 1))).2 * 65536 + rd x (n : Int)) (by omega) (by omega)]
    have ht : 0 ≤ (divF 65536 c (x.drop (n + 1))).2 * 65536 + rd x (n : Int) := by omega
    rw [tdiv_pos ht, tmod_pos ht]
    have hq := divF_dig (b := 65536) hc (l := x.drop n) (fun y hy => hx y (List.mem_of_mem_drop hy))
    rw [hdr] at hq ⊢
    have hq0 := hq _ (by simp only [divF]; exact List.mem_cons_self ..)
    have hq1 : 0 ≤ ((divF 65536 c (x.drop (n + 1))).2 * 65536 + rd x (n : Int)) / c := Int.ediv_nonneg ht (by omega)
    rw [u64_in hq1 (by omega), Int.emod_eq_of_lt hq1 (by omega), Int.toNat_natCast, set_mid P _ n hP, wrap64_in (by omega) (by omega)]
    rfl
theorem ev_ten (n : Nat) (hl : (digs 65536 n).length ≤ 1099511627776) : Ev (fun k => swageref02_divide.f k (digs 65536 n) [10]) (digs 65536 (n / 10), digs 65536 (n % 10)) := by
  unfold swageref02_divide.f
  have h1 := divF_digs (b := 65536) (c := 10) (n := n) (by decide) (by decide)
  have h2 := ref_loop (digs 65536 n) 10 (by omega) (by omega) (dig_digs (by decide) n) hl (digs 65536 n).length (Nat.le_refl _) (List.replicate (digs 65536 n).length 0) (List.length_replicate ..)
  rw [List.drop_length] at h2
  simp only [divF, List.append_nil] at h2
  rw [show ((65536 : Nat) : Int) = 65536 from rfl, show ((10 : Nat) : Int) = 10 from rfl] at h1
  rw [h1.1, h1.2, digs_of (b := 65536) (l := [((n % 10 : Nat) : Int)]) (n := n % 10) (by decide) (dig_cons (by omega) (by omega) (dig_nil _)) (by simp [val])] at h2
  refine ev_pos (by simp) (ev_pos (by omega) (ev_pos (by omega) ?_))
  rw [wrap64_in (by omega) (by omega), Int.toNat_natCast]
  exact h2
theorem swap_mid (X M Y : List Int) (a b : Int) : ((X ++ (a :: (M ++ [b])) ++ Y).set X.length b).set (X.length + 1 + M.length) a = (X ++ [b]) ++ M ++ (a :: Y) := by
  have e1 : (X ++ (a :: (M ++ [b])) ++ Y).set X.length b = X ++ (b :: (M ++ [b])) ++ Y := by
    rw [List.append_assoc, List.set_append_right (h := by omega)]
    simp
  rw [e1]
  have e2 : X ++ (b :: (M ++ [b])) ++ Y = (X ++ [b] ++ M) ++ (b :: Y) := by simp
  rw [e2, List.set_append_right (h := by simp; omega)]
  have e3 : X.length + 1 + M.length - (X ++ [b] ++ M).length = 0 := by simp only [List.length_append, List.length_cons, List.length_nil]; omega
  rw [e3]
  simp
theorem rev_loop : ∀ m : Nat, ∀ X M Y : List Int, M.length = m → X.length = Y.length → (X ++ M ++ Y).length ≤ 1099511627776 → Ev (fun k => swageref02_Text.l1 k (X ++ M ++ Y) (X.length : Int)) (strOfNums (X ++ M.reverse ++ Y)) := by
  intro m
  induction m using Nat.strongRecOn with
  | ind m ih =>
    intro X M Y hM hXY hl
    have hlen : ((X ++ M ++ Y).length : Int) = 2 * X.length + m := by simp only [List.length_append]; omega
    have hh : wrap64 ((2 * (X.length : Int) + m) / 2) = X.length + (m : Int) / 2 := by rw [wrap64_in (by omega) (by omega)]; omega
    by_cases h2 : m < 2
    · refine Ev.step (f := fun _ => some (strOfNums (X ++ M ++ Y))) (fun k => ?_) ?_
      · simp only [swageref02_Text.l1]
        rw [hlen, hh, if_neg (by omega)]
      · have : M.reverse = M := by
          match M, hM with
          | [], _ => rfl
          | [a], _ => rfl
          | a :: b :: r, hM => simp at hM; omega
        rw [this]
        exact Ev.now _
    · obtain ⟨a, M', b, rfl⟩ : ∃ a M' b, M = a :: (M' ++ [b]) := by
        match M, hM with
        | [], hM => simp at hM; omega
        | [a], hM => simp at hM; omega
        | a :: c :: r, hM =>
          have hne : c :: r ≠ [] := by simp
          exact ⟨a, (c :: r).dropLast, (c :: r).getLast hne, by rw [List.dropLast_concat_getLast hne]⟩
      have hm' : M'.length + 2 = m := by rw [← hM]; simp
      refine Ev.step (f := fun k => swageref02_Text.l1 k ((X ++ [b]) ++ M' ++ (a :: Y)) ((X ++ [b]).length : Int)) (fun k => ?_) ?_
      · simp only [swageref02_Text.l1]
        have hi : wrap64 (wrap64 ((2 * (X.length : Int) + m) - 1) - X.length) = ((X.length + 1 + M'.length : Nat) : Int) := by
          rw [wrap64_in (x := (2 * (X.length : Int) + m) - 1) (by omega) (by omega), wrap64_in (by omega) (by omega)]; omega
        have ra : rd (X ++ (a :: (M' ++ [b])) ++ Y) (X.length : Int) = a := by
          rw [rd_of (by simp)]
          simp
        have rb : rd (X ++ (a :: (M' ++ [b])) ++ Y) ((X.length + 1 + M'.length : Nat) : Int) = b := by
          rw [rd_of (by simp; omega)]
          have e2 : X ++ (a :: (M' ++ [b])) ++ Y = (X ++ [a] ++ M') ++ (b :: Y) := by simp
          simp only [e2]
          have e4 : X.length + 1 + M'.length = (X ++ [a] ++ M').length := by simp only [List.length_append, List.length_cons, List.length_nil]
          simp only [e4]
          rw [List.getElem_append_right (Nat.le_refl _)]
          simp
        rw [hlen, hh, if_pos (by omega), hi, if_pos (by omega), if_pos (by omega), if_pos (by omega), if_pos (by omega), ra, rb, Int.toNat_natCast, Int.toNat_natCast, swap_mid, wrap64_in (by omega) (by omega)]
        congr 1
        simp
      · have := ih M'.length (by omega) (X ++ [b]) M' (a :: Y) rfl (by simp [hXY]) (by simp only [List.length_append, List.length_cons, List.length_nil] at hl ⊢; omega)
        have e : X ++ (a :: (M' ++ [b])).reverse ++ Y = (X ++ [b]) ++ M'.reverse ++ (a :: Y) := by simp
        rw [e]
        exact this
theorem ev_rev (L : List Int) (hl : L.length ≤ 1099511627776) : Ev (fun k => swageref02_Text.j1 k L) (strOfNums L.reverse) := by
  refine Ev.step (f := fun k => swageref02_Text.l1 k L 0) (fun k => by simp only [swageref02_Text.j1]) ?_
  have := rev_loop L.length [] L [] rfl rfl (by simpa using hl)
  simpa using this
def endsR (s : Bool) (L : List Int) : ByteArray := if L = [] then ⟨#[48]⟩ else strOfNums ((if s then [45] else []) ++ L.reverse)
theorem refText_loop (s : Bool) (D : List Int) : ∀ n : Nat, (digs 65536 n).length ≤ 1099511627776 → ∀ acc : List Int, acc.length + (digs 10 n).length < 1099511627776 →
    Ev (fun k => swageref02_Text.l0 k acc (digs 65536 n) s D) (endsR s (acc ++ (digs 10 n).map fun d => 48 + d)) := by
  refine digs_ind (b := 10) (by decide) (fun _ acc hl => ?_) (fun n hn ih h1 acc hl => ?_)
  · have hl0 : (digs 10 0).length = 0 := rfl
    rw [digs_zero, digs_zero, List.map_nil, List.append_nil]
    have hg : ¬ ((([] : List Int).length : Int) > 0) := by simp
    by_cases h0 : acc = []
    · subst h0
      refine Ev.step (f := fun _ => some ⟨#[48]⟩) (fun k => ?_) (Ev.now _)
      simp only [swageref02_Text.l0]
      rw [if_neg hg, if_pos (by simp)]
    · have hp : 0 < acc.length := List.length_pos_iff.2 h0
      unfold endsR
      rw [if_neg h0]
      cases s with
      | true =>
        refine Ev.step (f := fun k => swageref02_Text.j1 k (acc ++ [45])) (fun k => ?_) ?_
        · simp only [swageref02_Text.l0]
          rw [if_neg hg, if_neg (by omega), if_pos trivial, if_pos (by omega)]
        · have := ev_rev (acc ++ [45]) (by simp only [List.length_append, List.length_cons, List.length_nil]; omega)
          rw [List.reverse_append] at this
          exact this
      | false =>
        refine Ev.step (f := fun k => swageref02_Text.j1 k acc) (fun k => ?_) ?_
        · simp only [swageref02_Text.l0]
          rw [if_neg hg, if_neg (by omega), if_neg (by simp)]
        · exact ev_rev acc (by omega)
  · have hp : 0 < (digs 65536 n).length := List.length_pos_iff.2 (by rw [ne_eq, digs_eq_nil (by decide)]; omega)
    have e9 := digs_pos (b := 10) (by decide) hn
    rw [e9] at hl ⊢
    rw [List.length_cons] at hl
    have hm := digs_len_mono (b := 65536) (by decide) (Nat.div_le_self n 10)
    refine Ev.step (f := fun k => (swageref02_divide.f k (digs 65536 n) [10]).bind fun bt => (if (bt.2.length : Int) > 0 then (if 0 < (bt.2.length : Int) then (if acc.length < 140737488355328 then (swageref02_Text.l0 k (acc ++ [((48 + (rd bt.2 0))) % 256]) bt.1 s D) else (none)) else (none)) else (if acc.length < 140737488355328 then (swageref02_Text.l0 k (acc ++ [48]) bt.1 s D) else (none)))) (fun k => ?_) ?_
    · simp only [swageref02_Text.l0]
      rw [if_pos (by omega)]
    · have hi := ih (by omega) (acc ++ [48 + ((n % 10 : Nat) : Int)]) (by rw [List.length_append, List.length_cons, List.length_nil]; omega)
      rw [List.append_assoc] at hi
      refine Ev.bind (ev_ten n h1) ?_
      by_cases hz : n % 10 = 0
      · refine ev_neg (by rw [hz, digs_zero]; simp) (ev_pos (by omega) ?_)
        rw [hz] at hi ⊢
        exact hi
      · have hr : digs 65536 (n % 10) = [((n % 10 : Nat) : Int)] := by
          rw [digs_pos (by decide) (by omega), show n % 10 % 65536 = n % 10 by omega, show n % 10 / 65536 = 0 by omega, digs_zero]
        rw [hr]
        have hl1 : (0 : Int) < ([((n % 10 : Nat) : Int)].length : Int) := by simp
        have hrd : rd [((n % 10 : Nat) : Int)] 0 = ((n % 10 : Nat) : Int) := rfl
        refine ev_pos hl1 (ev_pos hl1 (ev_pos (by omega) ?_))
        rw [hrd, show (48 + ((n % 10 : Nat) : Int)) % 256 = 48 + ((n % 10 : Nat) : Int) by omega]
        exact hi
theorem endsR_dec (s : Bool) (n : Nat) (h : s = true → 0 < n) : endsR s ((digs 10 n).map fun d => 48 + d) = dec s n := by
  unfold endsR dec decB
  by_cases h0 : n = 0
  · subst h0
    have : s = false := by cases s; rfl; exact absurd (h rfl) (by omega)
    subst this; rfl
  · rw [if_neg (by simp only [List.map_eq_nil_iff]; rw [digs_eq_nil (by decide)]; exact h0), if_neg h0]
    unfold strOfNums dtxt
    rw [List.map_append, ← List.map_reverse, List.map_map]
    cases s <;> rfl
theorem ev_refText (s : Bool) (n : Nat) (h : s = true → 0 < n) (h1 : (digs 65536 n).length ≤ 1099511627776) (h2 : (digs 10 n).length < 1099511627776) : Ev (fun k => swageref02_Text.f k s (digs 65536 n)) (dec s n) := by
  unfold swageref02_Text.f
  rw [← endsR_dec s n h]
  have := refText_loop s (digs 65536 n) n h1 [] (by simpa using h2)
  simpa using this
theorem digs_len_base {b c : Nat} (hb : 2 ≤ b) (h : b ≤ c) : ∀ n : Nat, (digs c n).length ≤ (digs b n).length := fun n =>
  digs_len (by omega) _ n (Nat.lt_of_lt_of_le (lt_pow_len hb n) (Nat.pow_le_pow_left h _))
theorem ev_textI (x : Int) (h : (digs 10 x.natAbs).length < 1099511627776) : Ev (fun k => integer_Int_Text.f k (neg x) (mag 4294967296 x)) (dec (neg x) x.natAbs) :=
  ev_text _ _ (Nat.le_of_lt (Nat.lt_of_le_of_lt (digs_len_base (by decide) (by decide) _) h)) (Nat.le_of_lt (Nat.lt_of_le_of_lt (digs_len_base (by decide) (by decide) _) h))
theorem ev_refTextI (x : Int) (h : (digs 10 x.natAbs).length < 1099511627776) : Ev (fun k => swageref02_Text.f k (neg x) (mag 65536 x)) (dec (neg x) x.natAbs) :=
  ev_refText _ _ (fun e => by have := of_decide_eq_true e; omega) (Nat.le_of_lt (Nat.lt_of_le_of_lt (digs_len_base (by decide) (by decide) _) h)) h
end Go.Proofs.YtakmkhokbcjapaaDoor.Texts
end
section
namespace Go.Proofs.YtakmkhokbcjapaaDoor.PolyR
open Go Go.RowKit Go.Proofs.YtakmkhokbcjapaaDoorW.PrintWords Go.Proofs.YtakmkhokbcjapaaDoorW.PrintLast Go.Proofs.YtakmkhokbcjapaaDoorW.PrintMore Go.Proofs.YtakmkhokbcjapaaDoor.XA Go.Proofs.YtakmkhokbcjapaaDoor.Nums Go.Proofs.YtakmkhokbcjapaaDoor.Evs Go.Proofs.YtakmkhokbcjapaaDoor.Tabs Go.Proofs.YtakmkhokbcjapaaDoor.Sums Go.Proofs.YtakmkhokbcjapaaDoor.PolyA Go.Proofs.YtakmkhokbcjapaaDoor.PolyB
def Q (z : Int) : S68 := ⟨neg z, mag 65536 z⟩
theorem smq_len {z : Int} (h : sm z) : (mag 65536 z).length ≤ 1099511627776 := Nat.le_trans (mag_len_of (by decide) h) (by decide)
theorem addq_ev {x y : Int} (hx : sm x) (hy : sm y) : Ev (fun k => swageref02_Add.f k (Q x).f0 (Q x).f1 (Q y).f0 (Q y).f1) ((Q (x + y)).f0, (Q (x + y)).f1) := RefAdd.ev_add x y (smq_len hx) (smq_len hy)
def QT (n : Nat) (g : Nat → Int) : List S68 := tab n (fun i => Q (g i))
theorem QT_len (n : Nat) (g : Nat → Int) : (QT n g).length = n := tab_length _ _
theorem rd_QT {n : Nat} (g : Nat → Int) {i : Nat} (h : i < n) : rd_T68 (QT n g) (i : Int) = Q (g i) := by
  unfold rd_T68 QT
  rw [Int.toNat_natCast, List.getD_eq_getElem?_getD, tab_getElem? _ h]
  rfl
theorem QT_congr {n : Nat} {g h : Nat → Int} (e : ∀ i, i < n → g i = h i) : QT n g = QT n h := tab_congr (fun i hi => by rw [e i hi])
theorem QT_ext {n : Nat} {l : List S68} {g : Nat → Int} (hl : l.length = n) (h : ∀ i, i < n → l[i]? = some (Q (g i))) : l = QT n g := tab_ext hl h
theorem QT_getElem? {n i : Nat} (g : Nat → Int) (h : i < n) : (QT n g)[i]? = some (Q (g i)) := tab_getElem? _ h
theorem QT_replicate (n : Nat) : List.replicate n z68 = QT n (fun _ => 0) := tab_replicate n z68
theorem QT_succ (n : Nat) (g : Nat → Int) : QT n g ++ [Q (g n)] = QT (n + 1) g := (tab_succ n _).symm
theorem QT_set (n i : Nat) (v : Int) (g : Nat → Int) : (QT n g).set i (Q v) = QT n (fun j => if j = i then v else g j) := by
  refine QT_ext (by rw [List.length_set, QT_len]) (fun j hj => ?_)
  rw [List.getElem?_set, QT_len]
  by_cases h : i = j
  · subst h; rw [if_pos rfl, if_pos hj, if_pos rfl]
  · rw [if_neg h, QT_getElem? g hj, if_neg (by omega)]
theorem QT_take {n m : Nat} (g : Nat → Int) (h : m ≤ n) : (QT n g).take m = QT m g := by
  refine QT_ext (by rw [List.length_take, QT_len]; omega) (fun i hi => ?_)
  rw [List.getElem?_take, if_pos hi, QT_getElem? g (by omega)]
theorem ref_loop (l : List Int) (hl : l.length ≤ 100000) (hw : ∀ i, i < l.length → -9223372036854775808 ≤ l.getD i 0 ∧ l.getD i 0 ≤ 9223372036854775807) : ∀ d i, i + d = l.length → Ev (fun k => swagelaw21_ref.l0 k (QT i (fun j => l.getD j 0)) l (l.length : Int) (i : Int)) (QT l.length (fun j => l.getD j 0)) := by
  intro d
  induction d with
  | zero =>
    intro i hi
    obtain rfl : i = l.length := by omega
    refine Ev.step (f := fun _ => some _) (fun k => ?_) (Ev.now _)
    simp only [swagelaw21_ref.l0]
    rw [if_neg (by omega)]
  | succ d ih =>
    intro i hi
    have hlt : i < l.length := by omega
    refine Ev.step (f := fun k => (swageref02_Of.f k (l.getD i 0)).bind fun b => swagelaw21_ref.l0 k (QT i (fun j => l.getD j 0) ++ [⟨b.1, b.2⟩]) l (l.length : Int) ((i + 1 : Nat) : Int)) (fun k => ?_) ?_
    · simp only [swagelaw21_ref.l0]
      rw [if_pos (by omega), if_pos (by omega), if_pos (by omega), rd_nat, next hlt (by omega), QT_len]
      simp only [show i < 4398046511104 by omega, if_true]
    · have hb := hw i hlt
      refine Ev.bind (RefA.ev_of _ hb.1 hb.2) ?_
      show Ev (fun k => swagelaw21_ref.l0 k (QT i (fun j => l.getD j 0) ++ [Q (l.getD i 0)]) _ _ _) _
      rw [QT_succ i (fun j => l.getD j 0)]
      exact ih (i + 1) (by omega)
theorem ref_ev (l : List Int) (hl : l.length ≤ 100000) (hw : ∀ i, i < l.length → -9223372036854775808 ≤ l.getD i 0 ∧ l.getD i 0 ≤ 9223372036854775807) : Ev (fun k => swagelaw21_ref.f k l) (QT l.length (fun j => l.getD j 0)) := by
  unfold swagelaw21_ref.f
  have h := ref_loop l hl hw l.length 0 (by omega)
  exact h
theorem pow210 (n : Nat) : 2 ^ n ≤ 10 ^ n := Nat.pow_le_pow_left (by decide) n
theorem len1000 (n m : Nat) (h : n < 2 ^ m) : (digs 10 n).length ≤ m := digs_len (by decide) m _ (Nat.lt_of_lt_of_le h (pow210 m))
theorem is1_ev {z : Int} (h : sm z) : Ev (fun k => swagelaw21_is_1.f k (R z).f0 (R z).f1 (Q z).f0 (Q z).f1) true := by
  have hl : (digs 10 z.natAbs).length < 1099511627776 := Nat.lt_of_le_of_lt (len1000 z.natAbs 1000 h) (by decide)
  unfold swagelaw21_is_1.f
  refine Ev.bind (Texts.ev_textI z hl) (Ev.bind (Texts.ev_refTextI z hl) ?_)
  rw [beq_self_eq_true]
  exact Ev.now _
theorem is_loop (n : Nat) (a : Nat → Int) (hn : n ≤ 100000) (ha : ∀ i, i < n → sm (a i)) : ∀ d i, i + d = n → Ev (fun k => swageref02_Int.l0 k (QT n a) (RT n a) (n : Int) (i : Int)) true := by
  intro d
  induction d with
  | zero =>
    intro i hi
    obtain rfl : i = n := by omega
    refine Ev.step (f := fun _ => some _) (fun k => ?_) (Ev.now _)
    simp only [swageref02_Int.l0]
    rw [if_neg (by omega)]
  | succ d ih =>
    intro i hi
    have hlt : i < n := by omega
    refine Ev.step (f := fun k => (swagelaw21_is_1.f k (R (a i)).f0 (R (a i)).f1 (Q (a i)).f0 (Q (a i)).f1).bind fun t => if t = true then swageref02_Int.l0 k (QT n a) (RT n a) (n : Int) ((i + 1 : Nat) : Int) else some false) (fun k => ?_) ?_
    · simp only [swageref02_Int.l0]
      rw [if_pos (by omega), if_pos (by omega), RT_len, QT_len, if_pos (by omega), if_pos (by omega), rd_RT a hlt, rd_QT a hlt, next hlt (by omega)]
    · exact Ev.bind (is1_ev (ha i hlt)) (ev_pos rfl (ih (i + 1) (by omega)))
theorem is_ev (n : Nat) (a : Nat → Int) (hn : n ≤ 100000) (ha : ∀ i, i < n → sm (a i)) : Ev (fun k => swagelaw21_is.f k (RT n a) (QT n a)) true := by
  unfold swagelaw21_is.f swageref02_Int.f
  refine Ev.bind (a := true) ?_ (Ev.now _)
  rw [RT_len, QT_len]
  exact ev_pos rfl (is_loop n a hn ha n 0 (by omega))
section
variable (m n : Nat) (L : Nat → Nat) (g : Nat → Nat → Int)
def blocksQ (nb : Nat) : List (List S68) := tab nb (fun i => QT (L i) (g i))
theorem rd_tabQ {n : Nat} (g : Nat → List S68) {i : Nat} (h : i < n) : rd_L9 (tab n g) (i : Int) = g i := by
  unfold rd_L9
  rw [Int.toNat_natCast, List.getD_eq_getElem?_getD, tab_getElem? _ h]
  rfl
theorem rd_blk {nb i : Nat} (h : i < nb) : rd_L9 (blocksQ L g nb) (i : Int) = QT (L i) (g i) := rd_tabQ _ h
theorem blk_len (nb : Nat) : (blocksQ L g nb).length = nb := tab_length _ _
theorem joinq_tail (T : Nat) (c : Nat → Int) (hn : n ≤ T) (hT : T ≤ 100000) : ∀ d i, i + d = T → (∀ t, n ≤ t → t < i → c t = 0) → n ≤ i →
    Ev (fun k => swageref21_Join.l3 k (n : Int) (QT T c) (i : Int)) (if (n : Int) ≤ top c T then ([], false) else (QT n c, true)) := by
  intro d
  induction d with
  | zero =>
    intro i hi hz hni
    obtain rfl : i = T := by omega
    have := top_small (c := c) (n := n) (d := i) hz
    rw [if_neg (by omega)]
    refine Ev.step (f := fun _ => some (QT n c, true)) (fun k => ?_) (Ev.now _)
    simp only [swageref21_Join.l3]
    rw [QT_len, if_neg (by omega), if_pos (by omega), if_pos (by omega), Int.toNat_natCast, QT_take c hn]
  | succ d ih =>
    intro i hi hz hni
    have hlt : i < T := by omega
    by_cases h0 : c i = 0
    · refine Ev.step (f := fun k => swageref21_Join.l3 k (n : Int) (QT T c) ((i + 1 : Nat) : Int)) (fun k => ?_) (ih (i + 1) (by omega) (fun t h1 h2 => by
        rcases Nat.lt_or_ge t i with h | h
        · exact hz t h1 h
        · obtain rfl : t = i := by omega
          exact h0) (by omega))
      simp only [swageref21_Join.l3]
      rw [QT_len, if_pos (by omega), if_pos (by omega), rd_QT c hlt, next hlt (by omega)]
      show (swageref02_Sign.f (neg (c i)) (mag 65536 (c i))).bind _ = _
      rw [RefA.sign_at, if_pos h0, Option.bind_some, if_pos rfl]
    · rw [if_pos (top_great (c := c) hni h0 hlt)]
      refine Ev.step (f := fun _ => some ([], false)) (fun k => ?_) (Ev.now _)
      simp only [swageref21_Join.l3]
      rw [QT_len, if_pos (by omega), if_pos (by omega), rd_QT c hlt]
      show (swageref02_Sign.f (neg (c i)) (mag 65536 (c i))).bind _ = _
      rw [RefA.sign_at, if_neg h0, Option.bind_some, if_neg (by split <;> decide)]
theorem reach_max : ∀ i, reach m n L i = max (reach m 0 L i) n
  | 0 => by simp [reach]
  | i + 1 => by
    have := reach_max i
    show max (reach m n L i) (i * m + L i) = max (max (reach m 0 L i) (i * m + L i)) n
    omega
theorem joinq_inner {nb B : Nat} (hm : m ≤ 4096) (hn : n ≤ 8192) (hL : ∀ i, L i ≤ 8192) (hb : nb ≤ 15) (hg : ∀ s u, (g s u).natAbs ≤ B) (hB : fit (20 * B)) {i : Nat} (hi : i < nb) {Q' : List S68 × Bool}
    (cont : Ev (fun k => swageref21_Join.l1 k (blocksQ L g nb) (m : Int) (n : Int) (QT (reach m n L nb) (lay m L g (i + 1))) ((i + 1 : Nat) : Int)) Q') :
    ∀ d j, j + d = L i → Ev (fun k => swageref21_Join.l2 k (blocksQ L g nb) (m : Int) (n : Int) (QT (reach m n L nb) (layTo m L g i j)) (i : Int) (j : Int)) Q' := by
  have hr := reach_le m n L hm hn hL nb hb
  have hin := reach_in m n L hi
  intro d
  induction d with
  | zero =>
    intro j hj
    obtain rfl : j = L i := by omega
    refine Ev.step (f := fun k => swageref21_Join.l1 k (blocksQ L g nb) (m : Int) (n : Int) (QT (reach m n L nb) (lay m L g (i + 1))) ((i + 1 : Nat) : Int)) (fun k => ?_) cont
    simp only [swageref21_Join.l2]
    rw [if_pos (by omega), blk_len, if_pos (by omega), rd_blk L g hi, QT_len, if_neg (by omega), next hi (by omega), QT_congr (fun t _ => layTo_full m L g i t)]
  | succ d ih =>
    intro j hj
    have hlt : j < L i := by omega
    have him : i * m ≤ 14 * 4096 := Nat.mul_le_mul (by omega) hm
    have hLi := hL i
    have c4 : i * m + j < reach m n L nb := by omega
    have b1 : i * m ≤ 1000000 := by omega
    have b2 : i * m + j ≤ 1000000 := by omega
    have c5 : ((i * m + j : Nat) : Int) < ((QT (reach m n L nb) (layTo m L g i j)).length : Int) := by rw [QT_len]; exact Int.ofNat_lt.2 c4
    have s1 : sm (layTo m L g i j (i * m + j)) := sm_of (layTo_abs m L g hg i j _) (fit_le (by have : i * B ≤ 14 * B := Nat.mul_le_mul (by omega) (Nat.le_refl _); omega) hB)
    have s2 : sm (g i j) := sm_of (hg i j) (fit_le (by omega) hB)
    refine Ev.step (f := fun k => (swageref02_Add.f k (Q (layTo m L g i j (i * m + j))).f0 (Q (layTo m L g i j (i * m + j))).f1 (Q (g i j)).f0 (Q (g i j)).f1).bind fun b => swageref21_Join.l2 k (blocksQ L g nb) (m : Int) (n : Int) ((QT (reach m n L nb) (layTo m L g i j)).set (i * m + j) ⟨b.1, b.2⟩) (i : Int) ((j + 1 : Nat) : Int)) (fun k => ?_) ?_
    · simp only [swageref21_Join.l2]
      have e1 : wrap64 ((i : Int) * (m : Int)) = ((i * m : Nat) : Int) := by rw [← Int.natCast_mul]; exact wrapN b1
      have e2 : wrap64 (((i * m : Nat) : Int) + (j : Int)) = ((i * m + j : Nat) : Int) := by rw [← Int.natCast_add]; exact wrapN b2
      rw [e1, e2]
      rw [if_pos (Int.natCast_nonneg i), blk_len, if_pos (Int.ofNat_lt.2 hi), rd_blk L g hi]
      rw [if_pos (show (j : Int) < ((QT (L i) (g i)).length : Int) by rw [QT_len]; exact Int.ofNat_lt.2 hlt)]
      rw [if_pos (Int.natCast_nonneg (i * m + j))]
      rw [if_pos c5]
      rw [if_pos (Int.natCast_nonneg j)]
      have r1 := rd_QT (g i) hlt
      have r2 := rd_QT (layTo m L g i j) (show i * m + j < reach m n L nb by omega)
      have r3 := next hlt (Nat.le_trans hLi (by decide))
      rw [r1]
      rw [r2]
      rw [r3]
      rw [Int.toNat_natCast]
    · refine Ev.bind (addq_ev s1 s2) ?_
      show Ev (fun k => swageref21_Join.l2 k _ _ _ ((QT (reach m n L nb) (layTo m L g i j)).set (i * m + j) (Q (layTo m L g i j (i * m + j) + g i j))) _ _) _
      rw [QT_set]
      have e : QT (reach m n L nb) (fun t => if t = i * m + j then layTo m L g i j (i * m + j) + g i j else layTo m L g i j t) = QT (reach m n L nb) (layTo m L g i (j + 1)) := QT_congr (fun t _ => by
        rw [layTo_succ]
        by_cases h : t = i * m + j
        · rw [if_pos h, if_pos h, h]
        · rw [if_neg h, if_neg h])
      rw [e]
      exact ih (j + 1) (by omega)
theorem joinq_outer {nb B : Nat} (hm : m ≤ 4096) (hn : n ≤ 8192) (hL : ∀ i, L i ≤ 8192) (hb : nb ≤ 15) (hg : ∀ s u, (g s u).natAbs ≤ B) (hB : fit (20 * B)) :
    ∀ d i, i + d = nb → Ev (fun k => swageref21_Join.l1 k (blocksQ L g nb) (m : Int) (n : Int) (QT (reach m n L nb) (lay m L g i)) (i : Int)) (if (n : Int) ≤ top (lay m L g nb) (reach m n L nb) then ([], false) else (QT n (lay m L g nb), true)) := by
  have hr := reach_le m n L hm hn hL nb hb
  intro d
  induction d with
  | zero =>
    intro i hi
    obtain rfl : i = nb := by omega
    have hn0 := reach_n m n L i
    refine Ev.step (f := fun k => swageref21_Join.l3 k (n : Int) (QT (reach m n L i) (lay m L g i)) (n : Int)) (fun k => ?_) (joinq_tail n (reach m n L i) (lay m L g i) hn0 (by omega) (reach m n L i - n) n (by omega) (fun t h1 h2 => by omega) (Nat.le_refl _))
    simp only [swageref21_Join.l1]
    rw [blk_len, if_neg (by omega)]
  | succ d ih =>
    intro i hi
    have hlt : i < nb := by omega
    have h := joinq_inner m n L g hm hn hL hb hg hB hlt (ih (i + 1) (by omega)) (L i) 0 (by omega)
    refine Ev.step (f := fun k => swageref21_Join.l2 k (blocksQ L g nb) (m : Int) (n : Int) (QT (reach m n L nb) (layTo m L g i 0)) (i : Int) ((0 : Nat) : Int)) (fun k => ?_) h
    simp only [swageref21_Join.l1]
    rw [blk_len, if_pos (by omega), QT_congr (fun t _ => layTo_zero m L g i t)]
    rfl
theorem joinq_reach {nb : Nat} (hm : m ≤ 4096) (hn : n ≤ 8192) (hL : ∀ i, L i ≤ 8192) (hb : nb ≤ 15) {Q' : List S68 × Bool}
    (cont : Ev (fun k => swageref21_Join.l1 k (blocksQ L g nb) (m : Int) (n : Int) (QT (reach m n L nb) (lay m L g 0)) ((0 : Nat) : Int)) Q') :
    ∀ d i, i + d = nb → Ev (fun k => swageref21_Join.l0 k (blocksQ L g nb) (m : Int) (n : Int) (reach m 0 L i : Int) (i : Int)) Q' := by
  have hr := reach_le m n L hm hn hL nb hb
  intro d
  induction d with
  | zero =>
    intro i hi
    obtain rfl : i = nb := by omega
    refine Ev.step (f := fun k => swageref21_Join.l1 k (blocksQ L g i) (m : Int) (n : Int) (QT (reach m n L i) (lay m L g 0)) ((0 : Nat) : Int)) (fun k => ?_) cont
    have e3 : mx ((reach m 0 L i : Nat) : Int) (n : Int) = ((reach m n L i : Nat) : Int) := by
      rw [reach_max m n L i]
      unfold mx; split <;> omega
    simp only [swageref21_Join.l0]
    rw [blk_len, if_neg (by omega), e3, if_pos (by omega), Int.toNat_natCast, if_pos (by omega), QT_replicate]
    rfl
  | succ d ih =>
    intro i hi
    have hlt : i < nb := by omega
    have him : i * m ≤ 14 * 4096 := Nat.mul_le_mul (by omega) hm
    have hLi := hL i
    refine Ev.step (f := fun k => swageref21_Join.l0 k (blocksQ L g nb) (m : Int) (n : Int) (reach m 0 L (i + 1) : Int) ((i + 1 : Nat) : Int)) (fun k => ?_) (ih (i + 1) (by omega))
    simp only [swageref21_Join.l0]
    have e1 : wrap64 ((i : Int) * (m : Int)) = ((i * m : Nat) : Int) := by rw [← Int.natCast_mul, wrap64_in] <;> omega
    have e2 : wrap64 (((i * m : Nat) : Int) + (L i : Int)) = ((i * m + L i : Nat) : Int) := by rw [wrap64_in] <;> omega
    have e3 : mx ((reach m 0 L i : Nat) : Int) ((i * m + L i : Nat) : Int) = ((reach m 0 L (i + 1) : Nat) : Int) := by
      show _ = ((max (reach m 0 L i) (i * m + L i) : Nat) : Int)
      unfold mx; split <;> omega
    rw [blk_len, if_pos (by omega), if_pos (by omega), rd_blk L g hlt, QT_len, e1, e2, e3, next hlt (by omega)]
theorem joinq_ev {nb B : Nat} (hm : m ≤ 4096) (hn : n ≤ 8192) (hL : ∀ i, L i ≤ 8192) (hb : nb ≤ 15) (hg : ∀ s u, (g s u).natAbs ≤ B) (hB : fit (20 * B)) :
    Ev (fun k => swageref21_Join.f k (blocksQ L g nb) (m : Int) (n : Int)) (if (n : Int) ≤ top (lay m L g nb) (reach m n L nb) then ([], false) else (QT n (lay m L g nb), true)) := by
  unfold swageref21_Join.f
  exact joinq_reach m n L g hm hn hL hb (joinq_outer m n L g hm hn hL hb hg hB nb 0 (by omega)) nb 0 (by omega)
theorem poly_loop (nb : Nat) (hb : nb ≤ 1000) (hL : ∀ i, i < nb → L i ≤ 100000) (hg : ∀ s u, sm (g s u)) : ∀ d i, i + d = nb → Ev (fun k => swageref20_Poly.l0 k (blocksQ L g nb) (blocks L g nb) (nb : Int) (i : Int)) true := by
  intro d
  induction d with
  | zero =>
    intro i hi
    obtain rfl : i = nb := by omega
    refine Ev.step (f := fun _ => some _) (fun k => ?_) (Ev.now _)
    simp only [swageref20_Poly.l0]
    rw [if_neg (by omega)]
  | succ d ih =>
    intro i hi
    have hlt : i < nb := by omega
    have e4 : rd_L5 (blocks L g nb) (i : Int) = RT (L i) (g i) := rd_tab _ hlt
    refine Ev.step (f := fun k => (swagelaw21_is.f k (RT (L i) (g i)) (QT (L i) (g i))).bind fun t => if t = true then swageref20_Poly.l0 k (blocksQ L g nb) (blocks L g nb) (nb : Int) ((i + 1 : Nat) : Int) else some false) (fun k => ?_) ?_
    · simp only [swageref20_Poly.l0]
      have hl : (blocks L g nb).length = nb := tab_length _ _
      rw [if_pos (by omega), if_pos (by omega), hl, blk_len, if_pos (by omega), if_pos (by omega), e4, rd_blk L g hlt, next hlt (by omega)]
    · exact Ev.bind (is_ev (L i) (g i) (hL i hlt) (fun u _ => hg i u)) (ev_pos rfl (ih (i + 1) (by omega)))
theorem poly_ev (nb : Nat) (hb : nb ≤ 1000) (hL : ∀ i, i < nb → L i ≤ 100000) (hg : ∀ s u, sm (g s u)) : Ev (fun k => swageref20_Poly.f k (blocks L g nb) (blocksQ L g nb)) true := by
  unfold swageref20_Poly.f
  have hl : (blocks L g nb).length = nb := tab_length _ _
  rw [hl, blk_len]
  exact ev_pos rfl (poly_loop L g nb hb hL hg nb 0 (by omega))
end
end Go.Proofs.YtakmkhokbcjapaaDoor.PolyR
end
section
namespace Go.Proofs.YtakmkhokbcjapaaDoor.Pure
open Go Go.RowKit Go.Proofs.YtakmkhokbcjapaaDoorW.PrintWords Go.Proofs.YtakmkhokbcjapaaDoorW.PrintLast Go.Proofs.YtakmkhokbcjapaaDoorW.PrintMore Go.Proofs.YtakmkhokbcjapaaDoor.XA Go.Proofs.YtakmkhokbcjapaaDoor.Nums Go.Proofs.YtakmkhokbcjapaaDoor.Evs Go.Proofs.YtakmkhokbcjapaaDoor.Tabs Go.Proofs.YtakmkhokbcjapaaDoor.Sums Go.Proofs.YtakmkhokbcjapaaDoor.PolyA Go.Proofs.YtakmkhokbcjapaaDoor.PolyB Go.Proofs.YtakmkhokbcjapaaDoor.PolyR
namespace Joins
theorem works_at : swagelaw21_works.f 80 = some true := by decide +kernel
theorem works_ev : Ev (fun k => swagelaw21_works.f k) true := Ev.of (fun k => swagelaw21_works.mono k) works_at
variable (g : List (List Int)) (m n : Int)
def ro (i : Nat) : List Int := g.getD i []
def ln (i : Nat) : Nat := (ro g i).length
def at' (i j : Nat) : Int := (ro g i).getD j 0
theorem join_arg (X : List (List S39)) (h : m < 1 ∨ 4096 < m ∨ n < 0 ∨ 8192 < n) : Ev (fun k => split_Join.f k X m n) ([], 2) := by
  have hj : Ev (fun k => split_Join.j0 k X m n true) ([], 2) := Ev.step (f := fun _ => some ([], 2)) (fun k => by simp only [split_Join.j0]; rw [if_pos trivial]) (Ev.now _)
  unfold split_Join.f
  by_cases h1 : m < 1
  · exact ev_pos h1 hj
  · by_cases h2 : m > 4096
    · exact ev_neg h1 (ev_pos h2 hj)
    · by_cases h3 : n < 0
      · exact ev_neg h1 (ev_neg h2 (ev_pos h3 hj))
      · refine ev_neg h1 (ev_neg h2 (ev_neg h3 ?_))
        rw [decide_eq_true (show n > 8192 by omega)]
        exact hj
theorem join_long (X : List (List S39)) (h : ¬ (m < 1 ∨ 4096 < m ∨ n < 0 ∨ 8192 < n)) (hl : 15 < X.length) : Ev (fun k => split_Join.f k X m n) ([], 3) := by
  unfold split_Join.f
  refine ev_neg (by omega) (ev_neg (by omega) (ev_neg (by omega) ?_))
  rw [decide_eq_false (show ¬ n > 8192 by omega)]
  refine Ev.step (f := fun _ => some ([], 3)) (fun k => ?_) (Ev.now _)
  simp only [split_Join.j0]
  rw [if_neg (by simp), if_pos (show (X.length : Int) > 15 by omega)]
theorem pow200 (m : Nat) (h : 200 ≤ m) : 9223372036854775808 < 2 ^ m := Nat.lt_of_lt_of_le (show 9223372036854775808 < 2 ^ 200 by decide) (Nat.pow_le_pow_right (by decide) h)
theorem pow200b (m : Nat) (h : 200 ≤ m) : 20 * 9223372036854775808 < 2 ^ m := Nat.lt_of_lt_of_le (show 20 * 9223372036854775808 < 2 ^ 200 by decide) (Nat.pow_le_pow_right (by decide) h)
theorem small1000 {z : Int} (h : z.natAbs ≤ 9223372036854775808) : sm z := Nat.lt_of_le_of_lt h (pow200 1000 (by decide))
theorem tail_ev (hw : ∀ i j, -9223372036854775808 ≤ at' g i j ∧ at' g i j ≤ 9223372036854775807) (hL : ∀ i, ln g i ≤ 400) (hlen : g.length ≤ 100) :
    Ev (fun k => swagelaw21_SplitJoins.l1 k g m n (blocks (ln g) (at' g) g.length) (blocksQ (ln g) (at' g) g.length) g (g.length : Int) (g.length : Int)) true := by
  have hb : (blocks (ln g) (at' g) g.length).length = g.length := tab_length _ _
  have hB : ∀ s u, (at' g s u).natAbs ≤ 9223372036854775808 := fun s u => by have := hw s u; omega
  have hsm : ∀ s u, sm (at' g s u) := fun s u => small1000 (hB s u)
  by_cases ha : m < 1 ∨ 4096 < m ∨ n < 0 ∨ 8192 < n
  · have hj : Ev (fun k => swagelaw21_SplitJoins.j3 k g m n (blocks (ln g) (at' g) g.length) (blocksQ (ln g) (at' g) g.length) [] 2 true) true := Ev.step (f := fun _ => some true) (fun k => by simp only [swagelaw21_SplitJoins.j3]; rw [if_pos trivial]; rfl) (Ev.now _)
    refine Ev.step (f := fun k => (split_Join.f k (blocks (ln g) (at' g) g.length) m n).bind fun bt => (if m < 1 then (swagelaw21_SplitJoins.j3 k g m n (blocks (ln g) (at' g) g.length) (blocksQ (ln g) (at' g) g.length) bt.1 bt.2 true) else (if m > 4096 then (swagelaw21_SplitJoins.j3 k g m n (blocks (ln g) (at' g) g.length) (blocksQ (ln g) (at' g) g.length) bt.1 bt.2 true) else (if n < 0 then (swagelaw21_SplitJoins.j3 k g m n (blocks (ln g) (at' g) g.length) (blocksQ (ln g) (at' g) g.length) bt.1 bt.2 true) else (swagelaw21_SplitJoins.j3 k g m n (blocks (ln g) (at' g) g.length) (blocksQ (ln g) (at' g) g.length) bt.1 bt.2 (decide (n > 8192))))))) (fun k => ?_) (Ev.bind (join_arg m n _ ha) ?_)
    · simp only [swagelaw21_SplitJoins.l1]
      rw [if_neg (by omega)]
    · by_cases h1 : m < 1
      · exact ev_pos h1 hj
      · by_cases h2 : m > 4096
        · exact ev_neg h1 (ev_pos h2 hj)
        · by_cases h3 : n < 0
          · exact ev_neg h1 (ev_neg h2 (ev_pos h3 hj))
          · refine ev_neg h1 (ev_neg h2 (ev_neg h3 ?_))
            rw [decide_eq_true (show n > 8192 by omega)]
            exact hj
  · have go : ∀ (l : List S39) (e : Int), Ev (fun k => split_Join.f k (blocks (ln g) (at' g) g.length) m n) (l, e) → Ev (fun k => swagelaw21_SplitJoins.j3 k g m n (blocks (ln g) (at' g) g.length) (blocksQ (ln g) (at' g) g.length) l e false) true → Ev (fun k => swagelaw21_SplitJoins.l1 k g m n (blocks (ln g) (at' g) g.length) (blocksQ (ln g) (at' g) g.length) g (g.length : Int) (g.length : Int)) true := by
      intro l e h1 h2
      refine Ev.step (f := fun k => (split_Join.f k (blocks (ln g) (at' g) g.length) m n).bind fun bt => swagelaw21_SplitJoins.j3 k g m n (blocks (ln g) (at' g) g.length) (blocksQ (ln g) (at' g) g.length) bt.1 bt.2 false) (fun k => ?_) (Ev.bind h1 h2)
      simp only [swagelaw21_SplitJoins.l1]
      rw [if_neg (by omega)]
      congr 1
      funext bt
      rw [if_neg (by omega), if_neg (by omega), if_neg (by omega), decide_eq_false (show ¬ n > 8192 by omega)]
    by_cases hl : 15 < g.length
    · refine go [] 3 (join_long m n _ ha (by rw [hb]; exact hl)) (Ev.step (f := fun _ => some true) (fun k => ?_) (Ev.now _))
      simp only [swagelaw21_SplitJoins.j3]
      rw [if_neg (by simp), if_pos (show (g.length : Int) > 15 by omega), if_pos (by rfl)]
      rfl
    · obtain ⟨m', rfl⟩ := Int.eq_ofNat_of_zero_le (show 0 ≤ m by omega)
      obtain ⟨n', rfl⟩ := Int.eq_ofNat_of_zero_le (show 0 ≤ n by omega)
      have hL8 : ∀ i, ln g i ≤ 8192 := fun i => Nat.le_trans (hL i) (by decide)
      have hf : fit (20 * 9223372036854775808) := pow200b 1000 (by decide)
      have hp := join_ev (m := m') (n := n') (L := ln g) (g := at' g) (nb := g.length) (B := 9223372036854775808) (by omega) (by omega) (by omega) hL8 (by omega) hB hf
      have hq := joinq_ev m' n' (ln g) (at' g) (nb := g.length) (B := 9223372036854775808) (by omega) (by omega) hL8 (by omega) hB hf
      by_cases ht : (n' : Int) ≤ top (lay m' (ln g) (at' g) g.length) (reach m' n' (ln g) g.length)
      · rw [if_pos ht] at hp hq
        refine go [] 5 hp (Ev.step (f := fun k => (swageref21_Join.f k (blocksQ (ln g) (at' g) g.length) (m' : Int) (n' : Int)).bind fun bt551 => (if bt551.2 = true then (if (5 : Int) = 0 then ((swagelaw21_is.f k ([] : List S39) bt551.1).bind fun t555 => (if t555 = true then (if (((([] : List S39).length : Int) == 0) == ((n' : Int) == 0)) = true then ((swageref20_Poly.f k (blocks (ln g) (at' g) g.length) (blocksQ (ln g) (at' g) g.length)).bind fun t556 => (some t556)) else (some false)) else (some false))) else (some false)) else (if (([] : List S39).length : Int) = 0 then (some ((5 : Int) == 5)) else (some false)))) (fun k => ?_) (Ev.bind hq (ev_neg (by decide) (ev_pos rfl (Ev.now _)))))
        simp only [swagelaw21_SplitJoins.j3]
        rw [if_neg (by simp), if_neg (by omega)]
      · rw [if_neg ht] at hp hq
        have h5 := is_ev n' (lay m' (ln g) (at' g) g.length) (by omega) (fun i _ => sm_of (lay_abs m' (ln g) (at' g) hB g.length i) (fit_le (Nat.mul_le_mul (show g.length ≤ 20 by omega) (Nat.le_refl _)) hf))
        have h6 := poly_ev (ln g) (at' g) g.length (by omega) (fun i _ => Nat.le_trans (hL i) (by decide)) hsm
        refine go _ 0 hp (Ev.step (f := fun k => (swageref21_Join.f k (blocksQ (ln g) (at' g) g.length) (m' : Int) (n' : Int)).bind fun bt551 => (if bt551.2 = true then ((swagelaw21_is.f k (RT n' (lay m' (ln g) (at' g) g.length)) bt551.1).bind fun t555 => (if t555 = true then (if ((((RT n' (lay m' (ln g) (at' g) g.length)).length : Int) == 0) == ((n' : Int) == 0)) = true then ((swageref20_Poly.f k (blocks (ln g) (at' g) g.length) (blocksQ (ln g) (at' g) g.length)).bind fun t556 => (some t556)) else (some false)) else (some false))) else (if ((RT n' (lay m' (ln g) (at' g) g.length)).length : Int) = 0 then (some ((0 : Int) == 5)) else (some false)))) (fun k => ?_) (Ev.bind hq (ev_pos rfl (Ev.bind h5 (ev_pos rfl (ev_pos (by rw [RT_len]; simp) (Ev.bind h6 (Ev.now _))))))))
        simp only [swagelaw21_SplitJoins.j3]
        rw [if_neg (by simp), if_neg (by omega)]
        simp only [if_true]
theorem build_ev (hw : ∀ i j, -9223372036854775808 ≤ at' g i j ∧ at' g i j ≤ 9223372036854775807) (hL : ∀ i, ln g i ≤ 400) (hlen : g.length ≤ 100) :
    ∀ d i, i + d = g.length → Ev (fun k => swagelaw21_SplitJoins.l1 k g m n (blocks (ln g) (at' g) i) (blocksQ (ln g) (at' g) i) g (g.length : Int) (i : Int)) true := by
  intro d
  induction d with
  | zero =>
    intro i hi
    obtain rfl : i = g.length := by omega
    exact tail_ev g m n hw hL hlen
  | succ d ih =>
    intro i hi
    have hlt : i < g.length := by omega
    have hb : (blocks (ln g) (at' g) i).length = i := tab_length _ _
    have hl := hL i
    refine Ev.step (f := fun k => (swagelaw21_list.f k (ro g i)).bind fun t535 => (swagelaw21_ref.f k (ro g i)).bind fun t541 => swagelaw21_SplitJoins.l1 k g m n (blocks (ln g) (at' g) i ++ [t535]) (blocksQ (ln g) (at' g) i ++ [t541]) g (g.length : Int) ((i + 1 : Nat) : Int)) (fun k => ?_) ?_
    · simp only [swagelaw21_SplitJoins.l1]
      have e : rd_L10 g (i : Int) = ro g i := rfl
      rw [if_pos (by omega), if_pos (by omega), if_pos (by omega), e, hb, blk_len, next hlt (by omega)]
      simp only [show i < 5864062014805 by omega, if_true]
    · refine Ev.bind (list_ev (ro g i) (Nat.le_trans hl (by decide)) (fun j _ => hw i j)) (Ev.bind (ref_ev (ro g i) (Nat.le_trans hl (by decide)) (fun j _ => hw i j)) ?_)
      have e1 : blocks (ln g) (at' g) i ++ [RT (ro g i).length (fun j => (ro g i).getD j 0)] = blocks (ln g) (at' g) (i + 1) := (tab_succ i _).symm
      have e2 : blocksQ (ln g) (at' g) i ++ [QT (ro g i).length (fun j => (ro g i).getD j 0)] = blocksQ (ln g) (at' g) (i + 1) := (tab_succ i _).symm
      rw [e1, e2]
      exact ih (i + 1) (by omega)
def SL (L : Nat → Nat) : Nat → Nat
  | 0 => 0
  | i + 1 => SL L i + L i
theorem SL_bd {L : Nat → Nat} {B : Nat} (h : ∀ i, L i ≤ B) : ∀ i, SL L i ≤ i * B
  | 0 => by simp [SL]
  | i + 1 => by
    have := SL_bd h i
    have := h i
    rw [Nat.succ_mul]
    show SL L i + L i ≤ _
    omega
theorem SL_le {L : Nat → Nat} {i : Nat} : ∀ {j : Nat}, i < j → L i ≤ SL L j
  | 0, h => by omega
  | j + 1, h => by
    show L i ≤ SL L j + L j
    rcases Nat.lt_or_ge i j with h1 | h1
    · have := SL_le (L := L) h1; omega
    · obtain rfl : i = j := by omega
      omega
theorem many_ev (h : 100 < g.length) (hl : g.length ≤ 4611686018427387904) : ∀ d i, i + d = g.length → ∀ A : Int, Ev (fun k => swagelaw21_SplitJoins.l0 k g m n A g (g.length : Int) (i : Int)) true := by
  have hj : Ev (fun k => swagelaw21_SplitJoins.j1 k g m n true) true := Ev.step (f := fun _ => some true) (fun k => by simp only [swagelaw21_SplitJoins.j1]; rw [if_pos trivial]) (Ev.now _)
  intro d
  induction d with
  | zero =>
    intro i hi A
    refine Ev.step (f := fun k => swagelaw21_SplitJoins.j1 k g m n true) (fun k => ?_) hj
    simp only [swagelaw21_SplitJoins.l0]
    rw [if_neg (by omega), decide_eq_true h]
    by_cases hA : A > 400
    · rw [if_pos hA]
    · rw [if_neg hA]
  | succ d ih =>
    intro i hi A
    refine Ev.step (f := fun k => swagelaw21_SplitJoins.l0 k g m n (wrap64 (A + ((rd_L10 g (i : Int)).length : Int))) g (g.length : Int) ((i + 1 : Nat) : Int)) (fun k => ?_) (ih (i + 1) (by omega) _)
    simp only [swagelaw21_SplitJoins.l0]
    rw [if_pos (by omega), if_pos (by omega), if_pos (by omega), next (show i < g.length by omega) hl]
theorem few_ev (hw : ∀ i j, -9223372036854775808 ≤ at' g i j ∧ at' g i j ≤ 9223372036854775807) (hB : ∀ i, ln g i ≤ 17592186044416) (h : g.length ≤ 100) : ∀ d i, i + d = g.length → Ev (fun k => swagelaw21_SplitJoins.l0 k g m n (SL (ln g) i : Int) g (g.length : Int) (i : Int)) true := by
  have hj : Ev (fun k => swagelaw21_SplitJoins.j1 k g m n true) true := Ev.step (f := fun _ => some true) (fun k => by simp only [swagelaw21_SplitJoins.j1]; rw [if_pos trivial]) (Ev.now _)
  intro d
  induction d with
  | zero =>
    intro i hi
    obtain rfl : i = g.length := by omega
    by_cases hA : 400 < SL (ln g) g.length
    · refine Ev.step (f := fun k => swagelaw21_SplitJoins.j1 k g m n true) (fun k => ?_) hj
      simp only [swagelaw21_SplitJoins.l0]
      rw [if_neg (by omega), if_pos (by omega)]
    · have hL : ∀ i, ln g i ≤ 400 := fun i => by
        rcases Nat.lt_or_ge i g.length with h1 | h1
        · have := SL_le (L := ln g) h1; omega
        · have : ro g i = [] := by unfold ro; rw [List.getD_eq_getElem?_getD, List.getElem?_eq_none h1]; rfl
          unfold ln; rw [this]; simp
      refine Ev.step (f := fun k => swagelaw21_SplitJoins.j1 k g m n false) (fun k => ?_) (Ev.step (f := fun k => swagelaw21_SplitJoins.l1 k g m n [] [] g (g.length : Int) ((0 : Nat) : Int)) (fun k => ?_) (build_ev g m n hw hL h g.length 0 (by omega)))
      · simp only [swagelaw21_SplitJoins.l0]
        rw [if_neg (by omega), if_neg (by omega), decide_eq_false (by omega)]
      · simp only [swagelaw21_SplitJoins.j1]
        rw [if_neg (by simp)]
        rfl
  | succ d ih =>
    intro i hi
    have hb := SL_bd hB i
    have hi' : i * 17592186044416 ≤ 100 * 17592186044416 := Nat.mul_le_mul (by omega) (Nat.le_refl _)
    have hl := hB i
    refine Ev.step (f := fun k => swagelaw21_SplitJoins.l0 k g m n (SL (ln g) (i + 1) : Int) g (g.length : Int) ((i + 1 : Nat) : Int)) (fun k => ?_) (ih (i + 1) (by omega))
    simp only [swagelaw21_SplitJoins.l0]
    have e : ((rd_L10 g (i : Int)).length : Int) = (ln g i : Int) := rfl
    have e2 : wrap64 ((SL (ln g) i : Int) + (ln g i : Int)) = (SL (ln g) (i + 1) : Int) := by
      show _ = ((SL (ln g) i + ln g i : Nat) : Int)
      rw [wrap64_in (by omega) (by omega)]; omega
    rw [if_pos (by omega), if_pos (by omega), if_pos (by omega), next (show i < g.length by omega) (by omega), e, e2]
end Joins
theorem SplitJoins : SaidSplitJoins.Pure := by
  intro g m n hx _ _
  obtain ⟨hlen, _, hy⟩ := hx
  have hro : ∀ i, Joins.ro g i ∈ g ∨ Joins.ro g i = [] := fun i => by
    unfold Joins.ro
    rw [List.getD_eq_getElem?_getD]
    cases h : g[i]? with
    | none => exact .inr rfl
    | some y => exact .inl (List.mem_of_getElem? h)
  have hw : ∀ i j, -9223372036854775808 ≤ Joins.at' g i j ∧ Joins.at' g i j ≤ 9223372036854775807 := fun i j => by
    unfold Joins.at'
    rw [List.getD_eq_getElem?_getD]
    cases h : (Joins.ro g i)[j]? with
    | none => simp
    | some z =>
      have hz := List.mem_of_getElem? h
      rcases hro i with h1 | h1
      · have := Go.bounds_i64 ((hy _ h1).2.2 z hz)
        simp only [Option.getD_some]
        exact this
      · rw [h1] at hz; cases hz
  have hB : ∀ i, Joins.ln g i ≤ 17592186044416 := fun i => by
    unfold Joins.ln
    rcases hro i with h1 | h1
    · have := (hy _ h1).1; omega
    · rw [h1]; simp
  refine Ev.rounds (g := fun k => swagelaw21_SplitJoins.f k g m n) ?_
  unfold swagelaw21_SplitJoins.f
  refine Ev.bind Joins.works_ev (ev_pos rfl ?_)
  by_cases h : 100 < g.length
  · exact Joins.many_ev g m n h (by omega) g.length 0 (by omega) 0
  · exact Joins.few_ev g m n hw hB (by omega) g.length 0 (by omega)
end Go.Proofs.YtakmkhokbcjapaaDoor.Pure
end
section
namespace Go.Proofs.YtakmkhokbcjapaaDoor.splitJoins
open Go.ChangeShapes Go.WideShapes Go.ChangeAt Go.RowKit Go.Proofs.YtakmkhokbcjapaaDoorW.PrintWords Go.Proofs.YtakmkhokbcjapaaDoor.Opn Go.Proofs.YtakmkhokbcjapaaDoor.XA Go.Proofs.YtakmkhokbcjapaaDoor.SaidSplitJoins
open Go.ChangeMaps (open_string shut_string)
theorem own : ownKnob Tryd.prog.godebug = none := by kernel_rfl
theorem laidOut : laidOutB Tryd.prog = true := by kernel_rfl
theorem contract (H : Type) (enc : TypeId × Value → H) (W : World) (base : Nat) (args : Array Value) (ds gs : List (DataW H)) (before : List MemPlace)
    (hval0 : ∀ (j : Nat) t v, Tryd.f4.params[j]? = some t → args[j]? = some v → Value.okWide Tryd.prog W .any base t v)
    (hW : DataW.Whole enc Tryd.prog Tryd.f4.params.toList Rows.splitJoinsSpec.vars false W args.toList ds gs before)
    (hsz0 : (DataW.weightsEach Tryd.prog (Tryd.f4.params.toList ++ Rows.splitJoinsSpec.plain.varTypes Tryd.prog) (ds ++ gs)).all (· ≤ reachBytes) = true) :
    Calls Tryd.prog 4 args W fun e W' => ∃ v, e = .returned v ∧ Rows.splitJoinsSpec.post enc Tryd.prog Tryd.f4 false true false false W args v W' := by
  have hsz : (DataW.weightsEach Tryd.prog (Tryd.f4.params.toList ++ Rows.splitJoinsSpec.plain.varTypes Tryd.prog) (ds ++ gs)).all (· ≤ reachBytes) = true := hsz0
  have hval : ∀ (j : Nat) t v, Tryd.f4.params[j]? = some t → args[j]? = some v → Value.okWide Tryd.prog W .any base t v := hval0
  have hW' := hW
  obtain ⟨p, q, hA0, hV, rfl, hfz, hnd⟩ := hW
  have hA : DataW.TrodAll enc Tryd.prog W 0 (fun _ => true) true Tryd.f4.params.toList args.toList ds p := hA0
  rw [Tryd.params4] at hA hval hsz
  obtain ⟨v0, vs0, d0, ds0, p0, q0, hargs, rfl, rfl, h0, r0⟩ := trodAll_cons hA
  obtain ⟨v1, vs1, d1, ds1, p1, q1, rfl, rfl, rfl, h1, r1⟩ := trodAll_cons r0
  obtain ⟨v2, vs2, d2, ds2, p2, q2, rfl, rfl, rfl, h2, r2⟩ := trodAll_cons r1
  obtain ⟨rfl, rfl, rfl⟩ := trodAll_nil r2
  obtain rfl : args = #[v0, v1, v2] := by cases args; simp_all
  obtain ⟨rfl, rfl⟩ := trodVars_none hV
  have lt0 := trod_lt h0
  obtain ⟨a0, len0, cap0, rfl⟩ := okWide_slice Tryd.underlying42 (hval 0 42 v0 rfl rfl)
  obtain ⟨x0, hK0, w0⟩ := opened (opn_slice (B := 24) Tryd.underlying42 (by kernel_rfl) (by kernel_rfl) (opn_slice (B := 8) Tryd.underlying22 (by kernel_rfl) (by kernel_rfl) (opn_int Tryd.underlying2))) hsz (j := 0) (t := 42) rfl rfl h0
  obtain ⟨A0, c0, he0, hl0, hC0⟩ := hK0
  simp [Value.cells] at he0
  obtain ⟨rfl, rfl, rfl⟩ := he0
  obtain ⟨a1, rfl, rfl, rfl, w1⟩ := open_int Tryd.underlying3 (hval 1 3 v1 rfl rfl) h1
  obtain ⟨a2, rfl, rfl, rfl, w2⟩ := open_int Tryd.underlying3 (hval 2 3 v2 rfl rfl) h2
  clear hA0 hval0 hsz0 hsz
  obtain ⟨k, h⟩ := Pure.SplitJoins x0 a1 a2 w0 w1 w2
  refine (swagelaw21_SplitJoins.calls k a0 cap0 x0 a1 a2 true W hC0 hl0 (⟨rfl⟩) h).mono fun e W' he_ => ?_
  obtain ⟨rfl, bel⟩ := he_
  exact ⟨_, rfl, _, _, _, [], _, [], hW', trodAll_mk1 (shut_bool Tryd.underlying4 _), (trodAll_cons_mk (Below.trod laidOut (by kernel_rfl) (of_decide_eq_true (by kernel_rfl)) h0 bel lt0) (trodAll_cons_mk (shut_int Tryd.underlying3 w1) (trodAll_cons_mk (shut_int Tryd.underlying3 w2) trodAll_mk0))), rfl, bel.frame _, fun h => by cases h⟩
def flat : Nat → DataW Unit → List Value
  | 0, _ => []
  | _ + 1, .lit (.int k n) => [.int k n]
  | m + 1, .agg l => (l.map (flat m)).flatten
  | _ + 1, _ => []
noncomputable def laidWorld (os : Os) : World :=
  { World.holding Tryd.prog os ⟨#[], #[], []⟩ with heap := (((World.holding Tryd.prog os ⟨#[], #[], []⟩).heap.modify ((Tryd.prog.globalNamed "unicode/utf8.acceptRanges").getD 0) fun
      | .cells _ t frozen => .cells (flat 5 Rows.laid_unicode_utf8_acceptRanges).toArray t frozen
      | o => o).modify ((Tryd.prog.globalNamed "unicode/utf8.first").getD 0) fun
      | .cells _ t frozen => .cells (flat 5 Rows.laid_unicode_utf8_first).toArray t frozen
      | o => o) }
theorem laid_met (os : Os) : laidMet Tryd.prog Rows.splitJoinsRow.laid ((laidWorld os).forCall (fun _ _ => 0) ⟨#[], #[.slice none 0 0, .int .i64 0, .int .i64 0], []⟩).memory :=
  laidMet_of_run' 8 (by kernel_rfl) (by kernel_rfl)
theorem reads (os : Os) {H : Type} (enc : TypeId × Value → H) : ∃ places, DataW.whole enc Tryd.prog ((laidWorld os).forCall (fun _ _ => 0) ⟨#[], #[.slice none 0 0, .int .i64 0, .int .i64 0], []⟩).memory Tryd.f4.params.toList Rows.splitJoinsSpec.vars false (#[.slice none 0 0, .int .i64 0, .int .i64 0] : Array Value).toList 8 = some ([.nil, .lit (.int .i64 0), .lit (.int .i64 0)], [], places) :=
  ⟨[], by kernel_rfl⟩
theorem lifted (os : Os) (started : os.Started) (H : Type) (enc : TypeId × Value → H) (F : Stop.Interp) :
    ReturnsInHanded {} Tryd.checked os 4 .any ((OpenSpec.ofChange Rows.splitJoinsSpec).preRow enc Tryd.prog Tryd.f4 Rows.splitJoinsRow.domain false Rows.splitJoinsRow.laid) (((OpenSpec.ofChange Rows.splitJoinsSpec).at F).post enc Tryd.prog Tryd.f4 false true false false) := by
  obtain ⟨places, hx⟩ := reads os enc
  refine returnsInHanded_of_row (C := Tryd.checked) (s := OpenSpec.ofChange Rows.splitJoinsSpec) own started (by kernel_rfl) Tryd.func4
    (witness_row_at (enc := enc) (C := Tryd.checked) false (laidWorld os) #[.slice none 0 0, .int .i64 0, .int .i64 0] rfl (by kernel_rfl) (by kernel_rfl) (by kernel_rfl)
      (OpenSpec.preRow_of_cond 8 hx (by kernel_rfl) (fun k hk => by cases hk) (by kernel_rfl) (laid_met os))) ?_
  intro W base args ds gs before hval hW _ _ hsz _ _ _
  exact contract H enc W base args ds gs before hval hW hsz
theorem said : Rows.SplitJoinsSaid :=
  OpenClaim.holds_of_cond 4 Tryd.f4 rfl rfl rfl rfl rfl rfl rfl ⟨rfl, rfl, rfl, rfl, rfl⟩ rfl rfl rfl rfl rfl (by kernel_rfl) Tryd.func4 (by kernel_rfl)
    (of_decide_eq_true (by kernel_rfl)) (by unfold Func.isWrapper; first | (rw [if_pos (by decide +kernel)]; kernel_rfl) | (rw [if_neg (by decide +kernel)]; exact ⟨rfl, rfl⟩))
    (fun os started H enc _ F => by rw [OpenClaim.pre_eq_preRow]; exact lifted os started H enc F)
theorem plain (f : FuncId) (fn : Func) (hf : Tryd.pinned.checked.prog.funcNamed "swage/swagelaw21.SplitJoins" = some f) (hfn : Tryd.pinned.checked.prog.funcs[f]? = some fn) :
    false = Tryd.pinned.checked.prog.looks [] ∧ ∀ (j : Nat) t, fn.params[j]? = some t → Tryd.pinned.checked.prog.wantsStandIn t = false := by
  obtain rfl : f = 4 := Option.some.inj ((show Tryd.prog.funcNamed "swage/swagelaw21.SplitJoins" = some 4 by kernel_rfl).symm.trans hf) |>.symm
  obtain rfl : fn = Tryd.f4 := (Option.some.inj (Tryd.func4.symm.trans hfn)).symm
  refine ⟨by kernel_rfl, fun j t ht => ?_⟩
  rw [Tryd.params4] at ht
  have hm := Array.mem_of_getElem? ht
  have hall : (([42, 3, 3] : List Nat).all fun t => !Tryd.prog.wantsStandIn t) = true := by kernel_rfl
  have := List.all_eq_true.1 hall t (by simpa using hm)
  exact (by simpa using this : Tryd.prog.wantsStandIn t = false)
theorem card : Rows.SplitJoinsCardSaid :=
  Claim7.holds_tied_plain_at .later [] _ _ _ _ said (fun _ h => by cases h) (by kernel_rfl) (fun _ h => by cases h) splitJoins_row_tie rfl ⟨rfl, rfl⟩ (by kernel_rfl) rfl plain (by kernel_rfl)
#print axioms card
end Go.Proofs.YtakmkhokbcjapaaDoor.splitJoins
namespace Go.Proofs.YtakmkhokbcjapaaDoor
theorem splitJoins_holds : Rows.SplitJoinsCardSaid := splitJoins.card
end Go.Proofs.YtakmkhokbcjapaaDoor
end
