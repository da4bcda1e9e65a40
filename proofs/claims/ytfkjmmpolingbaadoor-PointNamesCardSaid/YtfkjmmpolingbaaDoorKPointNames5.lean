/- Part 5 of the proof of the law PointNames for every input: words, walks and plain laws. No condition. -/
import Derived.RangeFuncBox
import Derived.RangeFuncLeaves
import Derived.Shelf.Abstract
import Derived.Shelf.RegionOpen
import Derived.OwnWalkIn
import Derived.TacticsInMore
import Derived.LoopNIn
import Derived.LoopIn
import Derived.WalkMore
import Derived.RangeFuncCalls
import Derived.Test.YtfkjmmpolingbaaDoorKPointNames4
section
/- The iterator over all norms (point.ring, point.All and its closure): what it hands to a round, one point behind the other. -/
namespace Go.Proofs.YtfkjmmpolingbaaDoor.Ring
open Go.RowKit Go.Shelf Go.Proofs.YtfkjmmpolingbaaDoorW.PrintWords Go.Proofs.YtfkjmmpolingbaaDoorW.PrintLast Go.Proofs.YtfkjmmpolingbaaDoorW.PrintMore Go.Proofs.YtfkjmmpolingbaaDoor.XA
def mxi (x y : Int) : Int := if x < y then y else x
theorem max2_mxi (k k' : IntKind) (x y : Int) : Builtin.max2 (.int k x) (.int k' y) = pure (.int k (mxi x y)) := by simp only [Builtin.max2, gt_iff_lt, mxi]
theorem mxi_le {x y z : Int} (hx : x ≤ z) (hy : y ≤ z) (h : x = z ∨ y = z) : (mxi x y != z) = false := by
  unfold mxi
  by_cases e : x < y
  · rw [if_pos e]; simp; omega
  · rw [if_neg e]; simp; omega
theorem mxi_ne {x y z : Int} (h : ¬ (x = z ∨ y = z)) : (mxi x y != z) = true := by
  unfold mxi
  by_cases e : x < y
  · rw [if_pos e]; simp; omega
  · rw [if_neg e]; simp; omega
attribute [local go_sem] Oper.semAt_some max2_mxi max_two
set_option linter.unusedVariables false
abbrev Pt := Int × Int
def ptv (p : Pt) : Value := .agg #[.int .i64 p.1, .int .i64 p.2]
def nm (p : Pt) : Option Pt := point_norm.f 60 p.1 p.2
def stepL (h b a s : Int) : List Pt :=
  if a ≠ h ∧ b ≠ h then [] else if s = 0 ∧ a = 0 ∧ b = 1 then [] else if s = 1 ∧ b = 0 then [] else if a = 0 then [] else if nm (s, b) ≠ some (s, b) then [] else [(s, b)]
def pts (h b a : Int) : Nat → List Pt
  | 0 => []
  | 1 => stepL h b a a
  | _ => stepL h b a a ++ stepL h b a (-a)
def rowTo (h b : Int) : Nat → List Pt
  | 0 => []
  | n + 1 => rowTo h b n ++ pts h b n 2
def ringTo (h : Nat) : Nat → List Pt
  | 0 => []
  | m + 1 => ringTo h m ++ rowTo h m (h + 1)
def allTo : Nat → List Pt
  | 0 => [(0, 1), (1, 0)]
  | m + 1 => allTo m ++ ringTo (m + 1) (m + 2)
theorem room_of_none {F : Fence} (hd : F.depth = none) (k : Nat) : F.room k := fun d h => by rw [hd] at h; cases h
theorem RoundIn.anyDepth {F : Fence} (hd : F.depth = none) {m m' : Nat} {P : Program} {l : Nat} {f : FuncId} {tmps : Array Value} {assign body : Code} {w : World} {R : Ending → World → Prop}
    (h : RoundIn F m P l f tmps assign body w R) : RoundIn F m' P l f tmps assign body w R := ⟨h.1, fun c cs _ => h.2 c cs (room_of_none hd _)⟩
theorem YieldAt.anyDepth {F : Fence} (hd : F.depth = none) {m : Nat} (m' : Nat) {P : Program} {l : Nat} {args : Array Value} {W : World} {R : Ending → World → Prop} (h : YieldAt F m P l args W R) : YieldAt F m' P l args W R := by
  obtain ⟨fn, tmps, assign, body, hy, hR⟩ := h
  exact ⟨fn, tmps, assign, body, hy, RoundIn.anyDepth hd hR⟩
theorem grown_of_below {W W' : World} (h : Below W.heap.size W W') : W.grownBy W' none := ⟨h.os, h.tape, h.output, h.size, fun k hk _ => h.block k hk⟩
theorem pts_le (h b a : Int) (k : Nat) (hk : k < 2) : pts h b a (k + 1) <+: pts h b a 2 := by
  match k, hk with
  | 0, _ => exact ⟨_, rfl⟩
  | 1, _ => exact ⟨[], by rw [List.append_nil]⟩
theorem rowTo_le (h b : Int) {n N : Nat} (hn : n ≤ N) : rowTo h b n <+: rowTo h b N := by
  induction hn with
  | refl => exact ⟨[], by rw [List.append_nil]⟩
  | step _ ih => exact ih.trans ⟨_, rfl⟩
theorem ringTo_le (h : Nat) {n N : Nat} (hn : n ≤ N) : ringTo h n <+: ringTo h N := by
  induction hn with
  | refl => exact ⟨[], by rw [List.append_nil]⟩
  | step _ ih => exact ih.trans ⟨_, rfl⟩
theorem app_pre {x y z : List Pt} (h : y <+: z) : x ++ y <+: x ++ z := by obtain ⟨t, rfl⟩ := h; exact ⟨t, by rw [List.append_assoc]⟩
theorem pre_ok {h m n k : Nat} {P T : List Pt} (hT : P ++ ringTo h (h + 1) <+: T) (hm : m ≤ h) (hn : n ≤ h) (hk : k < 2) : P ++ ringTo h m ++ rowTo h m n ++ pts h m n (k + 1) <+: T := by
  refine List.IsPrefix.trans ?_ hT
  rw [List.append_assoc P, List.append_assoc P]
  refine app_pre (List.IsPrefix.trans ?_ (ringTo_le h (show m + 1 ≤ h + 1 by omega)))
  show _ <+: ringTo h m ++ rowTo h m (h + 1)
  rw [List.append_assoc]
  refine app_pre (List.IsPrefix.trans ?_ (rowTo_le h m (show n + 1 ≤ h + 1 by omega)))
  exact app_pre (pts_le _ _ _ _ hk)
theorem norm_calls {p q : Pt} (h : nm p = some q) (w : World) : Calls Tryd.prog 25 #[.agg #[.int .i64 p.1, .int .i64 p.2]] w fun e w' => e = .returned (.agg #[.int .i64 q.1, .int .i64 q.2]) ∧ Below w.heap.size w w' :=
  point_norm.calls 60 p.1 p.2 q.1 q.2 w h
theorem st_no {h b a s : Int} (c : ¬ (a = h ∨ b = h)) : stepL h b a s = [] := by
  unfold stepL; rw [if_pos ⟨fun e => c (.inl e), fun e => c (.inr e)⟩]
theorem st_n0 {h b a s : Int} (c : a = 0) : stepL h b a s = [] := by
  unfold stepL; split; · rfl
  split; · rfl
  split; · rfl
  first | rfl | rw [if_pos c] | simp
theorem st_10 {h b a s : Int} (c : s = 1) (c' : b = 0) : stepL h b a s = [] := by
  unfold stepL; split; · rfl
  split; · rfl
  rw [if_pos ⟨c, c'⟩]
theorem st_q {h b a s : Int} {q : Pt} (e : nm (s, b) = some q) (c : ¬ (q.1 = s ∧ q.2 = b)) : stepL h b a s = [] := by
  unfold stepL; split; · rfl
  split; · rfl
  split; · rfl
  split; · rfl
  rw [if_pos (by rw [e]; intro x; cases x; exact c ⟨rfl, rfl⟩)]
theorem st_yes {h b a s : Int} (c : a = h ∨ b = h) (ha : ¬ a = 0) (d : ¬ (s = 1 ∧ b = 0)) (e : nm (s, b) = some (s, b)) : stepL h b a s = [(s, b)] := by
  unfold stepL
  rw [if_neg (fun x => c.elim x.1 x.2), if_neg (fun x => ha x.2.1), if_neg d, if_neg ha, if_neg (fun x => x e)]
def PCell (W : World) (g : Nat) (s b : Int) : Prop := W.cell? ⟨g, 0, none⟩ = some (.int .i64 s) ∧ W.cell? ⟨g, 1, none⟩ = some (.int .i64 b) ∧ g < W.heap.size
theorem pc_new (w : World) (s b : Int) : PCell (w.alloc (.cells #[.int .i64 s, .int .i64 b] 27)) w.heap.size s b := ⟨by go_simp, by go_simp, by simp⟩
theorem pc_drew {W : World} {g : Nat} {s b : Int} (h : PCell W g s b) : PCell W.drew g s b := h
theorem pc_below {W W' : World} {g : Nat} {s b : Int} (h : PCell W g s b) (hb : Below W.heap.size W W') : PCell W' g s b :=
  ⟨(hb.cell (p := ⟨g, 0, none⟩) h.2.2).trans h.1, (hb.cell (p := ⟨g, 1, none⟩) h.2.2).trans h.2.1, Nat.lt_of_lt_of_le h.2.2 hb.size⟩
theorem j_on {B : Nat} {Kp : World → World → Prop} (hKt : ∀ {A B C : World}, Kp A B → Kp B C → Kp A C) (hKg : ∀ W W' : World, Below W.heap.size W W' → Kp W W') {J : List Pt → World → Prop} (hJ : AbidesFrom B J) {s : List Pt} {W0 W W' : World} (h : J s W) (hB : Kp W0 W) (hb : Below W.heap.size W W') : J s W' ∧ Kp W0 W' :=
  ⟨hJ s W W' none h (grown_of_below hb) (fun r e => by cases e), hKt hB (hKg _ _ hb)⟩
theorem hq10 : nm (1, 0) = some (1, 0) := by decide +kernel
set_option maxRecDepth 100000 in
set_option maxHeartbeats 4000000 in
theorem ring_in (l B : Nat) (Kp : World → World → Prop) (hKr : ∀ W, Kp W W) (hKt : ∀ {A B C : World}, Kp A B → Kp B C → Kp A C) (hKg : ∀ W W' : World, Below W.heap.size W W' → Kp W W') (h : Nat) (h1 : 1 ≤ h) (hh : h ≤ 16) (P T : List Pt) (hPT : P ++ ringTo h (h + 1) <+: T) (hN : ∀ s b : Int, -16 ≤ s → s ≤ 16 → 0 ≤ b → b ≤ 16 → ∃ q, nm (s, b) = some q) (J Jx : List Pt → World → Prop) (hJ : AbidesFrom B J)
    (hY : ∀ m pre x W, J pre W → pre.length < T.length → YieldAt Fence.wide m Tryd.prog l #[ptv x] W fun e W' =>
      (e = .returned (.bool true) ∧ J (pre ++ [x]) W' ∧ Kp W W') ∨ (e = .returned (.bool false) ∧ Jx (pre ++ [x]) W'))
    (W : World) (h0 : J P W) :
    CallsIn Fence.wide 3 Tryd.prog 22 #[.int .i64 h, .func (.yield l) #[] #[]] W fun e W' =>
      (e = .returned (.bool true) ∧ J (P ++ ringTo h (h + 1)) W' ∧ Kp W W') ∨ (e = .returned (.bool false) ∧ ∃ q, q <+: T ∧ Jx q W') := by
  refine callsIn_of_wp Tryd.func22 rfl trivial ?_ rfl
  simp only [Tryd.ntmps22, List.size_toArray, List.length_cons, List.length_nil, Nat.reduceAdd, Nat.reduceSub, Array.replicate_succ, Array.replicate_zero, List.push_toArray, List.append_toArray, List.nil_append, List.cons_append]
  gi_wp2
  gi_loopw [5] (fun b wr => ∃ m : Nat, m ≤ h + 1 ∧ b = .int .i64 m ∧ J (P ++ ringTo h m) wr ∧ Kp W wr) (fun b _ => h + 1 - (intOf b).toNat)
  case atStart => exact ⟨0, Nat.zero_le _, rfl, by simpa [ringTo] using h0, hKr _⟩
  case round =>
    obtain ⟨m, hm, rfl, hJm, hBm⟩ := hrel
    by_cases hmh : m ≤ h
    · have hmi : (m : Int) ≤ (h : Int) := by omega
      gi_wp2
      gi_loopw [6] (fun a wr => ∃ n : Nat, n ≤ h + 1 ∧ a = .int .i64 n ∧ J (P ++ ringTo h m ++ rowTo h m n) wr ∧ Kp W wr) (fun a _ => h + 1 - (intOf a).toNat)
      case atStart => exact ⟨0, Nat.zero_le _, rfl, by simpa [rowTo] using hJm, hBm⟩
      case round =>
        obtain ⟨n, hn, rfl, hJn, hBn⟩ := hrel
        by_cases hnh : n ≤ h
        · have hni : (n : Int) ≤ (h : Int) := by omega
          have hneg : wrap64 (-(n : Int)) = -(n : Int) := by unfold wrap64; omega
          gi_wp2
          clear hneg
          obtain ⟨s, hs⟩ : ∃ s : Int, -(n : Int) = s := ⟨_, rfl⟩
          rw [hs]
          gi_loopw [24] (fun i wr => ∃ k : Nat, k ≤ 2 ∧ i = .int .i64 k ∧ J (P ++ ringTo h m ++ rowTo h m n ++ pts h m n k) wr ∧ Kp W wr) (fun i _ => 2 - (intOf i).toNat)
          case atStart => exact ⟨0, by omega, rfl, by simpa [pts] using hJn, hBn⟩
          case round =>
            obtain ⟨k, hk, rfl, hJk, hBk⟩ := hrel
            by_cases hk2 : k < 2
            · have hk01 : k = 0 ∨ k = 1 := by omega
              have hix74_0 : ∀ (p0 p1 : Int) (W : World), Sem.run Tryd.prog (Instr.index 74 (.agg #[.int .i64 p0, .int .i64 p1]) (.int .i64 0)) W = .ok (.int .i64 p0) W := fun _ _ _ => by kernel_rfl
              have hix74_1 : ∀ (p0 p1 : Int) (W : World), Sem.run Tryd.prog (Instr.index 74 (.agg #[.int .i64 p0, .int .i64 p1]) (.int .i64 1)) W = .ok (.int .i64 p1) W := fun _ _ _ => by kernel_rfl
              have hmixed : Tryd.prog.follows .mixedOrders = true := by kernel_rfl
              rcases hk01 with rfl | rfl
              · have HP := Aside0.mk (pc_new wr (n : Int) (m : Int))
                by_cases c1 : ((n : Int) = (h : Int) ∨ (m : Int) = (h : Int))
                · have hmx : (mxi (n : Int) (m : Int) != (h : Int)) = false := mxi_le hni hmi c1
                  by_cases c0 : n = 0
                  · have HST : Aside0 (P ++ ringTo h m ++ rowTo h m n ++ pts h m n 1 = P ++ ringTo h m ++ rowTo h m n ++ pts h m n 0) := ⟨by show _ ++ stepL h m n n = _ ++ []; rw [st_n0 (s := (n : Int)) (by omega)]⟩
                    have C1 := Aside0.mk c1; clear c1
                    have g1 : ((n : Int) == 0) = true := by simp; omega
                    have g2 : ((n : Int) == 0) = true := by simp; omega
                    have g3 : ((n : Int) == 1) = false := by simp; omega
                    have C0 := Aside0.mk c0; clear c0
                    cases e1 : ((m : Int) == 1)
                    · gi_wp2
                      gi_region_with_o (refine ⟨trivial, ?_⟩; gi_at_call 25; refine (callsIn_wide.2 (norm_calls hq10 _)).mono ?_; rintro e w1 ⟨rfl, hb1⟩; have HP1 := Aside0.mk (pc_below (pc_drew HP.out) hb1); obtain ⟨hc0, hc1, hz1⟩ := HP1.out)
                      all_goals gi_wp2
                      all_goals
                        go_roundw
                        case rel => exact ⟨1, by omega, rfl, by rw [HST.out]; exact (j_on (Kp := Kp) hKt hKg hJ hJk hBk (by (repeat (first | (with_reducible first | exact Below.refl _ _ | apply below_alloc | apply below_drew | apply pw_below_drewN) | refine below_step ?_ (by assumption))))).1, (j_on (Kp := Kp) hKt hKg hJ hJk hBk (by (repeat (first | (with_reducible first | exact Below.refl _ _ | apply below_alloc | apply below_drew | apply pw_below_drewN) | refine below_step ?_ (by assumption))))).2⟩
                        case measure => simp [intOf]
                    · gi_wp2
                      go_roundw
                      case rel => exact ⟨1, by omega, rfl, by rw [HST.out]; exact (j_on (Kp := Kp) hKt hKg hJ hJk hBk (by (repeat (first | (with_reducible first | exact Below.refl _ _ | apply below_alloc | apply below_drew | apply pw_below_drewN) | refine below_step ?_ (by assumption))))).1, (j_on (Kp := Kp) hKt hKg hJ hJk hBk (by (repeat (first | (with_reducible first | exact Below.refl _ _ | apply below_alloc | apply below_drew | apply pw_below_drewN) | refine below_step ?_ (by assumption))))).2⟩
                      case measure => simp [intOf]
                  · have C1 := Aside0.mk c1; clear c1
                    have g1 : ((n : Int) == 0) = false := by simp; omega
                    have C0 := Aside0.mk c0; clear c0
                    obtain ⟨⟨q1, q2⟩, hq⟩ := hN (n : Int) m (by have := C0.out; omega) (by omega) (by omega) (by omega)
                    by_cases c3 : (n : Int) = 1 ∧ (m : Int) = 0
                    · have HST : Aside0 (P ++ ringTo h m ++ rowTo h m n ++ pts h m n 1 = P ++ ringTo h m ++ rowTo h m n ++ pts h m n 0) := ⟨by show _ ++ stepL h m n n = _ ++ []; rw [st_10 c3.1 c3.2]⟩
                      have e1 : ((n : Int) == 1) = true := by simp; omega
                      have e2 : ((m : Int) == 0) = true := by simp; omega
                      clear c3
                      gi_wp2
                      gi_region_with_o (refine ⟨trivial, ?_⟩; gi_at_call 25; refine (callsIn_wide.2 (norm_calls hq10 _)).mono ?_; rintro e w1 ⟨rfl, hb1⟩; have HP1 := Aside0.mk (pc_below (pc_drew HP.out) hb1); obtain ⟨hc0, hc1, hz1⟩ := HP1.out)
                      all_goals gi_wp2
                      all_goals
                        go_roundw
                        case rel => exact ⟨1, by omega, rfl, by rw [HST.out]; exact (j_on (Kp := Kp) hKt hKg hJ hJk hBk (by (repeat (first | (with_reducible first | exact Below.refl _ _ | apply below_alloc | apply below_drew | apply pw_below_drewN) | refine below_step ?_ (by assumption))))).1, (j_on (Kp := Kp) hKt hKg hJ hJk hBk (by (repeat (first | (with_reducible first | exact Below.refl _ _ | apply below_alloc | apply below_drew | apply pw_below_drewN) | refine below_step ?_ (by assumption))))).2⟩
                        case measure => simp [intOf]
                    · have C3 := Aside0.mk c3
                      by_cases c5 : q1 = (n : Int) ∧ q2 = (m : Int)
                      · have HST : Aside0 (P ++ ringTo h m ++ rowTo h m n ++ pts h m n 1 = P ++ ringTo h m ++ rowTo h m n ++ pts h m n 0 ++ [((n : Int), (m : Int))]) := ⟨by show _ ++ stepL h m n n = _ ++ [] ++ _; rw [st_yes C1.out (by have := C0.out; omega) c3 (by rw [hq, c5.1, c5.2]), List.append_nil]⟩
                        have e3 : (q1 == (n : Int)) = true := by simp; omega
                        have e4 : (q2 == (m : Int)) = true := by simp; omega
                        have hpre : P ++ ringTo h m ++ rowTo h m n ++ pts h m n 0 ++ [((n : Int), (m : Int))] <+: T := by rw [← HST.out]; exact pre_ok hPT hmh hnh (by omega)
                        have HPRE := Aside0.mk hpre
                        have hlen : (P ++ ringTo h m ++ rowTo h m n ++ pts h m n 0).length < T.length := by have := hpre.length_le; rw [List.length_append] at this; simp only [List.length_cons, List.length_nil] at this; omega
                        have HLEN := Aside0.mk hlen
                        clear hpre hlen c5
                        have hc3 : ((n : Int) == 1) = false ∨ ((n : Int) == 1) = true ∧ ((m : Int) == 0) = false := by simp; omega
                        clear c3
                        rcases hc3 with e1 | ⟨e1, e2⟩
                        all_goals
                          gi_wp2
                          gi_region_with_o (refine ⟨trivial, ?_⟩; gi_at_call 25; refine (callsIn_wide.2 (norm_calls hq10 _)).mono ?_; rintro e w1 ⟨rfl, hb1⟩; have HP1 := Aside0.mk (pc_below (pc_drew HP.out) hb1); obtain ⟨hc0, hc1, hz1⟩ := HP1.out)
                          all_goals gi_wp2
                          all_goals gi_region_with_o (refine ⟨trivial, ?_⟩; gi_at_call 25; refine (callsIn_wide.2 (norm_calls hq _)).mono ?_; rintro e w2 ⟨rfl, hb2⟩; have HP2 := Aside0.mk (pc_below (pc_drew HP1.out) hb2); obtain ⟨hd0, hd1, hz2⟩ := HP2.out)
                          all_goals
                            obtain ⟨hJ2, hB2⟩ := j_on (Kp := Kp) hKt hKg hJ hJk hBk (show Below wr.heap.size wr w2 from by (repeat (first | (with_reducible first | exact Below.refl _ _ | apply below_alloc | apply below_drew | apply pw_below_drewN) | refine below_step ?_ (by assumption))))
                            obtain ⟨fn, tmps, assign, body, hy, hR⟩ := hY 2 _ ((n : Int), (m : Int)) w2 hJ2 HLEN.out
                            dsimp only [ptv] at hy
                            gi_wp2
                            refine hR.mono ?_
                            rintro e W3 (⟨rfl, hJ3, hk3⟩ | ⟨rfl, hJx3⟩)
                            · gi_wp2
                              go_roundw
                              case rel => exact ⟨1, by omega, rfl, by rw [HST.out]; exact hJ3, hKt hB2 hk3⟩
                              case measure => simp [intOf]
                            · gi_wp2
                              go_ret
                              exact .inr ⟨rfl, _, HPRE.out, hJx3⟩
                      · have HST : Aside0 (P ++ ringTo h m ++ rowTo h m n ++ pts h m n 1 = P ++ ringTo h m ++ rowTo h m n ++ pts h m n 0) := ⟨by show _ ++ stepL h m n n = _ ++ []; rw [st_q hq c5]⟩
                        have hc5 : (q1 == (n : Int)) = false ∨ (q1 == (n : Int)) = true ∧ (q2 == (m : Int)) = false := by simp; omega
                        have hc3 : ((n : Int) == 1) = false ∨ ((n : Int) == 1) = true ∧ ((m : Int) == 0) = false := by simp; omega
                        clear c3 c5
                        rcases hc3 with e1 | ⟨e1, e2⟩
                        all_goals rcases hc5 with e3 | ⟨e3, e4⟩
                        all_goals
                          gi_wp2
                          gi_region_with_o (refine ⟨trivial, ?_⟩; gi_at_call 25; refine (callsIn_wide.2 (norm_calls hq10 _)).mono ?_; rintro e w1 ⟨rfl, hb1⟩; have HP1 := Aside0.mk (pc_below (pc_drew HP.out) hb1); obtain ⟨hc0, hc1, hz1⟩ := HP1.out)
                          all_goals gi_wp2
                          all_goals gi_region_with_o (refine ⟨trivial, ?_⟩; gi_at_call 25; refine (callsIn_wide.2 (norm_calls hq _)).mono ?_; rintro e w2 ⟨rfl, hb2⟩; have HP2 := Aside0.mk (pc_below (pc_drew HP1.out) hb2); obtain ⟨hd0, hd1, hz2⟩ := HP2.out)
                          all_goals gi_wp2
                          all_goals
                            go_roundw
                            case rel => exact ⟨1, by omega, rfl, by rw [HST.out]; exact (j_on (Kp := Kp) hKt hKg hJ hJk hBk (by (repeat (first | (with_reducible first | exact Below.refl _ _ | apply below_alloc | apply below_drew | apply pw_below_drewN) | refine below_step ?_ (by assumption))))).1, (j_on (Kp := Kp) hKt hKg hJ hJk hBk (by (repeat (first | (with_reducible first | exact Below.refl _ _ | apply below_alloc | apply below_drew | apply pw_below_drewN) | refine below_step ?_ (by assumption))))).2⟩
                            case measure => simp [intOf]
                · have HST : Aside0 (P ++ ringTo h m ++ rowTo h m n ++ pts h m n 1 = P ++ ringTo h m ++ rowTo h m n ++ pts h m n 0) := ⟨by show _ ++ stepL h m n n = _ ++ []; rw [st_no (s := (n : Int)) c1]⟩
                  have hmx : (mxi (n : Int) (m : Int) != (h : Int)) = true := mxi_ne c1
                  clear c1
                  gi_wp2
                  go_roundw
                  case rel => exact ⟨1, by omega, rfl, by rw [HST.out]; exact (j_on (Kp := Kp) hKt hKg hJ hJk hBk (by (repeat (first | (with_reducible first | exact Below.refl _ _ | apply below_alloc | apply below_drew | apply pw_below_drewN) | refine below_step ?_ (by assumption))))).1, (j_on (Kp := Kp) hKt hKg hJ hJk hBk (by (repeat (first | (with_reducible first | exact Below.refl _ _ | apply below_alloc | apply below_drew | apply pw_below_drewN) | refine below_step ?_ (by assumption))))).2⟩
                  case measure => simp [intOf]
              · have HP := Aside0.mk (pc_new wr s (m : Int))
                by_cases c1 : ((n : Int) = (h : Int) ∨ (m : Int) = (h : Int))
                · have hmx : (mxi (n : Int) (m : Int) != (h : Int)) = false := mxi_le hni hmi c1
                  by_cases c0 : n = 0
                  · have HST : Aside0 (P ++ ringTo h m ++ rowTo h m n ++ pts h m n 2 = P ++ ringTo h m ++ rowTo h m n ++ pts h m n 1) := ⟨by show _ ++ (stepL h m n n ++ stepL h m n (-n)) = _ ++ stepL h m n n; rw [hs, st_n0 (s := s) (by omega), List.append_nil]⟩
                    have C1 := Aside0.mk c1; clear c1
                    have g1 : (s == 0) = true := by simp; omega
                    have g2 : ((n : Int) == 0) = true := by simp; omega
                    have g3 : (s == 1) = false := by simp; omega
                    have C0 := Aside0.mk c0; clear c0
                    cases e1 : ((m : Int) == 1)
                    · gi_wp2
                      gi_region_with_o (refine ⟨trivial, ?_⟩; gi_at_call 25; refine (callsIn_wide.2 (norm_calls hq10 _)).mono ?_; rintro e w1 ⟨rfl, hb1⟩; have HP1 := Aside0.mk (pc_below (pc_drew HP.out) hb1); obtain ⟨hc0, hc1, hz1⟩ := HP1.out)
                      all_goals gi_wp2
                      all_goals
                        go_roundw
                        case rel => exact ⟨2, by omega, rfl, by rw [HST.out]; exact (j_on (Kp := Kp) hKt hKg hJ hJk hBk (by (repeat (first | (with_reducible first | exact Below.refl _ _ | apply below_alloc | apply below_drew | apply pw_below_drewN) | refine below_step ?_ (by assumption))))).1, (j_on (Kp := Kp) hKt hKg hJ hJk hBk (by (repeat (first | (with_reducible first | exact Below.refl _ _ | apply below_alloc | apply below_drew | apply pw_below_drewN) | refine below_step ?_ (by assumption))))).2⟩
                        case measure => simp [intOf]
                    · gi_wp2
                      go_roundw
                      case rel => exact ⟨2, by omega, rfl, by rw [HST.out]; exact (j_on (Kp := Kp) hKt hKg hJ hJk hBk (by (repeat (first | (with_reducible first | exact Below.refl _ _ | apply below_alloc | apply below_drew | apply pw_below_drewN) | refine below_step ?_ (by assumption))))).1, (j_on (Kp := Kp) hKt hKg hJ hJk hBk (by (repeat (first | (with_reducible first | exact Below.refl _ _ | apply below_alloc | apply below_drew | apply pw_below_drewN) | refine below_step ?_ (by assumption))))).2⟩
                      case measure => simp [intOf]
                  · have C1 := Aside0.mk c1; clear c1
                    have g1 : (s == 0) = false := by simp; omega
                    have g2 : ((n : Int) == 0) = false := by simp; omega
                    have C0 := Aside0.mk c0; clear c0
                    obtain ⟨⟨q1, q2⟩, hq⟩ := hN s m (by have := C0.out; omega) (by omega) (by omega) (by omega)
                    by_cases c3 : s = 1 ∧ (m : Int) = 0
                    · have HST : Aside0 (P ++ ringTo h m ++ rowTo h m n ++ pts h m n 2 = P ++ ringTo h m ++ rowTo h m n ++ pts h m n 1) := ⟨by show _ ++ (stepL h m n n ++ stepL h m n (-n)) = _ ++ stepL h m n n; rw [hs, st_10 c3.1 c3.2, List.append_nil]⟩
                      have e1 : (s == 1) = true := by simp; omega
                      have e2 : ((m : Int) == 0) = true := by simp; omega
                      clear c3
                      gi_wp2
                      gi_region_with_o (refine ⟨trivial, ?_⟩; gi_at_call 25; refine (callsIn_wide.2 (norm_calls hq10 _)).mono ?_; rintro e w1 ⟨rfl, hb1⟩; have HP1 := Aside0.mk (pc_below (pc_drew HP.out) hb1); obtain ⟨hc0, hc1, hz1⟩ := HP1.out)
                      all_goals gi_wp2
                      all_goals
                        go_roundw
                        case rel => exact ⟨2, by omega, rfl, by rw [HST.out]; exact (j_on (Kp := Kp) hKt hKg hJ hJk hBk (by (repeat (first | (with_reducible first | exact Below.refl _ _ | apply below_alloc | apply below_drew | apply pw_below_drewN) | refine below_step ?_ (by assumption))))).1, (j_on (Kp := Kp) hKt hKg hJ hJk hBk (by (repeat (first | (with_reducible first | exact Below.refl _ _ | apply below_alloc | apply below_drew | apply pw_below_drewN) | refine below_step ?_ (by assumption))))).2⟩
                        case measure => simp [intOf]
                    · have C3 := Aside0.mk c3
                      by_cases c5 : q1 = s ∧ q2 = (m : Int)
                      · have HST : Aside0 (P ++ ringTo h m ++ rowTo h m n ++ pts h m n 2 = P ++ ringTo h m ++ rowTo h m n ++ pts h m n 1 ++ [(s, (m : Int))]) := ⟨by show _ ++ (stepL h m n n ++ stepL h m n (-n)) = _ ++ stepL h m n n ++ _; rw [hs, st_yes C1.out (by have := C0.out; omega) c3 (by rw [hq, c5.1, c5.2])]; simp only [List.append_assoc]⟩
                        have e3 : (q1 == s) = true := by simp; omega
                        have e4 : (q2 == (m : Int)) = true := by simp; omega
                        have hpre : P ++ ringTo h m ++ rowTo h m n ++ pts h m n 1 ++ [(s, (m : Int))] <+: T := by rw [← HST.out]; exact pre_ok hPT hmh hnh (by omega)
                        have HPRE := Aside0.mk hpre
                        have hlen : (P ++ ringTo h m ++ rowTo h m n ++ pts h m n 1).length < T.length := by have := hpre.length_le; rw [List.length_append] at this; simp only [List.length_cons, List.length_nil] at this; omega
                        have HLEN := Aside0.mk hlen
                        clear hpre hlen c5
                        have hc3 : (s == 1) = false ∨ (s == 1) = true ∧ ((m : Int) == 0) = false := by simp; omega
                        clear c3
                        rcases hc3 with e1 | ⟨e1, e2⟩
                        all_goals
                          gi_wp2
                          gi_region_with_o (refine ⟨trivial, ?_⟩; gi_at_call 25; refine (callsIn_wide.2 (norm_calls hq10 _)).mono ?_; rintro e w1 ⟨rfl, hb1⟩; have HP1 := Aside0.mk (pc_below (pc_drew HP.out) hb1); obtain ⟨hc0, hc1, hz1⟩ := HP1.out)
                          all_goals gi_wp2
                          all_goals gi_region_with_o (refine ⟨trivial, ?_⟩; gi_at_call 25; refine (callsIn_wide.2 (norm_calls hq _)).mono ?_; rintro e w2 ⟨rfl, hb2⟩; have HP2 := Aside0.mk (pc_below (pc_drew HP1.out) hb2); obtain ⟨hd0, hd1, hz2⟩ := HP2.out)
                          all_goals
                            obtain ⟨hJ2, hB2⟩ := j_on (Kp := Kp) hKt hKg hJ hJk hBk (show Below wr.heap.size wr w2 from by (repeat (first | (with_reducible first | exact Below.refl _ _ | apply below_alloc | apply below_drew | apply pw_below_drewN) | refine below_step ?_ (by assumption))))
                            obtain ⟨fn, tmps, assign, body, hy, hR⟩ := hY 2 _ (s, (m : Int)) w2 hJ2 HLEN.out
                            dsimp only [ptv] at hy
                            gi_wp2
                            refine hR.mono ?_
                            rintro e W3 (⟨rfl, hJ3, hk3⟩ | ⟨rfl, hJx3⟩)
                            · gi_wp2
                              go_roundw
                              case rel => exact ⟨2, by omega, rfl, by rw [HST.out]; exact hJ3, hKt hB2 hk3⟩
                              case measure => simp [intOf]
                            · gi_wp2
                              go_ret
                              exact .inr ⟨rfl, _, HPRE.out, hJx3⟩
                      · have HST : Aside0 (P ++ ringTo h m ++ rowTo h m n ++ pts h m n 2 = P ++ ringTo h m ++ rowTo h m n ++ pts h m n 1) := ⟨by show _ ++ (stepL h m n n ++ stepL h m n (-n)) = _ ++ stepL h m n n; rw [hs, st_q hq c5, List.append_nil]⟩
                        have hc5 : (q1 == s) = false ∨ (q1 == s) = true ∧ (q2 == (m : Int)) = false := by simp; omega
                        have hc3 : (s == 1) = false ∨ (s == 1) = true ∧ ((m : Int) == 0) = false := by simp; omega
                        clear c3 c5
                        rcases hc3 with e1 | ⟨e1, e2⟩
                        all_goals rcases hc5 with e3 | ⟨e3, e4⟩
                        all_goals
                          gi_wp2
                          gi_region_with_o (refine ⟨trivial, ?_⟩; gi_at_call 25; refine (callsIn_wide.2 (norm_calls hq10 _)).mono ?_; rintro e w1 ⟨rfl, hb1⟩; have HP1 := Aside0.mk (pc_below (pc_drew HP.out) hb1); obtain ⟨hc0, hc1, hz1⟩ := HP1.out)
                          all_goals gi_wp2
                          all_goals gi_region_with_o (refine ⟨trivial, ?_⟩; gi_at_call 25; refine (callsIn_wide.2 (norm_calls hq _)).mono ?_; rintro e w2 ⟨rfl, hb2⟩; have HP2 := Aside0.mk (pc_below (pc_drew HP1.out) hb2); obtain ⟨hd0, hd1, hz2⟩ := HP2.out)
                          all_goals gi_wp2
                          all_goals
                            go_roundw
                            case rel => exact ⟨2, by omega, rfl, by rw [HST.out]; exact (j_on (Kp := Kp) hKt hKg hJ hJk hBk (by (repeat (first | (with_reducible first | exact Below.refl _ _ | apply below_alloc | apply below_drew | apply pw_below_drewN) | refine below_step ?_ (by assumption))))).1, (j_on (Kp := Kp) hKt hKg hJ hJk hBk (by (repeat (first | (with_reducible first | exact Below.refl _ _ | apply below_alloc | apply below_drew | apply pw_below_drewN) | refine below_step ?_ (by assumption))))).2⟩
                            case measure => simp [intOf]
                · have HST : Aside0 (P ++ ringTo h m ++ rowTo h m n ++ pts h m n 2 = P ++ ringTo h m ++ rowTo h m n ++ pts h m n 1) := ⟨by show _ ++ (stepL h m n n ++ stepL h m n (-n)) = _ ++ stepL h m n n; rw [hs, st_no (s := s) c1, List.append_nil]⟩
                  have hmx : (mxi (n : Int) (m : Int) != (h : Int)) = true := mxi_ne c1
                  clear c1
                  gi_wp2
                  go_roundw
                  case rel => exact ⟨2, by omega, rfl, by rw [HST.out]; exact (j_on (Kp := Kp) hKt hKg hJ hJk hBk (by (repeat (first | (with_reducible first | exact Below.refl _ _ | apply below_alloc | apply below_drew | apply pw_below_drewN) | refine below_step ?_ (by assumption))))).1, (j_on (Kp := Kp) hKt hKg hJ hJk hBk (by (repeat (first | (with_reducible first | exact Below.refl _ _ | apply below_alloc | apply below_drew | apply pw_below_drewN) | refine below_step ?_ (by assumption))))).2⟩
                  case measure => simp [intOf]
            · obtain rfl : k = 2 := by omega
              gi_wp2
              go_roundw
              case rel => exact ⟨n + 1, by omega, by go_num, by simpa [rowTo] using hJk, hBk⟩
              case measure => simp [intOf]; omega
        · obtain rfl : n = h + 1 := by omega
          gi_wp2
          go_roundw
          case rel => exact ⟨m + 1, by omega, by go_num, by simpa [ringTo] using hJn, hBn⟩
          case measure => simp [intOf]; omega
    · obtain rfl : m = h + 1 := by omega
      gi_wp2
      go_ret
      exact .inl ⟨rfl, hJm, hBm⟩
end Go.Proofs.YtfkjmmpolingbaaDoor.Ring
end

section
/- The iterator over all norms (point.All and its closure): a round gets one point behind the other. -/
namespace Go.Proofs.YtfkjmmpolingbaaDoor.Ring
open Go.RowKit Go.Shelf Go.Proofs.YtfkjmmpolingbaaDoorW.PrintWords Go.Proofs.YtfkjmmpolingbaaDoorW.PrintLast Go.Proofs.YtfkjmmpolingbaaDoorW.PrintMore Go.Proofs.YtfkjmmpolingbaaDoor.XA
attribute [local go_sem] Oper.semAt_some
set_option linter.unusedVariables false
/-- What the iterator hands out, in its order. -/
def allL (most : Int) : List Pt := if most < 1 then [] else if 16 < most then [] else allTo most.toNat
theorem allTo_le {n N : Nat} (hn : n ≤ N) : allTo n <+: allTo N := by
  induction hn with
  | refl => exact ⟨[], by rw [List.append_nil]⟩
  | step _ ih => exact ih.trans ⟨_, rfl⟩
theorem allTo_ring {m : Nat} (h : 1 ≤ m) : allTo (m - 1) ++ ringTo m (m + 1) = allTo m := by
  obtain ⟨j, rfl⟩ : ∃ j, m = j + 1 := ⟨m - 1, by omega⟩
  rfl
theorem all_hN : ((List.range 33).all fun i => (List.range 17).all fun j => (nm ((i : Int) - 16, (j : Int))).isSome) = true := by decide +kernel
theorem hN_all : ∀ s b : Int, -16 ≤ s → s ≤ 16 → 0 ≤ b → b ≤ 16 → ∃ q, nm (s, b) = some q := by
  intro s b h1 h2 h3 h4
  have h0 := List.all_eq_true.1 (List.all_eq_true.1 all_hN (s + 16).toNat (by simp; omega)) b.toNat (by simp; omega)
  rw [show (((s + 16).toNat : Nat) : Int) - 16 = s by omega, show ((b.toNat : Nat) : Int) = b by omega] at h0
  exact Option.isSome_iff_exists.1 h0
set_option maxRecDepth 100000 in
set_option maxHeartbeats 4000000 in
theorem all1_in (l B Bm : Nat) (Kp : World → World → Prop) (hKr : ∀ W, Kp W W) (hKt : ∀ {A B C : World}, Kp A B → Kp B C → Kp A C) (hKg : ∀ W W' : World, Below W.heap.size W W' → Kp W W') (hKc : ∀ A C : World, Kp A C → Bm < A.heap.size → A.heap.size ≤ C.heap.size ∧ C.cell? ⟨Bm, 0, none⟩ = A.cell? ⟨Bm, 0, none⟩) (most : Int) (J Jx : List Pt → World → Prop) (hJ : AbidesFrom B J)
    (hY : ∀ m pre x W, J pre W → pre.length < (allL most).length → YieldAt Fence.wide m Tryd.prog l #[ptv x] W fun e W' =>
      (e = .returned (.bool true) ∧ J (pre ++ [x]) W' ∧ Kp W W') ∨ (e = .returned (.bool false) ∧ Jx (pre ++ [x]) W'))
    (W : World) (hBm : Bm < W.heap.size) (hc : W.cell? ⟨Bm, 0, none⟩ = some (.int .i64 most)) (h0 : J [] W) :
    CallsIn Fence.wide 4 Tryd.prog 21 #[.func (.yield l) #[] #[], .pointer (some ⟨Bm, 0, none⟩)] W fun e W' => (∃ v, e = .returned v) ∧
      ((∃ ys, ys = allL most ∧ J ys W') ∨ (∃ pre, pre <+: allL most ∧ Jx pre W')) := by
  refine callsIn_of_wp Tryd.func21 rfl trivial ?_ rfl
  simp only [Tryd.ntmps21, List.size_toArray, List.length_cons, List.length_nil, Nat.reduceAdd, Nat.reduceSub, Array.replicate_succ, Array.replicate_zero, List.push_toArray, List.append_toArray, List.nil_append, List.cons_append]
  refine wpIn_wide.2 (wp_scope_straight ((wpIn_wide (n := 4)).1 ?_))
  by_cases c1 : most < 1
  · have e0 : allL most = [] := by unfold allL; rw [if_pos c1]
    have E0 := Aside0.mk e0
    clear e0
    gi_wp2
    refine ⟨fun _ h => (by cases h), ?_⟩
    gi_wp2
    rw [Exit.noGoto_ret]
    refine bodyPost_ret (results_none rfl _ _ _) rfl ?_
    exact ⟨⟨_, rfl⟩, .inl ⟨[], E0.out.symm, h0⟩⟩
  · by_cases c2 : 16 < most
    · have e0 : allL most = [] := by unfold allL; rw [if_neg c1, if_pos c2]
      have E0 := Aside0.mk e0
      clear e0
      gi_wp2
      refine ⟨fun _ h => (by cases h), ?_⟩
      gi_wp2
      rw [Exit.noGoto_ret]
      refine bodyPost_ret (results_none rfl _ _ _) rfl ?_
      exact ⟨⟨_, rfl⟩, .inl ⟨[], E0.out.symm, h0⟩⟩
    · obtain ⟨mo, hmo⟩ : ∃ mo : Nat, most = mo := ⟨most.toNat, by omega⟩
      subst hmo
      have e0 : allL mo = allTo mo := by unfold allL; rw [if_neg c1, if_neg c2]; rfl
      have E0 := Aside0.mk e0
      rw [e0] at hY
      clear e0
      have hl := (allTo_le (show 0 ≤ mo by omega)).length_le
      simp only [allTo, List.length_cons, List.length_nil] at hl
      have HL := Aside0.mk hl
      clear hl
      obtain ⟨f1, t1, a1, b1, hy1, hR1⟩ := hY 3 [] (0, 1) W h0 (by have := HL.out; simp; omega)
      dsimp only [ptv] at hy1
      gi_wp2
      refine hR1.mono ?_
      rintro e W1 (⟨rfl, hJ1, hk1⟩ | ⟨rfl, hx1⟩)
      · obtain ⟨f2, t2, a2, b2, hy2, hR2⟩ := hY 3 [(0, 1)] (1, 0) W1 hJ1 (by have := HL.out; simp; omega)
        dsimp only [ptv] at hy2
        gi_wp2
        refine hR2.mono ?_
        rintro e W2 (⟨rfl, hJ2, hk2⟩ | ⟨rfl, hx2⟩)
        · have hB2 : Kp W W2 := hKt hk1 hk2
          have hc1 := ((hKc _ _ hk1 hBm).2).trans hc
          have hc2 := ((hKc _ _ hB2 hBm).2).trans hc
          gi_wp2
          refine wpIn_label ?_
          gi_wp2
          gi_loopw [3] (fun v wr => ∃ m : Nat, 1 ≤ m ∧ m ≤ mo + 1 ∧ v = .int .i64 m ∧ J (allTo (m - 1)) wr ∧ Kp W wr) (fun v _ => mo + 1 - (intOf v).toNat)
          case atStart => exact ⟨1, Nat.le_refl _, by omega, rfl, hJ2, hB2⟩
          case round =>
            obtain ⟨m, hm1, hm2, rfl, hJm, hBm2⟩ := hrel
            have hcm : wr.cell? ⟨Bm, 0, none⟩ = some (.int .i64 mo) := ((hKc _ _ hBm2 hBm).2).trans hc
            by_cases hlt : m ≤ mo
            · have hpre : allTo (m - 1) ++ ringTo m (m + 1) <+: allTo mo := by rw [allTo_ring hm1]; exact allTo_le hlt
              have hr := ring_in l B Kp hKr hKt hKg m hm1 (by omega) (allTo (m - 1)) (allTo mo) hpre hN_all J Jx hJ hY wr hJm
              rw [allTo_ring hm1] at hr
              clear hpre
              gi_wp2_with (refine ⟨trivial, ?_⟩; gi_at_call 22; refine hr.mono ?_; clear hr; rintro e w' (⟨rfl, hJ', hB'⟩ | ⟨rfl, q, hq, hx⟩))
              · go_roundw
                case rel => exact ⟨m + 1, by omega, by omega, by go_num, hJ', hKt hBm2 hB'⟩
                case measure => simp [intOf]; omega
              · rw [Exit.noGoto_normal]
                go_end0
                exact ⟨⟨_, rfl⟩, .inr ⟨q, by rw [E0.out]; exact hq, hx⟩⟩
            · obtain rfl : m = mo + 1 := by omega
              gi_wp2
              rw [Exit.noGoto_normal]
              go_end0
              exact ⟨⟨_, rfl⟩, .inl ⟨_, E0.out.symm, hJm⟩⟩
        · gi_wp2
          rw [Exit.noGoto_ret]
          refine bodyPost_ret (results_none rfl _ _ _) rfl ?_
          exact ⟨⟨_, rfl⟩, .inr ⟨_, by rw [E0.out]; exact (show [(0, 1), (1, 0)] <+: allTo mo from allTo_le (Nat.zero_le mo)), hx2⟩⟩
      · gi_wp2
        refine ⟨fun _ h => (by cases h), ?_⟩
        gi_wp2
        rw [Exit.noGoto_ret]
        refine bodyPost_ret (results_none rfl _ _ _) rfl ?_
        exact ⟨⟨_, rfl⟩, .inr ⟨_, by rw [E0.out]; exact List.IsPrefix.trans ⟨[(1, 0)], rfl⟩ (allTo_le (Nat.zero_le mo)), hx1⟩⟩
end Go.Proofs.YtfkjmmpolingbaaDoor.Ring
end
