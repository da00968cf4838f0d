/-
  Plain laws of the models, in one text. No conditions.
-/
import Derived.Test.YtaeeiddjpigemaaGreatPx1
namespace Go.AE.Y
open Go Go.AE
set_option maxHeartbeats 400000

structure DbOk (d : DbT) : Prop where
 good : goodL d.1
 gone : d.2.length = d.1.length
 few : d.1.length ≤ 900000

theorem impl_Lit_eq (l : Int) : impl_LiteralAxiom l = some (axB l) := by
 unfold impl_LiteralAxiom axB
 rw [impl_isLiteral_eq, bind_s]
 cases isLit l with
 | true => rw [cnt, ctt]; rfl
 | false => rw [cnf, cff]; rfl

theorem spec_Lit_eq (l : Int) : spec_LiteralAxiom l = some (axB l) := by
 unfold spec_LiteralAxiom axB
 rw [spec_l1Lit_eq, bind_s]
 cases isLit l with
 | true => rw [cnt, ctt]; rfl
 | false => rw [cnf, cff]; rfl

theorem left_few {d : DbT} (h : DbOk d) : (leftD d).length ≤ 900000 := by
 have := leftN_len d d.1.length
 have := h.few
 unfold leftD
 omega

theorem spec_derive_eq {d : DbT} {s : StepT} (h : DbOk d) (hl : s.2.2.2.1.length ≤ 1048576) : ∃ r, spec_l4Derive d s = some r ∧ r.1 = (deriveB d s).1 ∧ (r.1 = true → r = deriveB d s) := by
 have hf := h.few
 unfold spec_l4Derive deriveB
 by_cases k6 : s.1 = 6
 ·rw [cbeq_pos k6, if_pos k6, spec_Lit_eq, bind_s]
  exact ⟨_, rfl, rfl, fun _ => rfl⟩
 rw [cbeq_neg k6, if_neg k6]
 by_cases k7 : s.1 = 7
 ·rw [cbeq_pos k7, if_pos k7, l1Copy_eq s.2.2.2 (by omega), bind_s, spec_ConstraintValid_eq s.2.2.2 (by omega), bind_s]
  cases hc : conB s.2.2.2 with
  | false =>
   rw [cff, Bool.false_and, cff]
   exact ⟨_, rfl, rfl, fun q => by cases q⟩
  | true =>
   rw [ctt, spec_left_eq' h.gone (by omega), bind_s, spec_rup_eq (left_good h.good) (by have := left_few h; omega) hc, bind_s, Bool.true_and]
   cases rupB (leftD d) s.2.2.2 with
   | true => rw [ctt]; exact ⟨_, rfl, rfl, fun _ => rfl⟩
   | false => rw [cff]; exact ⟨_, rfl, rfl, fun q => by cases q⟩
 rw [cbeq_neg k7, if_neg k7, spec_has_eq h.gone, bind_s]
 cases qa : liveB d s.2.1 with
 | false => rw [cnf, cff]; exact ⟨_, rfl, rfl, fun q => by cases q⟩
 | true =>
  obtain ⟨a0, a1, a2⟩ := con_live qa
  have ca : conB (d.1.getD s.2.1.toNat ([], 0)) = true := (h.good _ a2).1
  rw [cnt, ctt, rq_pos ⟨a0, by omega⟩]
  by_cases k1 : s.1 = 1
  ·rw [cbeq_pos k1, if_pos k1, spec_has_eq h.gone, bind_s]
   cases qb : liveB d s.2.2.1 with
   | false => rw [cnf, cff]; exact ⟨_, rfl, rfl, fun q => by cases q⟩
   | true =>
    obtain ⟨b0, b1, b2⟩ := con_live qb
    have cb : conB (d.1.getD s.2.2.1.toNat ([], 0)) = true := (h.good _ b2).1
    rw [cnt, ctt, rq_pos ⟨b0, by omega⟩, spec_Add_eq ca cb, bind_s]
    exact ⟨_, rfl, rfl, fun _ => rfl⟩
  rw [cbeq_neg k1, if_neg k1]
  by_cases k2 : s.1 = 2
  ·rw [cbeq_pos k2, if_pos k2, spec_Mul_eq ca, bind_s]
   exact ⟨_, rfl, rfl, fun _ => rfl⟩
  rw [cbeq_neg k2, if_neg k2]
  by_cases k3 : s.1 = 3
  ·rw [cbeq_pos k3, if_pos k3, spec_Div_eq ca, bind_s]
   exact ⟨_, rfl, rfl, fun _ => rfl⟩
  rw [cbeq_neg k3, if_neg k3]
  by_cases k4 : s.1 = 4
  ·rw [cbeq_pos k4, if_pos k4, spec_Sat_eq ca, bind_s]
   exact ⟨_, rfl, rfl, fun _ => rfl⟩
  rw [cbeq_neg k4, if_neg k4, spec_Weak_eq ca, bind_s]
  exact ⟨_, rfl, rfl, fun _ => rfl⟩

theorem impl_push_eq {d : DbT} (h : DbOk d) (f : Bool) (t : List (Int × Int)) (b : Int) : impl_running_step__Rss_j3 d.1 d.2 ((t, b), f) = some (f, d.1 ++ [(t, b)], d.2 ++ [false]) := by
 have := h.few
 have := h.gone
 unfold impl_running_step__Rss_j3 impl_running_step__Rss_j4
 dsimp only
 rw [rq_pos (by simp only [bound, List.length_cons, List.length_nil]; omega), rq_pos (by simp only [bound, List.length_cons, List.length_nil]; omega)]

theorem impl_step_eq {d : DbT} {s : StepT} (h : DbOk d) (hl : s.2.2.2.1.length ≤ 1048576) : ∃ r, impl_running_step__Rss s d.1 d.2 = some r ∧ (r.1 = true → stepD d s = some (r.2.1, r.2.2)) ∧ (r.1 = false → stepD d s = none) := by
 have hf := h.few
 have hg := h.gone
 obtain ⟨n, b, e, hk⟩ := refers_eq s.1
 unfold impl_running_step__Rss impl_running_step__Rss_j1 stepD
 rw [e, bind_s, impl_parts_eq hl, bind_s]
 dsimp only
 cases hp : partsB s with
 | false => rw [cnf, cff]; exact ⟨_, rfl, fun q => (by cases q), fun _ => rfl⟩
 | true =>
  rw [cnt, ctt]
  have hkind : 1 ≤ s.1 ∧ s.1 ≤ 8 := by
   unfold partsB at hp
   by_cases q1 : s.1 = 1 ∨ s.1 = 2 ∨ s.1 = 3 ∨ s.1 = 5
   ·omega
   ·rw [if_neg q1] at hp
    by_cases q2 : s.1 = 4 ∨ s.1 = 6 ∨ s.1 = 8
    ·omega
    ·rw [if_neg q2] at hp
     by_cases q3 : s.1 = 7
     ·omega
     ·rw [if_neg q3] at hp; cases hp

  have push : ∀ (r : ConR) (f : Bool) (t : List (Int × Int)) (c : Int), r.1 = f → (f = true → r = (f, c, t)) → s.1 ≠ 8 → deriveB d s = r → ∃ q, impl_running_step__Rss_j3 d.1 d.2 ((t, c), f) = some q ∧ (q.1 = true → (if s.1 = 8 then (bif liveB d s.2.1 then some (d.1, d.2.set s.2.1.toNat true) else none) else (bif (deriveB d s).1 then some (d.1 ++ [ofR (deriveB d s)], d.2 ++ [false]) else none)) = some (q.2.1, q.2.2)) ∧
    (q.1 = false → (if s.1 = 8 then (bif liveB d s.2.1 then some (d.1, d.2.set s.2.1.toNat true) else none) else (bif (deriveB d s).1 then some (d.1 ++ [ofR (deriveB d s)], d.2 ++ [false]) else none)) = none) := fun r f t c h1 h2 h8 hd => by
   rw [impl_push_eq h, if_neg h8, hd, h1]
   cases f with
   | true =>
    rw [ctt, h2 rfl]
    exact ⟨_, rfl, fun _ => rfl, fun q => by cases q⟩
   | false =>
    rw [cff]
    exact ⟨_, rfl, fun q => (by cases q), fun _ => rfl⟩
  have flip : ∀ r : ConR, (r.1 = true → r = (r.1, (flipR r).2.2, (flipR r).2.1)) := fun r _ => rfl
  have dead : liveB d s.2.1 = false → s.1 ≠ 6 → s.1 ≠ 7 → (if s.1 = 8 then (bif liveB d s.2.1 then some (d.1, d.2.set s.2.1.toNat true) else none) else (bif (deriveB d s).1 then some (d.1 ++ [ofR (deriveB d s)], d.2 ++ [false]) else none)) = none := fun q h6 h7 => by
   by_cases k8 : s.1 = 8
   ·rw [if_pos k8, q, cff]
   ·rw [if_neg k8]
    unfold deriveB
    rw [if_neg h6, if_neg h7, q, cff]
    rfl
  have hA : s.1 ≠ 6 → s.1 ≠ 7 → liveB d s.2.1 = true → deriveB d s = (if s.1 = 1 then (bif liveB d s.2.2.1 then addB (conAt d s.2.1) (conAt d s.2.2.1) else noC) else if s.1 = 2 then mulB (conAt d s.2.1) s.2.2.1 else if s.1 = 3 then divB (conAt d s.2.1) s.2.2.1 else if s.1 = 4 then satB (conAt d s.2.1) else weakB (conAt d s.2.1) s.2.2.1) := fun h6 h7 q => by
   unfold deriveB
   rw [if_neg h6, if_neg h7, q, ctt]
  by_cases k67 : s.1 = 6 ∨ s.1 = 7
  ·have hn : n = 0 := by omega
   rw [hn, cdec_neg (by omega), cdec_neg (by omega)]
   unfold impl_running_step__Rss_j2
   rw [cbeq_neg (by omega), cbeq_neg (by omega), cbeq_neg (by omega), cbeq_neg (by omega), cbeq_neg (by omega), cbeq_neg (by omega)]
   rcases k67 with k | k
   ·rw [cbeq_pos k, impl_Lit_eq, bind_s]
    exact push (axB s.2.1) _ _ _ rfl (fun _ => rfl) (by omega) (by unfold deriveB; rw [if_pos k])
   ·rw [cbeq_neg (by omega), cbeq_pos k, impl_ConstraintValid_eq s.2.2.2 (by omega), bind_s]
    have hd : deriveB d s = (bif conB s.2.2.2 && rupB (leftD d) s.2.2.2 then outC s.2.2.2 else noC) := by
     unfold deriveB
     rw [if_neg (by omega), if_pos k]
    cases hc : conB s.2.2.2 with
    | false =>
     rw [cff]
     rw [hc, Bool.false_and, cff] at hd
     exact push noC _ _ _ rfl (fun q => by cases q) (by omega) hd
    | true =>
     rw [ctt, impl_left_eq h.gone (by omega), bind_s, impl_rup_eq (left_good h.good) (by have := left_few h; omega) hc, bind_s]
     rw [hc, Bool.true_and] at hd
     cases hr : rupB (leftD d) s.2.2.2 with
     | true =>
      rw [hr, ctt] at hd
      exact push (outC s.2.2.2) _ _ _ rfl (fun _ => rfl) (by omega) hd
     | false =>
      rw [hr, cff] at hd
      exact push noC _ _ _ rfl (fun q => by cases q) (by omega) hd
  ·have hn : 1 ≤ n := by omega
   rw [cdec_pos (by omega), impl_has_eq h.gone (by omega), bind_s]
   cases qa : liveB d s.2.1 with
   | false =>
    rw [cnf]
    have dd := dead qa (by omega) (by omega)
    rw [qa] at dd
    exact ⟨_, rfl, fun q => (by cases q), fun _ => dd⟩
   | true =>
    obtain ⟨a0, a1, a2⟩ := con_live qa
    have ca : conB (d.1.getD s.2.1.toNat ([], 0)) = true := (h.good _ a2).1
    have hA := hA (by omega) (by omega) qa
    rw [qa] at push
    rw [cnt]
    by_cases k1 : s.1 = 1
    ·have hn : n = 2 := by omega
     rw [if_pos k1] at hA
     rw [hn, cdec_pos (by omega), impl_has_eq h.gone (by omega), bind_s]
     cases qb : liveB d s.2.2.1 with
     | false =>
      rw [qb, cff] at hA
      rw [cnf]
      exact ⟨_, rfl, fun q => (by cases q), fun _ => by rw [if_neg (show ¬ s.1 = 8 by omega), hA]; rfl⟩
     | true =>
      obtain ⟨b0, b1, b2⟩ := con_live qb
      have cb : conB (d.1.getD s.2.2.1.toNat ([], 0)) = true := (h.good _ b2).1
      rw [qb, ctt] at hA
      unfold impl_running_step__Rss_j2
      rw [cnt, cbeq_neg (by omega), cbeq_pos k1, rq_pos ⟨a0, by omega⟩, rq_pos ⟨b0, by omega⟩, impl_Add_eq ca cb, bind_s]
      exact push (addB _ _) _ _ _ rfl (fun _ => rfl) (by omega) hA
    ·have hn : n = 1 := by omega
     rw [if_neg k1] at hA
     rw [hn, cdec_neg (by omega)]
     unfold impl_running_step__Rss_j2
     by_cases k8 : s.1 = 8
     ·rw [cbeq_pos k8, rq_pos ⟨a0, by omega⟩]
      exact ⟨_, rfl, fun _ => (by rw [if_pos k8, ctt]), fun q => by cases q⟩
     rw [cbeq_neg k8, cbeq_neg k1]
     by_cases k2 : s.1 = 2
     ·rw [if_pos k2] at hA
      rw [cbeq_pos k2, rq_pos ⟨a0, by omega⟩, impl_Mul_eq ca, bind_s]
      exact push (mulB _ _) _ _ _ rfl (flip _) (by omega) hA
     rw [if_neg k2] at hA
     rw [cbeq_neg k2]
     by_cases k3 : s.1 = 3
     ·rw [if_pos k3] at hA
      rw [cbeq_pos k3, rq_pos ⟨a0, by omega⟩, impl_Div_eq ca, bind_s]
      exact push (divB _ _) _ _ _ rfl (flip _) (by omega) hA
     rw [if_neg k3] at hA
     rw [cbeq_neg k3]
     by_cases k4 : s.1 = 4
     ·rw [if_pos k4] at hA
      rw [cbeq_pos k4, rq_pos ⟨a0, by omega⟩, impl_Sat_eq ca, bind_s]
      exact push (satB _) _ _ _ rfl (fun _ => rfl) (by omega) hA
     rw [if_neg k4] at hA
     rw [cbeq_neg k4, cbeq_pos (by omega), rq_pos ⟨a0, by omega⟩, impl_Weak_eq ca, bind_s]
     exact push (weakB _ _) _ _ _ rfl (fun _ => rfl) (by omega) hA

theorem step_ok {d d' : DbT} {s : StepT} (h : DbOk d) (hf : d.1.length < 900000) (hs : stepD d s = some d') : DbOk d' ∧ d'.1.length ≤ d.1.length + 1 := by
 unfold stepD at hs
 cases hp : partsB s with
 | false => rw [hp, cff] at hs; cases hs
 | true =>
  rw [hp, ctt] at hs
  by_cases k8 : s.1 = 8
  ·rw [if_pos k8] at hs
   cases hv : liveB d s.2.1 with
   | false => rw [hv, cff] at hs; cases hs
   | true =>
    rw [hv, ctt] at hs
    injection hs with hs
    subst hs
    exact ⟨⟨h.good, by dsimp only; rw [List.length_set]; exact h.gone, h.few⟩, Nat.le_succ _⟩
  ·rw [if_neg k8] at hs
   cases hv : (deriveB d s).1 with
   | false => rw [hv, cff] at hs; cases hs
   | true =>
    rw [hv, ctt] at hs
    injection hs with hs
    subst hs
    have o1 := (derive_ok h.good (by have := h.few; omega) hv).1
    have o12 := con_12 o1
    have hg := h.gone
    refine ⟨⟨fun c hc => ?_, by dsimp only; rw [List.length_append, List.length_append, List.length_singleton, List.length_singleton, hg], by dsimp only; rw [List.length_append, List.length_singleton]; omega⟩, by dsimp only; rw [List.length_append, List.length_singleton]; omega⟩
    rcases List.mem_append.1 hc with q | q
    ·exact h.good c q
    ·rw [List.mem_singleton] at q
     rw [q]
     exact ⟨o1, by omega⟩

theorem run_snoc {d d' : DbT} {S : List StepT} {n : Nat} (hn : n < S.length) (h : runB d (S.take n) = some d') : runB d (S.take (n + 1)) = stepD d' (S.getD n zS) := by
 rw [take_snoc zS hn, run_append, h, bind_s]
 show (stepD d' (S.getD n zS)).bind (fun d'' => some d'') = _
 cases stepD d' (S.getD n zS) <;> rfl

theorem run_none {d d' : DbT} {S : List StepT} {n : Nat} (hn : n < S.length) (h : runB d (S.take n) = some d') (h2 : stepD d' (S.getD n zS) = none) : runB d S = none := by
 have e : S = S.take (n + 1) ++ S.drop (n + 1) := (List.take_append_drop _ _).symm
 rw [e, run_append, run_snoc hn h, h2]
 rfl

theorem start_ok {l : ProbT} (hg : goodL l) (h4 : l.length ≤ 400) : DbOk (startD l) := ⟨hg, List.length_replicate, by show l.length ≤ 900000; omega⟩

def smallSt (S : List StepT) : Prop := ∀ s ∈ S, s.2.2.2.1.length ≤ 1048576

theorem impl_run_eq {l : ProbT} {S : List StepT} (hs : smallC l) (hS : smallSt S) :
  ∃ r, impl_run l S = some r ∧ ((r.1 = true ∧ r.2.1 = -1 ∧ (probB l = true ∧ S.length ≤ 1000) ∧ runB (startD l) S = some (r.2.2.1, r.2.2.2.1)) ∨ (r.1 = false ∧ 0 ≤ r.2.2.2.2 ∧ ¬ ((probB l = true ∧ S.length ≤ 1000) ∧ ∃ d, runB (startD l) S = some d))) := by
 unfold impl_run impl_run_j1
 rw [impl_ProblemValid_eq l hs, bind_s]
 cases hp : probB l with
 | false => rw [cnf]; exact ⟨_, rfl, Or.inr ⟨rfl, Int.le_refl _, fun h => by cases h.1.1⟩⟩
 | true =>
  rw [cnt]
  by_cases q : 1000 < (S.length : Int)
  ·rw [cdec_pos q]; exact ⟨_, rfl, Or.inr ⟨rfl, Int.le_refl _, fun h => by have := h.1.2; omega⟩⟩
  ·obtain ⟨hg, h4⟩ := prob_good hs hp
   rw [cdec_neg q, CloneC_eq l (by omega), bind_s, rq_pos ⟨by omega, by simp only [bound]; omega, rfl⟩, Int.toNat_natCast]
   have := loop_ex (f := impl_run_l1 S) (fun s : Int × ProbT × List Bool => ∃ n : Nat, s.1 = n ∧ n ≤ S.length ∧ runB (startD l) (S.take n) = some (s.2.1, s.2.2) ∧ DbOk (s.2.1, s.2.2) ∧ s.2.1.length ≤ 400 + n) (fun s => S.length - s.1.toNat)
    (fun r => (r.1 = true ∧ r.2.1 = -1 ∧ (true = true ∧ S.length ≤ 1000) ∧ runB (startD l) S = some (r.2.2.1, r.2.2.2.1)) ∨ (r.1 = false ∧ 0 ≤ r.2.2.2.2 ∧ ¬ ((true = true ∧ S.length ≤ 1000) ∧ ∃ d, runB (startD l) S = some d))) ?_ ((0 : Int), l, List.replicate l.length false) ⟨0, rfl, Nat.zero_le _, rfl, start_ok hg h4, by show l.length ≤ 400 + 0; omega⟩
   ·exact this
   rintro ⟨i, all, gone⟩ ⟨n, hn1, hn, hr, hok, hlen⟩
   dsimp only at hn1 hr hok hlen
   subst hn1
   unfold impl_run_l1
   dsimp only
   rcases Nat.lt_or_ge n S.length with h1 | h1
   ·have hm := hS _ (getD_mem (l := S) (i := n) (d := zS) h1)
    obtain ⟨r, er, h2, h3⟩ := impl_step_eq hok hm
    have er : impl_running_step__Rss (S.getD n (0, (0, (0, ([], 0))))) all gone = some r := er
    rw [cdec_pos (by omega), rq_pos ⟨by omega, by omega⟩, Int.toNat_natCast, er, bind_s]
    cases hr1 : r.1 with
    | true =>
     left
     rw [cnt, rq_i64 (by omega) (by omega)]
     have h2 := h2 hr1
     have hso := step_ok hok (by dsimp only; omega) h2
     refine ⟨_, rfl, ⟨n + 1, by simp, by omega, ?_, hso.1, ?_⟩, by (try dsimp only) <;> omega⟩
     ·dsimp only
      rw [run_snoc h1 hr]
      exact h2
     ·have := hso.2
      dsimp only at this ⊢
      omega
    | false =>
     right
     rw [cnf]
     refine ⟨_, rfl, Or.inr ⟨rfl, by (try dsimp only) <;> omega, fun h => ?_⟩⟩
     obtain ⟨_, d, hd⟩ := h
     rw [run_none h1 hr (h3 hr1)] at hd
     cases hd
   ·right
    have hnn : n = S.length := by omega
    rw [hnn, List.take_length] at hr
    rw [cdec_neg (by omega)]
    exact ⟨_, rfl, Or.inl ⟨rfl, rfl, ⟨rfl, by omega⟩, hr⟩⟩

theorem spec_run_eq {l : ProbT} {S : List StepT} (hg : goodL l) (h4 : l.length ≤ 400) (hS : smallSt S) (hn : S.length ≤ 1000) :
  ∃ r, spec_l4Run l S = some r ∧ ((r.1 = -1 ∧ runB (startD l) S = some r.2) ∨ (0 ≤ r.1 ∧ runB (startD l) S = none)) := by
 unfold spec_l4Run spec_l4Run_j1
 rw [rq_pos (by simp only [bound, List.length_nil]; omega), rq_pos ⟨by omega, by simp only [bound]; omega, rfl⟩, Int.toNat_natCast, List.nil_append]
 refine loop_ex (f := spec_l4Run_l1 S) (fun s : Int × ProbT × List Bool => ∃ n : Nat, s.1 = n ∧ n ≤ S.length ∧ runB (startD l) (S.take n) = some s.2 ∧ DbOk s.2 ∧ s.2.1.length ≤ 400 + n) (fun s => S.length - s.1.toNat)
  (fun r => (r.1 = -1 ∧ runB (startD l) S = some r.2) ∨ (0 ≤ r.1 ∧ runB (startD l) S = none)) ?_ ((0 : Int), l, List.replicate l.length false) ⟨0, rfl, Nat.zero_le _, rfl, start_ok hg h4, by show l.length ≤ 400 + 0; omega⟩
 rintro ⟨i, d⟩ ⟨n, hn1, hn, hr, hok, hlen⟩
 dsimp only at hn1 hr hok hlen
 subst hn1
 obtain ⟨all, gone⟩ := d
 dsimp only at hlen
 unfold spec_l4Run_l1 spec_l4Run_j2
 dsimp only
 rcases Nat.lt_or_ge n S.length with h1 | h1
 ·have hm := hS _ (getD_mem (l := S) (i := n) (d := zS) h1)
  have hfail : stepD (all, gone) (S.getD n zS) = none → ∃ r, some (Sum.inr ((n : Int), all, gone) : (Int × ProbT × List Bool) ⊕ (Int × ProbT × List Bool)) = some (.inr r) ∧ ((r.1 = -1 ∧ runB (startD l) S = some r.2) ∨ (0 ≤ r.1 ∧ runB (startD l) S = none)) := fun h => ⟨_, rfl, Or.inr ⟨by (try dsimp only) <;> omega, run_none h1 hr h⟩⟩
  have hgo : ∀ d', stepD (all, gone) (S.getD n zS) = some d' → ∃ m : Nat, ((n : Int) + 1) = m ∧ m ≤ S.length ∧ runB (startD l) (S.take m) = some d' ∧ DbOk d' ∧ d'.1.length ≤ 400 + m := fun d' h => by
   obtain ⟨o1, o2⟩ := step_ok hok (by dsimp only; omega) h
   exact ⟨n + 1, by simp, by omega, by rw [run_snoc h1 hr]; exact h, o1, by dsimp only at o2; omega⟩
  have hg2 := hok.gone
  have hf2 := hok.few
  dsimp only at hg2 hf2
  have hpq : spec_l4Parts (S.getD n (0, (0, (0, ([], 0))))) = some (partsB (S.getD n zS)) := spec_parts_eq
  rw [cdec_pos (by omega), rq_pos ⟨by omega, by omega⟩, Int.toNat_natCast, hpq, bind_s]
  unfold stepD at hfail hgo
  cases hp : partsB (S.getD n zS) with
  | false =>
   right
   rw [hp, cff] at hfail
   rw [cnf]
   exact hfail rfl
  | true =>
   rw [hp, ctt] at hfail hgo
   rw [cnt]
   change (S.getD n zS).2.2.2.1.length ≤ 1048576 at hm
   show (∃ s', cond ((S.getD n zS).1 == (8 : Int)) _ _ = _ ∧ _) ∨ (∃ r, cond ((S.getD n zS).1 == (8 : Int)) _ _ = _ ∧ _)
   by_cases k8 : (S.getD n zS).1 = 8
   ·rw [if_pos k8] at hfail hgo
    have hhas : spec_l4Live (all, gone) (S.getD n (0, (0, (0, ([], 0))))).2.1 = some (liveB (all, gone) (S.getD n zS).2.1) := spec_has_eq hok.gone
    rw [cbeq_pos k8, hhas, bind_s]
    cases hv : liveB (all, gone) (S.getD n zS).2.1 with
    | false =>
     right
     rw [hv, cff] at hfail
     rw [cnf]
     exact hfail rfl
    | true =>
     left
     obtain ⟨a0, a1, _⟩ := con_live hv
     dsimp only at a1
     rw [hv, ctt] at hgo
     have a0 : 0 ≤ (S.getD n (0, (0, (0, ([], 0))))).2.1 := a0
     have a1 : (S.getD n (0, (0, (0, ([], 0))))).2.1.toNat < all.length := a1
     rw [cnt, rq_pos ⟨a0, by omega⟩, rq_i64 (by omega) (by omega)]
     exact ⟨_, rfl, hgo _ rfl, by (try dsimp only) <;> omega⟩
   ·rw [if_neg k8] at hfail hgo
    obtain ⟨r, er, e1, e2⟩ := spec_derive_eq hok hm
    have er : spec_l4Derive (all, gone) (S.getD n (0, (0, (0, ([], 0))))) = some r := er
    rw [cbeq_neg k8, er, bind_s]
    cases hr1 : r.1 with
    | false =>
     right
     rw [← e1, hr1, cff] at hfail
     rw [cnf]
     exact hfail rfl
    | true =>
     left
     rw [← e1, hr1, ctt, ← e2 hr1] at hgo
     rw [cnt, rq_pos (by simp only [bound, List.length_cons, List.length_nil]; omega), rq_pos (by simp only [bound, List.length_cons, List.length_nil]; omega), rq_i64 (by omega) (by omega)]
     exact ⟨_, rfl, hgo _ rfl, by (try dsimp only) <;> omega⟩
 ·right
  have hnn : n = S.length := by omega
  rw [hnn, List.take_length] at hr
  rw [cdec_neg (by omega)]
  exact ⟨_, rfl, Or.inl ⟨rfl, hr⟩⟩

end Go.AE.Y
namespace Go.AE.Y
open Go Go.AE
set_option maxHeartbeats 400000

theorem run_ok : ∀ (S : List StepT) (d d' : DbT), DbOk d → d.1.length + S.length ≤ 900000 → runB d S = some d' → DbOk d' ∧ d'.1.length ≤ d.1.length + S.length ∧ ∀ s ∈ S, partsB s = true
 | [], d, d', h, _, hr => by
  have hr : some d = some d' := hr
  injection hr with hr
  subst hr
  exact ⟨h, Nat.le_refl _, fun s hs => absurd hs List.not_mem_nil⟩
 | s :: S, d, d', h, hl, hr => by
  have hr : (stepD d s).bind (fun d1 => runB d1 S) = some d' := hr
  rw [List.length_cons] at hl
  cases hs : stepD d s with
  | none => rw [hs] at hr; cases hr
  | some d1 =>
   rw [hs, bind_s] at hr
   obtain ⟨o1, o2⟩ := step_ok h (by omega) hs
   obtain ⟨i1, i2, i3⟩ := run_ok S d1 d' o1 (by omega) hr
   refine ⟨i1, by rw [List.length_cons]; omega, fun x hx => ?_⟩
   rcases List.mem_cons.1 hx with e | e
   ·rw [e]
    unfold stepD at hs
    cases hp : partsB s with
    | true => rfl
    | false => rw [hp, cff] at hs; cases hs
   ·exact i3 x e

theorem parts_kind {s : StepT} (hp : partsB s = true) : 1 ≤ s.1 ∧ s.1 ≤ 8 := by
 unfold partsB at hp
 by_cases q1 : s.1 = 1 ∨ s.1 = 2 ∨ s.1 = 3 ∨ s.1 = 5
 ·omega
 ·rw [if_neg q1] at hp
  by_cases q2 : s.1 = 4 ∨ s.1 = 6 ∨ s.1 = 8
  ·omega
  ·rw [if_neg q2] at hp
   by_cases q3 : s.1 = 7
   ·omega
   ·rw [if_neg q3] at hp; cases hp

theorem refute_iff {l : ProbT} {S : List StepT} {q : DbT × Nat} : refuteB l S = some q ↔ (probB l = true ∧ S.length ≤ 1000) ∧ runB (startD l) S = some q.1 ∧ findF q.1 = some q.2 := by
 unfold refuteB
 by_cases h : probB l = true ∧ S.length ≤ 1000
 ·rw [if_pos h]
  cases hr : runB (startD l) S with
  | none => exact ⟨fun e => (by cases e), fun e => (by cases e.2.1)⟩
  | some d =>
   rw [bind_s]
   cases hf : findF d with
   | none =>
    refine ⟨fun e => (by cases e), fun e => ?_⟩
    have e1 := e.2.1
    injection e1 with e1
    have e2 := e.2.2
    rw [← e1, hf] at e2
    cases e2
   | some i =>
    constructor
    ·intro e
     have e : some (d, i) = some q := e
     injection e with e
     subst e
     exact ⟨h, rfl, hf⟩
    ·intro e
     have e1 := e.2.1
     injection e1 with e1
     have e2 := e.2.2
     rw [← e1, hf] at e2
     injection e2 with e2
     show some (d, i) = some q
     rw [e1, e2]
 ·rw [if_neg h]
  exact ⟨fun e => (by cases e), fun e => absurd e.1 h⟩

theorem loop_findN {R : Type} {f : Int → Option (Int ⊕ R)} (n : Nat) (p : Nat → Bool) (hit : Nat → R) (miss : R)
  (h : ∀ i : Nat, i < n → f i = some (bif p i then .inr (hit i) else .inl ((i : Int) + 1))) (hn : f n = some (.inr miss)) : loop f 0 = some (match (List.range n).find? p with | some i => hit i | none => miss) := by
 have key : ∀ k i : Nat, i + k = n → loop f (i : Int) = some (match (List.range' i k).find? p with | some i => hit i | none => miss) := by
  intro k
  induction k with
  | zero =>
   intro i hi
   rw [loop_eq, show i = n by omega, hn]
   rfl
  | succ k ih =>
   intro i hi
   rw [loop_eq, h i (by omega), List.range'_succ, List.find?_cons]
   cases p i with
   | true => rfl
   | false =>
    rw [cff]
    exact ih (i + 1) (by omega)
 have := key n 0 (by omega)
 rw [List.range_eq_range']
 exact this

theorem impl_findF {r : Bool × Int × ProbT × List Bool × Int} (h : DbOk (r.2.2.1, r.2.2.2.1)) : loop (impl_refuting_l1 r) (0 : Int) = some (match findF (r.2.2.1, r.2.2.2.1) with | some i => (true, (i : Int), r.2.2.1, r.2.2.2.1, 0) | none => (true, -1, r.2.2.1, r.2.2.2.1, 0)) := by
 have hf := h.few
 have hg := h.gone
 dsimp only at hf hg
 unfold findF
 refine loop_findN r.2.2.1.length _ (fun i => (true, (i : Int), r.2.2.1, r.2.2.2.1, 0)) (true, -1, r.2.2.1, r.2.2.2.1, 0) (fun i hi => ?_) ?_
 ·unfold impl_refuting_l1
  rw [cdec_pos (by omega), rq_pos ⟨by omega, by omega⟩, rq_pos ⟨by omega, by omega⟩, Int.toNat_natCast]
  dsimp only
  cases hgi : r.2.2.2.1.getD i false with
  | true =>
   rw [cnt, rq_i64 (by omega) (by omega)]
   rfl
  | false =>
   have hm := (h.good _ (getD_mem (l := r.2.2.1) (i := i) (d := ([], 0)) hi)).2
   have hfe : impl_ConstraintFalse (r.2.2.1.getD i ([], 0)) = some (falseB (r.2.2.1.getD i ([], 0))) := impl_False_eq hm
   rw [cnf, hfe, bind_s]
   cases falseB (r.2.2.1.getD i ([], 0)) with
   | true => rfl
   | false => rw [cff, rq_i64 (by omega) (by omega)]; rfl
 ·unfold impl_refuting_l1
  rw [cdec_neg (by omega)]

theorem spec_findF {d : DbT} (h : DbOk d) : spec_l4False d = some (match findF d with | some i => (i : Int) | none => -1) := by
 have hf := h.few
 have hg := h.gone
 unfold findF spec_l4False
 refine loop_findN d.1.length _ (fun i => (i : Int)) (-1) (fun i hi => ?_) ?_
 ·unfold spec_l4False_l1
  rw [cdec_pos (by omega), rq_pos ⟨by omega, by omega⟩, Int.toNat_natCast]
  cases hgi : d.2.getD i false with
  | true =>
   rw [cnt, rq_i64 (by omega) (by omega)]
   rfl
  | false =>
   have hm := (h.good _ (getD_mem (l := d.1) (i := i) (d := ([], 0)) hi)).2
   have hfe : spec_ConstraintFalse (d.1.getD i ([], 0)) = some (falseB (d.1.getD i ([], 0))) := spec_False_eq hm
   rw [cnf, rq_pos ⟨by omega, by omega⟩, hfe, bind_s]
   cases falseB (d.1.getD i ([], 0)) with
   | true => rfl
   | false => rw [cff, rq_i64 (by omega) (by omega)]; rfl
 ·unfold spec_l4False_l1
  rw [cdec_neg (by omega)]

theorem start_run {l : ProbT} {S : List StepT} {d : DbT} (hs : smallC l) (hp : probB l = true ∧ S.length ≤ 1000) (h : runB (startD l) S = some d) : DbOk d ∧ d.1.length ≤ 400 + S.length ∧ ∀ s ∈ S, partsB s = true := by
 obtain ⟨hg, h4⟩ := prob_good hs hp.1
 have e : (startD l).1.length = l.length := rfl
 obtain ⟨a, b, c⟩ := run_ok S (startD l) d (start_ok hg h4) (by rw [e]; omega) h
 exact ⟨a, by rw [e] at b; omega, c⟩

theorem impl_refuting_eq {l : ProbT} {S : List StepT} (hs : smallC l) (hS : smallSt S) :
  ∃ r, impl_refuting l S = some r ∧ ((∃ q : DbT × Nat, refuteB l S = some q ∧ r = (true, (q.2 : Int), q.1.1, q.1.2, 0)) ∨ (refuteB l S = none ∧ ((r.1 = true ∧ r.2.1 = -1) ∨ (r.1 = false ∧ r.2.2.2.2 = -1)))) := by
 obtain ⟨r, e, h⟩ := impl_run_eq hs hS
 unfold impl_refuting
 rw [e, bind_s]
 rcases h with ⟨h1, h2, h3, h4⟩ | ⟨h1, h2, h3⟩
 ·rw [h1, ctt, h2, cdec_neg (by decide), impl_findF (start_run hs h3 h4).1]
  cases hf : findF (r.2.2.1, r.2.2.2.1) with
  | some i => exact ⟨_, rfl, Or.inl ⟨((r.2.2.1, r.2.2.2.1), i), refute_iff.2 ⟨h3, h4, hf⟩, rfl⟩⟩
  | none =>
   refine ⟨_, rfl, Or.inr ⟨?_, Or.inl ⟨rfl, rfl⟩⟩⟩
   cases hq : refuteB l S with
   | none => rfl
   | some q =>
    obtain ⟨_, b, c⟩ := refute_iff.1 hq
    rw [h4] at b
    injection b with b
    rw [← b, hf] at c
    cases c
 ·rw [h1, cff, cdec_pos h2]
  refine ⟨_, rfl, Or.inr ⟨?_, Or.inr ⟨rfl, rfl⟩⟩⟩
  cases hq : refuteB l S with
  | none => rfl
  | some q =>
   obtain ⟨a, b, c⟩ := refute_iff.1 hq
   exact absurd ⟨a, _, b⟩ h3

theorem spec_CheckRefutation_eq {l : ProbT} {S : List StepT} (hs : smallC l) (hS : smallSt S) : spec_CheckRefutation l S = some (refuteB l S).isSome := by
 unfold spec_CheckRefutation spec_l4Fits
 rw [spec_ProblemValid_eq l hs, bind_s]
 have hno : ¬ (probB l = true ∧ S.length ≤ 1000) → (refuteB l S).isSome = false := fun h => by
  unfold refuteB
  rw [if_neg h]
  rfl
 cases hp : probB l with
 | false =>
  rw [cff, bind_s, hno (by rw [hp]; exact fun h => by cases h.1)]
  rfl
 | true =>
  rw [ctt, bind_s]
  by_cases hn : S.length ≤ 1000
  ·rw [decide_eq_true (by omega), cnt]
   obtain ⟨hg, h4⟩ := prob_good hs hp
   obtain ⟨r, e, h⟩ := spec_run_eq hg h4 hS hn
   rw [e, bind_s]
   rcases h with ⟨h1, h2⟩ | ⟨h1, h2⟩
   ·rw [h1, cdec_pos (by decide), spec_findF (start_run hs ⟨hp, hn⟩ h2).1, bind_s]
    unfold refuteB
    rw [if_pos ⟨hp, hn⟩, h2, bind_s]
    cases findF r.2 with
    | none => rfl
    | some i =>
     show some (decide ((0 : Int) ≤ (i : Int))) = _
     rw [decide_eq_true (by omega)]
     rfl
   ·rw [cdec_neg (by omega)]
    unfold refuteB
    rw [if_pos ⟨hp, hn⟩, h2]
    rfl
  ·rw [decide_eq_false (by omega), cnf, hno (fun h => hn h.2)]

theorem trace_ref {L cs : ProbT} {by_ : List StepT} (ht : Trace L cs by_) : ∀ k, k < cs.length → RefOk (by_.getD k zS) (L.length + k) := fun k hk h7 h6 => by
 obtain ⟨a0, b0⟩ := ht.range k hk h7 h6
 have hf := (ht.refs k hk).2
 have ha : refsB (by_.getD k zS) (by_.getD k zS).2.1.toNat := by
  unfold refsB
  rw [if_neg h7, if_neg h6]
  exact Or.inl (by omega)
 refine ⟨a0, hf _ ha h7, fun k1 => ⟨b0 k1, hf _ ?_ h7⟩⟩
 have := b0 k1
 unfold refsB
 rw [if_neg h7, if_neg h6]
 exact Or.inr ⟨k1, by omega⟩

theorem fill_set {k : Nat} {out : List Bool} (h : k < out.length) : (List.replicate k true ++ out.drop k).set k true = List.replicate (k + 1) true ++ out.drop (k + 1) := by
 rw [List.set_append, if_neg (by rw [List.length_replicate]; omega), List.length_replicate, Nat.sub_self, List.drop_eq_getElem_cons h, List.set_cons_zero, List.replicate_succ', List.append_assoc]
 rfl

theorem loop_pick {β R : Type} {f : Int × List β → Option ((Int × List β) ⊕ R)} (n : Nat) (p : Nat → Bool) (g : Nat → β) (fin : R)
  (h : ∀ (i : Nat) (out : List β), i < n → out.length ≤ n → f ((i : Int), out) = some (.inl ((i : Int) + 1, bif p i then out ++ [g i] else out)))
  (hn : f ((n : Int), ((List.range n).filter p).map g) = some (.inr fin)) : loop f ((0 : Int), []) = some fin := by
 refine loop_fn (fun s : Int × List β => ∃ i : Nat, s.1 = i ∧ i ≤ n ∧ s.2 = ((List.range i).filter p).map g) (fun s => n - s.1.toNat) (fun _ => fin) ?_ _ ⟨0, rfl, Nat.zero_le _, rfl⟩
 rintro ⟨i, out⟩ ⟨j, hj, hl, ho⟩
 dsimp only at hj ho
 subst hj
 rcases Nat.lt_or_ge j n with q | q
 ·left
  have hlen : out.length ≤ n := by
   rw [ho, List.length_map]
   have := List.length_filter_le p (List.range j)
   rw [List.length_range] at this
   omega
  rw [h j out q hlen]
  refine ⟨_, rfl, ⟨j + 1, by simp, by omega, ?_⟩, by (try dsimp only) <;> omega, rfl⟩
  dsimp only
  rw [List.range_succ, List.filter_append, List.map_append, ho]
  cases hp : p j with
  | true => rw [ctt, List.filter_cons_of_pos hp]; rfl
  | false => rw [cff, List.filter_cons_of_neg (by rw [hp]; decide)]; exact (List.append_nil _).symm
 ·right
  have : j = n := by omega
  rw [ho, this]
  exact hn

theorem byF_at (S : List StepT) : byF S = ((List.range S.length).filter (fun i => decide ((S.getD i zS).1 ≠ 8))).map (fun i => S.getD i zS) := by
 have e : (List.range S.length).map (fun i => S.getD i zS) = S := by
  refine List.ext_getElem (by rw [List.length_map, List.length_range]) (fun i h1 h2 => ?_)
  rw [List.getElem_map, List.getElem_range, List.getD_eq_getElem?_getD, List.getElem?_eq_getElem h2]
  rfl
 have := List.filter_map (f := fun i => S.getD i zS) (p := fun s : StepT => decide (s.1 ≠ 8)) (l := List.range S.length)
 rw [e] at this
 exact this

theorem used_pick {need : List Bool} {n : Nat} : (idsB n).filter (fun i => need.getD i.toNat false) = ((List.range n).filter (fun i => need.getD i false)).map (fun (i : Nat) => (i : Int)) := by
 unfold idsB
 rw [List.filter_map]
 rfl

theorem impl_refs_1 {k : Int} {n : Int} {b : Bool} (h : impl_refers k = some (n, b)) (hk : 1 ≤ k ∧ k ≤ 8) : (k = 1 → n = 2) ∧ (k = 2 ∨ k = 3 ∨ k = 4 ∨ k = 5 ∨ k = 8 → n = 1) ∧ (k = 6 ∨ k = 7 → n = 0) := by
 obtain ⟨n', b', e, q⟩ := refers_eq k
 rw [h] at e
 injection e with e
 injection e with e1 e2
 subst e1
 exact ⟨by omega, by omega, by omega⟩

theorem impl_need_step {l cs : ProbT} {by_ : List StepT} (hn : l.length + cs.length ≤ 900000) (ht : Trace l cs by_) (hk : ∀ k, k < cs.length → 1 ≤ (by_.getD k zS).1 ∧ (by_.getD k zS).1 ≤ 8) {m : Nat} (hm : m < cs.length) {out : List Bool} (ho : out.length = l.length + cs.length) :
  impl_needed_l1 l by_ (((l.length + m : Nat) : Int), out) = some (.inl (((l.length + m : Nat) : Int) - 1, bif out.getD (l.length + m) false then needS (by_.getD m zS) (l.length + m) out else out)) := by
 have hlen := ht.len
 obtain ⟨n, b, e, _⟩ := refers_eq (by_.getD m zS).1
 obtain ⟨n1, n2, n3⟩ := impl_refs_1 e (hk m hm)
 have hkm := hk m hm
 have h8 := (ht.refs m hm).1
 have hr := trace_ref ht m hm
 have e : impl_refers (by_.getD m (0, (0, (0, ([], 0))))).1 = some (n, b) := e
 unfold impl_needed_l1
 dsimp only
 rw [cdec_pos (by omega), rq_i64 (by omega) (by omega), rq_pos ⟨by omega, by omega⟩, show (((l.length + m : Nat) : Int) - (l.length : Int)).toNat = m by omega, e, bind_s, rq_pos ⟨by omega, by omega⟩, Int.toNat_natCast]
 cases hg : out.getD (l.length + m) false with
 | false => rw [cnf, rq_i64 (by omega) (by omega)]; rfl
 | true =>
  rw [cnt]
  show _ = some (Sum.inl (((l.length + m : Nat) : Int) - 1, needS (by_.getD m zS) (l.length + m) out))
  change cond ((by_.getD m zS).1 == (7 : Int)) _ _ = _
  unfold needS
  by_cases k7 : (by_.getD m zS).1 = 7
  ·rw [cbeq_pos k7, if_pos k7]
   refine loop_fn (fun s : Int × List Bool => ∃ k : Nat, s.1 = k ∧ k ≤ l.length + m ∧ s.2 = List.replicate k true ++ out.drop k) (fun s => l.length + m - s.1.toNat) (fun _ => _) ?_ _ ⟨0, rfl, Nat.zero_le _, rfl⟩
   rintro ⟨i8, i9⟩ ⟨k, hk1, hk2, hk3⟩
   dsimp only at hk1 hk3
   subst hk1
   have hl9 : i9.length = out.length := by
    rw [hk3, List.length_append, List.length_replicate, List.length_drop]; omega
   unfold impl_needed_l2
   dsimp only
   by_cases q : k < l.length + m
   ·left
    rw [cdec_pos (by omega), rq_pos ⟨by omega, by omega⟩, rq_i64 (by omega) (by omega), Int.toNat_natCast]
    exact ⟨_, rfl, ⟨k + 1, by simp, by omega, by dsimp only; rw [hk3, fill_set (by omega)]⟩, by (try dsimp only) <;> omega, rfl⟩
   ·right
    have : k = l.length + m := by omega
    subst this
    rw [cdec_neg (by omega), rq_i64 (by omega) (by omega), hk3]
  rw [cbeq_neg k7, if_neg k7]
  by_cases k6 : (by_.getD m zS).1 = 6
  ·rw [if_pos k6, cdec_neg (by omega), rq_i64 (by omega) (by omega)]
  rw [if_neg k6, cdec_pos (by omega)]
  obtain ⟨a0, a1, hb⟩ := hr k7 k6
  have a0' : 0 ≤ (by_.getD m (0, (0, (0, ([], 0))))).2.1 := a0
  have a1' : (by_.getD m (0, (0, (0, ([], 0))))).2.1.toNat < l.length + m := a1
  rw [rq_pos ⟨a0', by omega⟩]
  unfold impl_needed_j2
  rw [show (((l.length + m : Nat) : Int) - (l.length : Int)).toNat = m by omega]
  by_cases k1 : (by_.getD m zS).1 = 1
  ·obtain ⟨b0, b1⟩ := hb k1
   have b0' : 0 ≤ (by_.getD m (0, (0, (0, ([], 0))))).2.2.1 := b0
   have b1' : (by_.getD m (0, (0, (0, ([], 0))))).2.2.1.toNat < l.length + m := b1
   rw [cdec_pos (by omega), if_pos k1, rq_pos ⟨b0', by rw [List.length_set]; omega⟩, rq_i64 (by omega) (by omega)]
   rfl
  ·rw [cdec_neg (by omega), if_neg k1, rq_i64 (by omega) (by omega)]
   rfl

theorem spec_need_step {s : StepT} {i : Nat} {out : List Bool} (hi : i ≤ out.length) (h9 : out.length ≤ 900000) (hk : 1 ≤ s.1 ∧ s.1 ≤ 8) (h8 : s.1 ≠ 8) (hr : RefOk s i) : spec_l4Needs s i out = some (needS s i out) := by
 unfold spec_l4Needs needS
 by_cases k7 : s.1 = 7
 ·rw [cbeq_neg (by omega), cbeq_pos k7, if_pos k7]
  refine loop_fn (fun s : Int × List Bool => ∃ k : Nat, s.1 = k ∧ k ≤ i ∧ s.2 = List.replicate k true ++ out.drop k) (fun s => i - s.1.toNat) (fun _ => _) ?_ _ ⟨0, rfl, Nat.zero_le _, rfl⟩
  rintro ⟨i8, i9⟩ ⟨k, hk1, hk2, hk3⟩
  dsimp only at hk1 hk3
  subst hk1
  have hl9 : i9.length = out.length := by
   rw [hk3, List.length_append, List.length_replicate, List.length_drop]; omega
  unfold spec_l4Needs_l1
  dsimp only
  by_cases q : k < i
  ·left
   rw [cdec_pos (by omega), rq_pos ⟨by omega, by omega⟩, rq_i64 (by omega) (by omega), Int.toNat_natCast]
   exact ⟨_, rfl, ⟨k + 1, by simp, by omega, by dsimp only; rw [hk3, fill_set (by omega)]⟩, by (try dsimp only) <;> omega, rfl⟩
  ·right
   have : k = i := by omega
   subst this
   rw [cdec_neg (by omega), hk3]
 rw [if_neg k7]
 by_cases k6 : s.1 = 6
 ·rw [if_pos k6, cbeq_neg (by omega), cbeq_neg (by omega), cbeq_neg (by omega), cbeq_neg (by omega), cbeq_neg (by omega), cbeq_neg (by omega)]
 rw [if_neg k6]
 obtain ⟨a0, a1, hb⟩ := hr k7 k6
 by_cases k1 : s.1 = 1
 ·obtain ⟨b0, b1⟩ := hb k1
  rw [cbeq_pos k1, if_pos k1, rq_pos ⟨a0, by omega⟩, rq_pos ⟨b0, by rw [List.length_set]; omega⟩]
 rw [cbeq_neg k1, if_neg k1, cbeq_neg k7]
 by_cases k2 : s.1 = 2
 ·rw [cbeq_pos k2, rq_pos ⟨a0, by omega⟩]
 rw [cbeq_neg k2]
 by_cases k3 : s.1 = 3
 ·rw [cbeq_pos k3, rq_pos ⟨a0, by omega⟩]
 rw [cbeq_neg k3]
 by_cases k4 : s.1 = 4
 ·rw [cbeq_pos k4, rq_pos ⟨a0, by omega⟩]
 rw [cbeq_neg k4, cbeq_pos (by omega), rq_pos ⟨a0, by omega⟩]

theorem refute_all {l : ProbT} {S : List StepT} {q : DbT × Nat} (hs : smallC l) (h : refuteB l S = some q) : ∃ cs, q.1.1 = l ++ cs ∧ Trace l cs (byF S) ∧ l.length + cs.length ≤ 1400 ∧ l.length ≤ 400 ∧ S.length ≤ 1000 ∧ q.2 < q.1.1.length ∧ ∀ k, k < cs.length → 1 ≤ ((byF S).getD k zS).1 ∧ ((byF S).getD k zS).1 ≤ 8 := by
 obtain ⟨h1, h2, ⟨cs, e, ht⟩, h4, _⟩ := refute_sound hs h
 obtain ⟨hp, hr, hf⟩ := refute_iff.1 h
 obtain ⟨a, b, c⟩ := start_run hs hp hr
 have hl : q.1.1.length = l.length + cs.length := by rw [e, List.length_append]
 refine ⟨cs, e, ht, by omega, (prob_good hs h1).2, h2, h4, fun k hk => parts_kind (c _ ?_)⟩
 have := getD_mem (l := byF S) (i := k) (d := zS) (by have := ht.len; omega)
 exact (List.mem_filter.1 this).1

theorem impl_needed_eq {l : ProbT} {S : List StepT} (hs : smallC l) (hS : smallSt S) : impl_needed l S = some (match refuteB l S with | some q => (true, needR l S q) | none => (false, [])) := by
 obtain ⟨r, e, h⟩ := impl_refuting_eq hs hS
 unfold impl_needed
 rw [e, bind_s]
 rcases h with ⟨q, hq, er⟩ | ⟨hq, ⟨h1, h2⟩ | ⟨h1, h2⟩⟩
 ·obtain ⟨cs, e1, ht, hn, h4, hS2, hq2, hkind⟩ := refute_all hs hq
  have hlen : q.1.1.length = l.length + cs.length := by rw [e1, List.length_append]
  rw [hq, er, ctt, cdec_neg (by dsimp only; omega)]
  refine loop_pick S.length (fun i => decide ((S.getD i zS).1 ≠ 8)) (fun i => S.getD i zS) _ (fun i out hi ho => ?_) ?_
  ·unfold impl_needed_l3
   dsimp only
   rw [cdec_pos (by omega), rq_pos ⟨by omega, by omega⟩, Int.toNat_natCast]
   change cond ((S.getD i zS).1 != (8 : Int)) _ _ = _
   by_cases q8 : (S.getD i zS).1 = 8
   ·rw [show ((S.getD i zS).1 != (8 : Int)) = false by rw [q8]; rfl, cff, rq_i64 (by omega) (by omega), decide_eq_false (by omega)]
    rfl
   ·rw [show ((S.getD i zS).1 != (8 : Int)) = true by rw [bne_iff_ne]; exact q8, ctt, rq_pos (by simp only [bound, List.length_cons, List.length_nil]; omega), rq_i64 (by omega) (by omega), decide_eq_true q8]
    rfl
  ·rw [← byF_at]
   unfold impl_needed_l3
   dsimp only
   rw [cdec_neg (by omega)]
   unfold impl_needed_j1
   dsimp only
   rw [rq_pos ⟨by omega, by simp only [bound]; omega, rfl⟩, Int.toNat_natCast, rq_pos ⟨by omega, by rw [List.length_replicate]; omega⟩, rq_i64 (by omega) (by omega), Int.toNat_natCast]
   have hl : loop (impl_needed_l1 l (byF S)) ((q.1.1.length : Int) - 1, (List.replicate q.1.1.length false).set q.2 true) = some (true, needR l S q) := by
    have hsub : q.1.1.length - l.length = cs.length := by omega
    unfold needR
    rw [hsub]
    refine loop_fn (fun s : Int × List Bool => ∃ m : Nat, s.1 = (l.length : Int) + m - 1 ∧ m ≤ cs.length ∧ s.2.length = l.length + cs.length ∧ needN l.length (byF S) m s.2 = needN l.length (byF S) cs.length ((List.replicate q.1.1.length false).set q.2 true)) (fun s => (s.1 + 1).toNat) (fun _ => _) ?_ _ ⟨cs.length, by dsimp only; omega, Nat.le_refl _, by dsimp only; rw [List.length_set, List.length_replicate]; exact hlen, rfl⟩
    rintro ⟨i3, out⟩ ⟨m, hm1, hm2, hm3, hm4⟩
    dsimp only at hm1 hm3 hm4
    cases m with
    | zero =>
     right
     unfold impl_needed_l1
     dsimp only
     rw [cdec_neg (by omega), ← hm4]
     rfl
    | succ m =>
     left
     have : i3 = ((l.length + m : Nat) : Int) := by omega
     subst this
     have hlo : (bif out.getD (l.length + m) false then needS ((byF S).getD m zS) (l.length + m) out else out).length = out.length := by
      cases out.getD (l.length + m) false with
      | true => rw [ctt]; exact needS_len (by omega)
      | false => rw [cff]
     refine ⟨_, impl_need_step (by omega) ht hkind (by omega) hm3, ⟨m, by dsimp only; omega, by omega, by dsimp only; rw [hlo]; exact hm3, hm4⟩, by dsimp only; omega, rfl⟩
   rw [hl]
   rfl
 ·rw [hq, h1, ctt, h2, cdec_pos (by decide)]
 ·rw [hq, h1, cff, h2, cdec_pos (by decide)]

theorem need_len {l : ProbT} {S : List StepT} {q : DbT × Nat} (hs : smallC l) (h : refuteB l S = some q) : (needR l S q).length = q.1.1.length := by
 obtain ⟨cs, e1, ht, hn, h4, hS2, hq2, hkind⟩ := refute_all hs h
 have hlen : q.1.1.length = l.length + cs.length := by rw [e1, List.length_append]
 have hsub : q.1.1.length - l.length = cs.length := by omega
 unfold needR
 rw [hsub]
 have := (needN_spec (n := l.length) (by_ := byF S) cs.length ((List.replicate q.1.1.length false).set q.2 true) (by rw [List.length_set, List.length_replicate]; omega) (trace_ref ht)).1
 rw [this, List.length_set, List.length_replicate]

theorem impl_UsedInputs_eq {l : ProbT} {S : List StepT} (hs : smallC l) (hS : smallSt S) : impl_UsedInputs l S = some (usedB l S) := by
 unfold impl_UsedInputs usedB
 rw [impl_needed_eq hs hS, bind_s]
 cases hq : refuteB l S with
 | none => rfl
 | some q =>
  obtain ⟨cs, e1, ht, hn, h4, hS2, hq2, hkind⟩ := refute_all hs hq
  have hlen : q.1.1.length = l.length + cs.length := by rw [e1, List.length_append]
  have hnl := need_len hs hq
  dsimp only
  rw [cnt, used_pick]
  refine loop_pick l.length (fun i => (needR l S q).getD i false) (fun (i : Nat) => (i : Int)) _ (fun i out hi ho => ?_) ?_
  ·unfold impl_UsedInputs_l1
   dsimp only
   rw [cdec_pos (by omega), rq_pos ⟨by omega, by omega⟩, Int.toNat_natCast]
   cases (needR l S q).getD i false with
   | true => rw [ctt, rq_pos (by simp only [bound, List.length_cons, List.length_nil]; omega), rq_i64 (by omega) (by omega)]; rfl
   | false => rw [cff, rq_i64 (by omega) (by omega)]; rfl
  ·unfold impl_UsedInputs_l1
   dsimp only
   rw [cdec_neg (by omega)]

theorem spec_UsedInputs_eq {l : ProbT} {S : List StepT} (hs : smallC l) (hS : smallSt S) : spec_UsedInputs l S = some (usedB l S) := by
 unfold spec_UsedInputs usedB
 rw [spec_CheckRefutation_eq hs hS, bind_s]
 cases hq : refuteB l S with
 | none => rfl
 | some q =>
  obtain ⟨cs, e1, ht, hn, h4, hS2, hq2, hkind⟩ := refute_all hs hq
  obtain ⟨hp, hrun, hfind⟩ := refute_iff.1 hq
  have hlen : q.1.1.length = l.length + cs.length := by rw [e1, List.length_append]
  have hnl := need_len hs hq
  have hby := ht.len
  obtain ⟨hg, _⟩ := prob_good hs hp.1
  obtain ⟨r, er, h⟩ := spec_run_eq hg h4 hS hS2
  have hr2 : r.2 = q.1 := by
   rcases h with ⟨_, h2⟩ | ⟨_, h2⟩
   ·rw [hrun] at h2; injection h2 with h2; exact h2.symm
   ·rw [hrun] at h2; cases h2
  show (spec_l4Run l S).bind _ = _
  rw [er, bind_s]
  dsimp only
  rw [hr2, rq_pos ⟨by omega, by simp only [bound]; omega, rfl⟩, spec_findF (start_run hs hp hrun).1, bind_s, hfind]
  dsimp only
  rw [Int.toNat_natCast, rq_pos ⟨by omega, by rw [List.length_replicate]; omega⟩]
  refine loop_pick S.length (fun i => decide ((S.getD i zS).1 ≠ 8)) (fun (i : Nat) => (i : Int)) _ (fun i out hi ho => ?_) ?_
  ·unfold spec_UsedInputs_l3
   dsimp only
   rw [cdec_pos (by omega), rq_pos ⟨by omega, by omega⟩, Int.toNat_natCast]
   change cond ((S.getD i zS).1 != (8 : Int)) _ _ = _
   by_cases q8 : (S.getD i zS).1 = 8
   ·rw [show ((S.getD i zS).1 != (8 : Int)) = false by rw [q8]; rfl, cff, rq_i64 (by omega) (by omega), decide_eq_false (by omega)]
    rfl
   ·rw [show ((S.getD i zS).1 != (8 : Int)) = true by rw [bne_iff_ne]; exact q8, ctt, rq_pos (by simp only [bound, List.length_cons, List.length_nil]; omega), rq_i64 (by omega) (by omega), decide_eq_true q8]
    rfl
  ·have hba := byF_at S
   generalize hix : (List.range S.length).filter (fun i => decide ((S.getD i zS).1 ≠ 8)) = ix at hba ⊢
   have hixl : ix.length = cs.length := by rw [hby, hba, List.length_map]
   have hat : ∀ m, m < cs.length → (ix.map (fun (i : Nat) => (i : Int))).getD m 0 = ((ix.getD m 0 : Nat) : Int) ∧ ix.getD m 0 < S.length ∧ (byF S).getD m zS = S.getD (ix.getD m 0) zS := fun m hm => by
    have h1 : m < ix.length := by omega
    refine ⟨?_, ?_, ?_⟩
    ·rw [List.getD_eq_getElem?_getD, List.getD_eq_getElem?_getD, List.getElem?_map, List.getElem?_eq_getElem h1]
     rfl
    ·have hx := getD_mem (l := ix) (i := m) (d := 0) h1
     generalize ix.getD m 0 = x at hx
     rw [← hix] at hx
     exact List.mem_range.1 (List.mem_filter.1 hx).1
    ·rw [hba, List.getD_eq_getElem?_getD, List.getD_eq_getElem?_getD (l := ix), List.getElem?_map, List.getElem?_eq_getElem h1]
     rfl
   unfold spec_UsedInputs_l3
   dsimp only
   rw [cdec_neg (by omega)]
   unfold spec_UsedInputs_j1
   rw [hr2, rq_i64 (by omega) (by omega), Int.toNat_natCast, Int.toNat_natCast]
   have hfin : spec_UsedInputs_j2 l (needR l S q) = some (true, (idsB l.length).filter (fun i => (needR l S q).getD i.toNat false)) := by
    unfold spec_UsedInputs_j2
    rw [used_pick]
    refine loop_pick l.length (fun i => (needR l S q).getD i false) (fun (i : Nat) => (i : Int)) _ (fun i out hi ho => ?_) ?_
    ·unfold spec_UsedInputs_l1
     dsimp only
     rw [cdec_pos (by omega), rq_pos ⟨by omega, by omega⟩, Int.toNat_natCast]
     cases (needR l S q).getD i false with
     | true => rw [ctt, rq_pos (by simp only [bound, List.length_cons, List.length_nil]; omega), rq_i64 (by omega) (by omega)]; rfl
     | false => rw [cff, rq_i64 (by omega) (by omega)]; rfl
    ·unfold spec_UsedInputs_l1
     dsimp only
     rw [cdec_neg (by omega)]
   have hl : loop (spec_UsedInputs_l2 l S (ix.map (fun (i : Nat) => (i : Int)))) ((q.1.1.length : Int) - 1, (List.replicate q.1.1.length false).set q.2 true) = some (true, (idsB l.length).filter (fun i => (needR l S q).getD i.toNat false)) := by
    have hsub : q.1.1.length - l.length = cs.length := by omega
    refine loop_fn (fun s : Int × List Bool => ∃ m : Nat, s.1 = (l.length : Int) + m - 1 ∧ m ≤ cs.length ∧ s.2.length = l.length + cs.length ∧ needN l.length (byF S) m s.2 = needR l S q) (fun s => (s.1 + 1).toNat) (fun _ => _) ?_ _ ⟨cs.length, by dsimp only; omega, Nat.le_refl _, by dsimp only; rw [List.length_set, List.length_replicate]; exact hlen, by unfold needR; rw [hsub]⟩
    rintro ⟨i3, out⟩ ⟨m, hm1, hm2, hm3, hm4⟩
    dsimp only at hm1 hm3 hm4
    cases m with
    | zero =>
     right
     have hm4 : out = needR l S q := hm4
     unfold spec_UsedInputs_l2
     dsimp only
     rw [cdec_neg (by omega), hm4, hfin]
     rfl
    | succ m =>
     left
     have : i3 = ((l.length + m : Nat) : Int) := by omega
     subst this
     obtain ⟨t1, t2, t3⟩ := hat m (by omega)
     have hm4 : needN l.length (byF S) m (bif out.getD (l.length + m) false then needS ((byF S).getD m zS) (l.length + m) out else out) = needR l S q := hm4
     have hkm := hkind m (by omega)
     have h8 := (ht.refs m (by omega)).1
     have hrf := trace_ref ht m (by omega)
     rw [t3] at hm4 hkm h8 hrf
     unfold spec_UsedInputs_l2
     dsimp only
     rw [cdec_pos (by omega), rq_pos ⟨by omega, by omega⟩, Int.toNat_natCast]
     cases hgo : out.getD (l.length + m) false with
     | false =>
      rw [hgo, cff] at hm4
      rw [cff, rq_i64 (by omega) (by omega)]
      exact ⟨_, rfl, ⟨m, by dsimp only; omega, by omega, hm3, hm4⟩, by dsimp only; omega, rfl⟩
     | true =>
      rw [hgo, ctt] at hm4
      have hsp : spec_l4Needs (S.getD (ix.getD m 0) (0, (0, (0, ([], 0))))) ((l.length + m : Nat) : Int) out = some (needS (S.getD (ix.getD m 0) zS) (l.length + m) out) := spec_need_step (by omega) (by omega) hkm h8 hrf
      rw [ctt, rq_i64 (by omega) (by omega), rq_pos ⟨by omega, by rw [List.length_map]; omega⟩, show (((l.length + m : Nat) : Int) - (l.length : Int)).toNat = m by omega, t1, rq_pos ⟨by omega, by omega⟩, Int.toNat_natCast, hsp, bind_s, rq_i64 (by omega) (by omega)]
      exact ⟨_, rfl, ⟨m, by dsimp only; omega, by omega, by dsimp only; rw [needS_len (by omega)]; exact hm3, hm4⟩, by dsimp only; omega, rfl⟩
   rw [hl]
   rfl

end Go.AE.Y
namespace Go.AE.Y
open Go Go.AE
set_option maxHeartbeats 400000

theorem szConstraintS_up (a : List (List (Int × Int) × Int)) : ∀ r, laws_szConstraintS a 1048576 = some r → (∀ x ∈ a, x.1.length ≤ maxLen) → a.length ≤ maxLen → r ≤ 1048576 := by
 intro r hr hx ha
 simp only [maxLen] at ha
 have key : ∃ r, laws_szConstraintS a 1048576 = some r ∧ r ≤ 1048576 := by
  unfold laws_szConstraintS
  rw [rq_i64 (by omega) (by omega)]
  by_cases h2 : 1048576 - (a.length : Int) < 0
  ·exact ⟨-1, by rw [cdec_pos h2], by omega⟩
  ·rw [cdec_neg h2]
   refine loop_ex (fun s : Int × Int => ∃ i : Nat, s.2 = i ∧ i ≤ a.length ∧ 0 ≤ s.1 ∧ s.1 ≤ 1048576) (fun s => a.length - s.2.toNat) (fun r => r ≤ 1048576) ?_ _ ⟨0, rfl, Nat.zero_le _, by dsimp only; omega, by dsimp only; omega⟩
   rintro ⟨left, s⟩ ⟨i, rfl, hi, hl0, hl1⟩
   dsimp only at hl0 hl1 ⊢
   unfold laws_szConstraintS_l1
   rcases Nat.lt_or_ge i a.length with h3 | h3
   ·obtain ⟨r, hr1, hr2, hr3⟩ := szTermS_ex (a.getD i ([], 0)).1 left hl0 hl1 (hx _ (getD_mem h3))
    simp (disch := omega) only [cdec_pos, rq_pos, Int.toNat_natCast]
    unfold laws_szConstraint
    rw [hr1]
    simp only [Option.bind_some]
    by_cases hr : r < 0
    ·right
     rw [cdec_pos hr]
     exact ⟨-1, rfl, by omega⟩
    ·left
     rw [cdec_neg hr]
     simp (disch := omega) only [Option.bind_some, cdec_neg, rq_i64]
     exact ⟨_, rfl, ⟨i + 1, by simp, by omega, by dsimp only; omega, by dsimp only; omega⟩, by dsimp only; omega⟩
   ·right
    simp (disch := omega) only [cdec_neg]
    exact ⟨_, rfl, by omega⟩
 obtain ⟨r', e, h⟩ := key
 rw [hr] at e
 injection e with e
 omega

theorem usedB_len {l : ProbT} {S : List StepT} (hs : smallC l) : (usedB l S).2.length ≤ 400 := by
 cases hq : refuteB l S with
 | none =>
  have e : usedB l S = (false, []) := by unfold usedB; rw [hq]
  rw [e]
  exact Nat.zero_le _
 | some q =>
  obtain ⟨_, _, k3⟩ := used_keep hq
  obtain ⟨hp, _, _⟩ := refute_iff.1 hq
  have := (prob_good hs hp.1).2
  omega

theorem law_FnExactUsedInputs (a : List (List (Int × Int) × Int)) (b : List StepT) (h : okD (.sl (.pair (.sl (.pair (.int .i64) (.int .i64))) (.int .i64))) a) (h' : okD (.sl tyStep) b) : laws_FnExactUsedInputs a b = some true := by
 unfold laws_FnExactUsedInputs
 obtain ⟨r, hr, hr2⟩ := szConstraintS_ex a h
 have hr3 := szConstraintS_up a r hr (fun x hx => (h.2 x hx).1.1) h.1
 rw [hr, bind_s]
 by_cases h1 : r < 0
 ·rw [cdec_pos h1]
 rw [cdec_neg h1]
 have hs : smallC a := hr2.resolve_left h1
 obtain ⟨r2, e2, g1, g2⟩ := szStepS_ex b r (by omega) (by omega) h'.1 (fun x hx => (h'.2 x hx).2.2.2.1.1)
 rw [e2, bind_s]
 by_cases h2 : r2 < 0
 ·rw [cdec_pos h2]
 rw [cdec_neg h2]
 have hb : smallSL b := g2 (by omega)
 have hS : smallSt b := hb.2
 have hl := usedB_len (S := b) hs
 obtain ⟨m1, q1, q2, q2'⟩ := markConOk a hs
 obtain ⟨m2, q4, _, _, q5, q6⟩ := markStepS_held b m1.1 ⟨by omega, by omega⟩ hb
 obtain ⟨m3, p1, p2, p3⟩ := markHeldInt (usedB a b).2 (by omega)
 rw [toConstraintS_eq a hs, bind_s, toStepS_eq b hb, bind_s, spec_UsedInputs_eq hs hS, bind_s, bind_s, bind_s, impl_UsedInputs_eq hs hS, bind_s, eqIntS_self _ (by omega), bind_s, cnt, bne_self_eq_false, cff, bind_s, eqConstraintS_self a hs, bind_s, cnt, bind_s, eqStepS_self b hb, bind_s, cnt, q1, bind_s, q4, bind_s, cdec_neg (by omega), bind_s, cnt, cff, p1, bind_s, p3, bind_s, cdec_neg (by omega), bne_self_eq_false, cff, bind_s, bind_s, impl_UsedInputs_eq hs hS, bind_s, eqIntS_self _ (by omega), bind_s, cnt, bne_self_eq_false, cff, bind_s, cdec_neg (by omega), bne_self_eq_false, cff]

end Go.AE.Y
