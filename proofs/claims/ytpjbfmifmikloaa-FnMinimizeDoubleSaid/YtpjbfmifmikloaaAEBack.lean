/-
  What a callee gives back, as the caller names it.
-/
import Derived.Test.YtpjbfmifmikloaaAECall
namespace Go.AE
open Go Go.RowKit

section
variable {P : Program} {C : Cfg} {Γ : Ctx} {val val' val'' : Nat → Value} {fp fp' fp'' : Nat → List Nat} {ρ : Env} {st st' st'' : St} {a : Act} {w w' w'' : World} {o : Oper} {k : AV → St → Prop} {K : Act → World → Prop} {Q : Exit → Act → World → Prop}

def newName (ns : List Nat) (d i : Nat) : Prop := ns.length ≤ i ∧ back ns d i = (d + 1) * 1000 + i

theorem back_new {ns : List Nat} {d i : Nat} (h : ns.length ≤ i) : back ns d i = (d + 1) * 1000 + i := by
  unfold back
  rw [List.getElem?_eq_none h]

theorem back_old {ns : List Nat} {d i x : Nat} (h : ns[i]? = some x) : back ns d i = x := by
  unfold back
  rw [h]

theorem backOld_spec {ns : List Nat} {d : Nat} {sc : St} : ∀ {l : List Nat} {j : Nat} {st st1 : St}, backOld ns d sc st j l = some st1 → l.Nodup → (∀ x ∈ l, ∃ o, lk st x = some o) →
    (∀ i x, l[i]? = some x → ∃ o, lk sc (j + i) = some o ∧ lk st1 x = some (backO ns d o)) ∧ (∀ x, x ∉ l → lk st1 x = lk st x)
  | [], j, st, st1, h, _, _ => by
    simp only [backOld, Option.some.injEq] at h
    subst h
    exact ⟨fun i x h => by simp at h, fun _ _ => rfl⟩
  | y :: r, j, st, st1, h, hnd, hin => by
    unfold backOld at h
    split at h
    · rename_i o ho
      obtain ⟨hy, hr⟩ := List.nodup_cons.1 hnd
      have hin' : ∀ x ∈ r, ∃ o', lk (sput st y (backO ns d o)) x = some o' := fun x hx => by
        rw [lk_sput, if_neg (fun (e : x = y) => hy (by subst e; exact hx))]
        exact hin x (by simp [hx])
      obtain ⟨h1, h2⟩ := backOld_spec h hr hin'
      refine ⟨fun i x hi => ?_, fun x hx => ?_⟩
      · cases i with
        | zero =>
          simp only [List.getElem?_cons_zero, Option.some.injEq] at hi
          subst hi
          refine ⟨o, ho, ?_⟩
          rw [h2 y hy, lk_sput, if_pos rfl]
          obtain ⟨o', ho'⟩ := hin y (by simp)
          rw [ho']; rfl
        | succ i =>
          obtain ⟨o', h3, h4⟩ := h1 i x (by simpa using hi)
          exact ⟨o', by rw [← h3]; congr 1; omega, h4⟩
      · rw [h2 x (fun hm => hx (by simp [hm])), lk_sput, if_neg (fun e => hx (by simp [e]))]
    · cases h

theorem backNew_spec {ns : List Nat} {d : Nat} : ∀ {sc st st1 : St}, backNew ns d st sc = some st1 →
    (∀ i o, ns.length ≤ i → lk sc i = some o → lk st (back ns d i) = none ∧ lk st1 (back ns d i) = some (backO ns d o)) ∧
    (∀ x o, lk st x = some o → lk st1 x = some o) ∧
    (∀ x o, lk st1 x = some o → lk st x = some o ∨ ∃ i o', ns.length ≤ i ∧ x = back ns d i ∧ lk sc i = some o' ∧ o = backO ns d o')
  | [], st, st1, h => by
    simp only [backNew, Option.some.injEq] at h
    subst h
    exact ⟨fun i o _ h => by simp [lk] at h, fun _ _ h => h, fun _ _ h => .inl h⟩
  | (i0, o0) :: r, st, st1, h => by
    unfold backNew at h
    split at h
    · rename_i hb
      have hlt := of_eq_true_blt hb
      obtain ⟨h1, h2, h3⟩ := backNew_spec h
      refine ⟨fun i o hi ho => ?_, h2, fun x o hx => ?_⟩
      · rw [lk_cons, if_neg (by omega)] at ho
        exact h1 i o hi ho
      · rcases h3 x o hx with h4 | ⟨i, o', q1, q2, q3, q4⟩
        · exact .inl h4
        · exact .inr ⟨i, o', q1, q2, by rw [lk_cons, if_neg (by omega)]; exact q3, q4⟩
    · rename_i hb
      have hle : ns.length ≤ i0 := by
        rcases Nat.lt_or_ge i0 ns.length with hlt | hge
        · exact absurd hb (by simp [Nat.blt_eq, hlt])
        · exact hge
      split at h
      · rename_i hn
        obtain ⟨h1, h2, h3⟩ := backNew_spec h
        have hself := h2 (back ns d i0) (backO ns d o0) (by rw [lk_cons, if_pos rfl])
        refine ⟨fun i o hi ho => ?_, fun x o hx => h2 x o ?_, fun x o hx => ?_⟩
        · rw [lk_cons] at ho
          by_cases e : i = i0
          · rw [if_pos e] at ho
            cases ho
            subst e
            exact ⟨hn, hself⟩
          · rw [if_neg e] at ho
            obtain ⟨q1, q2⟩ := h1 i o hi ho
            rw [lk_cons] at q1
            split at q1
            · cases q1
            · exact ⟨q1, q2⟩
        · rw [lk_cons, if_neg (fun e => by rw [e, hn] at hx; cases hx)]
          exact hx
        · rcases h3 x o hx with h4 | ⟨i, o', q1, q2, q3, q4⟩
          · rw [lk_cons] at h4
            split at h4
            · rename_i e
              cases h4
              exact .inr ⟨i0, o0, hle, e, by rw [lk_cons, if_pos rfl], rfl⟩
            · exact .inl h4
          · refine .inr ⟨i, o', q1, q2, ?_, q4⟩
            rw [lk_cons]
            by_cases e : i = i0
            · exfalso
              subst e
              have := (h1 i o' q1 q3).1
              rw [lk_cons, if_pos rfl] at this
              cases this
            · rw [if_neg e]; exact q3
      · cases h

theorem backSt_spec {ns : List Nat} {d : Nat} {sc : St} (h : backSt ns d st sc = some st'') (hnd : ns.Nodup) (hin : ∀ x ∈ ns, ∃ o, lk st x = some o) :
    (∀ i o, lk sc i = some o → lk st'' (back ns d i) = some (backO ns d o)) ∧
    (∀ i x, ns[i]? = some x → ∃ o, lk sc i = some o) ∧
    (∀ i o, ns.length ≤ i → lk sc i = some o → lk st (back ns d i) = none) ∧
    (∀ x, x ∉ ns → ∀ o, lk st x = some o → lk st'' x = some o) ∧
    (∀ x o, lk st'' x = some o → (x ∉ ns ∧ lk st x = some o) ∨ ∃ i o', x = back ns d i ∧ lk sc i = some o' ∧ o = backO ns d o') := by
  unfold backSt at h
  split at h
  · rename_i st1 h0
    obtain ⟨a1, a2⟩ := backOld_spec h0 hnd hin
    obtain ⟨b1, b2, b3⟩ := backNew_spec h
    have hnone : ∀ x, lk st1 x = none → lk st x = none := fun x hx => by
      by_cases hm : x ∈ ns
      · obtain ⟨i, hi⟩ := List.getElem?_of_mem hm
        obtain ⟨o, _, q⟩ := a1 i x hi
        rw [q] at hx; cases hx
      · rw [← a2 x hm]; exact hx
    refine ⟨fun i o ho => ?_, fun i x hi => ?_, fun i o hi ho => hnone _ (b1 i o hi ho).1, fun x hx o ho => b2 x o (by rw [a2 x hx]; exact ho), fun x o hx => ?_⟩
    · cases hi : ns[i]? with
      | none =>
        have hle : ns.length ≤ i := List.getElem?_eq_none_iff.1 hi
        exact (b1 i o hle ho).2
      | some x =>
        obtain ⟨o', q1, q2⟩ := a1 i x hi
        rw [Nat.zero_add] at q1
        rw [q1] at ho
        cases ho
        rw [back_old hi]
        exact b2 x _ q2
    · obtain ⟨o, q1, _⟩ := a1 i x hi
      exact ⟨o, by simpa using q1⟩
    · rcases b3 x o hx with q | ⟨i, o', _, q2, q3, q4⟩
      · by_cases hm : x ∈ ns
        · obtain ⟨i, hi⟩ := List.getElem?_of_mem hm
          obtain ⟨o', p1, p2⟩ := a1 i x hi
          rw [p2] at q
          cases q
          exact .inr ⟨i, o', (back_old hi).symm, by simpa using p1, rfl⟩
        · rw [a2 x hm] at q
          exact .inl ⟨hm, q⟩
      · exact .inr ⟨i, o', q2, q3, q4⟩
  · cases h

def valB (ns : List Nat) (d : Nat) (st : St) (val valc : Nat → Value) (x : Nat) : Value :=
  match posOf ns x with
  | some i => valc i
  | none => match lk st x with
    | some _ => val x
    | none => valc (x - (d + 1) * 1000)
def fpB (ns : List Nat) (d : Nat) (st : St) (fp fpc : Nat → List Nat) (x : Nat) : List Nat :=
  match posOf ns x with
  | some i => fpc i
  | none => match lk st x with
    | some _ => fp x
    | none => fpc (x - (d + 1) * 1000)

theorem posOf_at : ∀ {ns : List Nat} {i x : Nat}, ns.Nodup → ns[i]? = some x → posOf ns x = some i
  | y :: r, i, x, hnd, h => by
    obtain ⟨hy, hr⟩ := List.nodup_cons.1 hnd
    unfold posOf
    cases i with
    | zero =>
      simp only [List.getElem?_cons_zero, Option.some.injEq] at h
      subst h
      rw [Nat.beq_refl]
    | succ i =>
      have h' : r[i]? = some x := by simpa using h
      have hne : Nat.beq y x = false := by
        cases hb : Nat.beq y x with
        | false => rfl
        | true => exact absurd (beq_lk.1 hb ▸ List.mem_of_getElem? h') hy
      rw [hne]
      dsimp only
      rw [posOf_at hr h']

/-- All that is known when the callee has returned. -/
structure Back (Γ : Ctx) (val valc : Nat → Value) (fp fpc : Nat → List Nat) (ns : List Nat) (d n : Nat) (lent : Bool) (st sc st'' : St) (w w' : World) : Prop where
  caller : Objs Γ val fp st w
  nodup : ns.Nodup
  there : ∀ x ∈ ns, ∃ o, lk st x = some o
  callee : Objs ⟨w, away Γ st fp ns lent, Foot (lendSt ns st 0 ns) (fpOf ns fp), n⟩ valc fpc sc w'
  stays : Stays (valOf ns val) valc (lendSt ns st 0 ns) sc
  laid : backSt ns d st sc = some st''

variable {valc : Nat → Value} {fpc : Nat → List Nat} {ns : List Nat} {d n : Nat} {lent : Bool} {sc : St}

theorem Back.valB (b : Back Γ val valc fp fpc ns d n lent st sc st'' w w') {i : Nat} {o : Ob} (hi : lk sc i = some o) : valB ns d st val valc (back ns d i) = valc i ∧ fpB ns d st fp fpc (back ns d i) = fpc i := by
  cases hx : ns[i]? with
  | some x =>
    rw [back_old hx]
    simp only [AE.valB, fpB, posOf_at b.nodup hx, and_self]
  | none =>
    have hle : ns.length ≤ i := List.getElem?_eq_none_iff.1 hx
    have hn := (backSt_spec b.laid b.nodup b.there).2.2.1 i o hle hi
    have hp : posOf ns (back ns d i) = none := by
      cases hp : posOf ns (back ns d i) with
      | none => rfl
      | some j =>
        obtain ⟨o', ho'⟩ := b.there _ (List.mem_of_getElem? (posOf_spec hp))
        rw [ho'] at hn; cases hn
    simp only [AE.valB, fpB, hp, hn]
    rw [back_new hle, Nat.add_sub_cancel_left]
    exact ⟨rfl, rfl⟩

theorem valB_old {x : Nat} (hx : x ∉ ns) {o : Ob} (ho : lk st x = some o) : valB ns d st val valc x = val x := by
  have hp : posOf ns x = none := by
    cases hp : posOf ns x with
    | none => rfl
    | some j => exact absurd (List.mem_of_getElem? (posOf_spec hp)) hx
  simp only [valB, hp, ho]

theorem fpB_old {x : Nat} (hx : x ∉ ns) {o : Ob} (ho : lk st x = some o) : fpB ns d st fp fpc x = fp x := by
  have hp : posOf ns x = none := by
    cases hp : posOf ns x with
    | none => rfl
    | some j => exact absurd (List.mem_of_getElem? (posOf_spec hp)) hx
  simp only [fpB, hp, ho]

theorem backO_compat (o : Ob) : Compat o (backO ns d o) := by
  cases o with
  | sl e t l k => exact And.intro rfl (And.intro rfl rfl)
  | rc cs => trivial
  | dead => trivial

theorem fn_back (hb : ∀ i o, lk sc i = some o → lk st'' (back ns d i) = some (backO ns d o)) (hv : ∀ i o, lk sc i = some o → val'' (back ns d i) = valc i) :
    ∀ {cap : List Nat} {vs : List Value}, fnCaps valc sc cap vs → fnCaps val'' st'' (cap.map (back ns d)) vs
  | [], [], _ => trivial
  | _ :: _, _ :: _, ⟨⟨_, g, h1, h2, h3⟩, hr⟩ => ⟨⟨_, g, hb _ _ h1, (hv _ _ h1).trans h2, h3⟩, fn_back hb hv hr⟩
  | [], _ :: _, h => h.elim
  | _ :: _, [], h => h.elim

/-- A cell goes back: where it holds no read-only data, or where no row was lent. -/
theorem cv_back {N N' : Nat → Prop} (hb : ∀ i o, lk sc i = some o → lk st'' (back ns d i) = some (backO ns d o)) (hv : ∀ i o, lk sc i = some o → val'' (back ns d i) = valc i)
    {x : CV} {v : Value} (hk : hasImm [x] = false ∨ Kept w w N N') (h : CvRep w N valc sc x v) : CvRep w N' val'' st'' (backCV ns d x) v := by
  cases x with
  | int k n => exact h
  | bool b => exact h
  | kb b => exact h
  | str s => exact h
  | nil => exact h
  | skip => exact h
  | undef => trivial
  | imm t l =>
    rcases hk with hk | hk
    · cases hk
    · exact Imm.kept (t := .sl t) hk h
  | iptr t e c =>
    rcases hk with hk | hk
    · cases hk
    · obtain ⟨b, o, es, h1, h2, h3, h4, h5⟩ := h
      exact ⟨b, o, es, h1, fun hn => h2 (hk.more b h3 hn), h3, h4, h5.kept hk⟩
  | own i n =>
    obtain ⟨hs, o, h1, h2, hn⟩ := h
    refine And.intro hs ⟨_, hb i o h1, ?_, hn.compat (backO_compat o)⟩
    rcases h2 with rfl | h2
    · exact .inl rfl
    · exact .inr (h2.trans (hv i o h1).symm)
  | eptr i j c =>
    obtain ⟨hp, o, h1, h2⟩ := h
    refine And.intro hp ⟨_, hb i o h1, fun e t l kd ho => ?_⟩
    rw [hv i o h1]
    cases o with
    | sl e0 t0 l0 k0 => exact h2 e t l kd ho
    | rc _ => cases ho
    | dead => cases ho
  | view i c => trivial
  | ptr i c =>
    obtain ⟨_, g, h1, h2, h3⟩ := h
    exact ⟨_, g, hb i _ h1, (hv i _ h1).trans h2, h3⟩
  | fn f cap =>
    obtain ⟨vs, h1, h2⟩ := h
    exact ⟨vs, h1, fn_back hb hv h2⟩

theorem hasImm_cons {x : CV} {l : List CV} (h : hasImm (x :: l) = false) : hasImm [x] = false ∧ hasImm l = false := by
  cases x <;> first | exact ⟨rfl, h⟩ | cases h

theorem cvs_back {N N' : Nat → Prop} (hb : ∀ i o, lk sc i = some o → lk st'' (back ns d i) = some (backO ns d o)) (hv : ∀ i o, lk sc i = some o → val'' (back ns d i) = valc i) :
    ∀ {l : List CV} {vs : List Value}, (hasImm l = false ∨ Kept w w N N') → All2 (CvRep w N valc sc) l vs → All2 (CvRep w N' val'' st'') (l.map (backCV ns d)) vs
  | [], [], _, _ => trivial
  | _ :: _, _ :: _, hk, ⟨h1, h2⟩ => ⟨cv_back hb hv (hk.imp (fun e => (hasImm_cons e).1) id) h1, cvs_back hb hv (hk.imp (fun e => (hasImm_cons e).2) id) h2⟩
  | [], _ :: _, _, h => h.elim
  | _ :: _, [], _, h => h.elim

def hasImm1 : AV → Bool
  | .c x => hasImm [x]
  | .agg l => hasImm l
  | .tup _ => true

def backA1 (ns : List Nat) (d : Nat) : AV → AV
  | .c x => .c (backCV ns d x)
  | .agg l => .agg (l.map (backCV ns d))
  | .tup l => .tup l

theorem av1_back {N N' : Nat → Prop} (hb : ∀ i o, lk sc i = some o → lk st'' (back ns d i) = some (backO ns d o)) (hv : ∀ i o, lk sc i = some o → val'' (back ns d i) = valc i)
    {x : AV} {v : Value} (hk : hasImm1 x = false ∨ Kept w w N N') (h : Av1 w N valc sc x v) : Av1 w N' val'' st'' (backA1 ns d x) v := by
  cases x with
  | c x => exact cv_back hb hv hk h
  | agg l =>
    obtain ⟨vs, h1, h2⟩ := h
    exact ⟨vs, h1, cvs_back hb hv hk h2⟩
  | tup l => exact h.elim

theorem av1s_back {N N' : Nat → Prop} (hb : ∀ i o, lk sc i = some o → lk st'' (back ns d i) = some (backO ns d o)) (hv : ∀ i o, lk sc i = some o → val'' (back ns d i) = valc i) :
    ∀ {l : List AV} {vs : List Value}, (l.any hasImm1 = false ∨ Kept w w N N') → All2 (Av1 w N valc sc) l vs → All2 (Av1 w N' val'' st'') (l.map (backA1 ns d)) vs
  | [], [], _, _ => trivial
  | _ :: _, _ :: _, hk, ⟨h1, h2⟩ => ⟨av1_back hb hv (hk.imp (fun e => by simp only [List.any_cons, Bool.or_eq_false_iff] at e; exact e.1) id) h1, av1s_back hb hv (hk.imp (fun e => by simp only [List.any_cons, Bool.or_eq_false_iff] at e; exact e.2) id) h2⟩
  | [], _ :: _, _, h => h.elim
  | _ :: _, [], _, h => h.elim

theorem av_back {N N' : Nat → Prop} (hb : ∀ i o, lk sc i = some o → lk st'' (back ns d i) = some (backO ns d o)) (hv : ∀ i o, lk sc i = some o → val'' (back ns d i) = valc i)
    {x : AV} {v : Value} (hk : hasImmA x = false ∨ Kept w w N N') (h : AvRep w N valc sc x v) : AvRep w N' val'' st'' (backA ns d x) v := by
  cases x with
  | c x => exact cv_back hb hv hk h
  | agg l =>
    obtain ⟨vs, h1, h2⟩ := h
    exact ⟨vs, h1, cvs_back hb hv hk h2⟩
  | tup l =>
    obtain ⟨vs, h1, h2⟩ := h
    have e1 : hasImmA (.tup l) = l.any hasImm1 := by
      show l.any _ = _
      refine congrArg l.any (funext fun x => ?_)
      cases x <;> rfl
    have e2 : backA ns d (.tup l) = .tup (l.map (backA1 ns d)) := by
      show AV.tup (l.map _) = _
      refine congrArg (fun g => AV.tup (l.map g)) (funext fun x => ?_)
      cases x <;> rfl
    rw [e2]
    exact ⟨vs, h1, av1s_back hb hv (by rw [← e1]; exact hk) h2⟩

theorem flat_imm {N N' : Nat → Prop} {e : TypeId} {t : Ty} {l : List t.den} (hf : hasImmO (.sl e t l .shallow) = false) {d : t.den} {cs : List Value} (h : Imm w N t d cs) : Imm w N' t d cs := by
  cases t with
  | int k => exact h
  | bool => exact h
  | str => exact h
  | sl t => cases hf
  | pair a b =>
    cases a <;> cases b <;> first | exact h | cases hf

theorem ob_back {N N' : Nat → Prop} (hb : ∀ i o, lk sc i = some o → lk st'' (back ns d i) = some (backO ns d o)) (hv : ∀ i o, lk sc i = some o → val'' (back ns d i) = valc i)
    {ob : Ob} {v : Value} {F : List Nat} (hop : openO ob = false) (hk : hasImmO ob = false ∨ Kept w w N N') (h : ObRep w N valc sc ob v F) : ObRep w N' val'' st'' (backO ns d ob) v F := by
  cases ob with
  | dead => exact h
  | rc cs =>
    obtain ⟨g, cur, e, h1, h2, h3, h4⟩ := h
    exact ⟨g, cur, e, h1, h2, h3, cvs_back hb hv hk h4⟩
  | sl e t l kd =>
    cases kd with
    | deep kn hh =>
      cases hh with
      | no =>
        obtain ⟨_, e', xs, Fs, q1, q2, q3, q4⟩ := h
        exact ⟨trivial, e', xs, Fs, q1, q2, q3, fun j hj => (q4 j hj).kept (fun _ _ => rfl) (fun _ _ _ hp => by cases hp)⟩
      | _ => cases hop
    | frozen =>
      rcases hk with hk | hk
      · cases t with
        | pair a b => cases a <;> cases b <;> cases hk
        | _ => cases hk
      · exact ⟨h.1, Imm.kept (t := .sl t) hk h.2.1, h.2.2⟩
    | shallow =>
      obtain ⟨xs, h1, h2, h3⟩ := h
      refine ⟨xs, h1, h2, fun j hj => ?_⟩
      rcases hk with hk | hk
      · exact flat_imm hk (h3 j hj)
      · exact (h3 j hj).kept hk

theorem Back.step (b : Back Γ val valc fp fpc ns d n lent st sc st'' w w') (hno : lent = true → ∀ i o, lk sc i = some o → hasImmO o = false) (hop : ∀ i o, lk sc i = some o → openO o = false) :
    Step Γ val (AE.valB ns d st val valc) fp (fpB ns d st fp fpc) st st'' w w' ∧
    ∀ av v, (lent = true → hasImmA av = false) → AvRep w' (NoGo (away Γ st fp ns lent) sc fpc) valc sc av v → AvRep w' (NoGo Γ.X st'' (fpB ns d st fp fpc)) (AE.valB ns d st val valc) st'' (backA ns d av) v := by
  obtain ⟨s1, s2, s3, s4, s5⟩ := backSt_spec b.laid b.nodup b.there
  have hv := fun i o (hi : lk sc i = some o) => (b.valB hi).1
  have hf := fun i o (hi : lk sc i = some o) => (b.valB hi).2
  have foot : ∀ {x : Nat}, Foot (lendSt ns st 0 ns) (fpOf ns fp) x → ∃ y o, y ∈ ns ∧ lk st y = some o ∧ x ∈ fp y := by
    rintro x ⟨i, o, h1, h2⟩
    rw [lk_lend0] at h1
    cases hi : ns[i]? with
    | none => rw [hi] at h1; cases h1
    | some y =>
      rw [hi] at h1
      simp only [Option.bind_some, Option.map_eq_some_iff] at h1
      obtain ⟨o', h3, _⟩ := h1
      simp only [fpOf, hi] at h2
      exact ⟨y, o', List.mem_of_getElem? hi, h3, h2⟩
  have hsz : w.heap.size ≤ w'.heap.size := b.callee.fr.size
  have hsame : ∀ x, x < w.heap.size → (∀ y o, y ∈ ns → lk st y = some o → x ∉ fp y) → w'.heap[x]? = w.heap[x]? := fun x hx hn => b.callee.fr.block x hx (fun hF => by
    obtain ⟨y, o, h1, h2, h3⟩ := foot hF
    exact hn y o h1 h2 h3)
  have cown : ∀ i o, lk sc i = some o → ∀ x ∈ fpc i, x < w'.heap.size ∧ ¬ away Γ st fp ns lent x ∧ ((∃ y o, y ∈ ns ∧ lk st y = some o ∧ x ∈ fp y) ∨ w.heap.size ≤ x) := fun i o hi x hx => by
    obtain ⟨p1, p2, p3⟩ := b.callee.own i o hi x hx
    exact ⟨p1, p2, p3.imp foot id⟩
  have hstays : Stays val (AE.valB ns d st val valc) st st'' := fun y o hy => by
    by_cases hm : y ∈ ns
    · obtain ⟨i, hi⟩ := List.getElem?_of_mem hm
      obtain ⟨o', q1, q2, q3⟩ := b.stays i (lendO ns st o) (by rw [lk_lend0, hi]; simp [hy])
      refine ⟨backO ns d o', by have := s1 i o' q1; rwa [back_old hi] at this, ((lendO_compat o).2.trans q2).trans (backO_compat o'), ?_⟩
      have := hv i o' q1
      rw [back_old hi] at this
      rw [this, q3]
      simp only [valOf, hi]
    · exact ⟨o, s4 y hm o hy, Compat.refl o, valB_old hm hy⟩
  have hmore : ∀ x, x < w.heap.size → NoGo Γ.X st'' (fpB ns d st fp fpc) x → NoGo Γ.X st fp x := by
    rintro x hx (h1 | ⟨y, o, h1, h2⟩)
    · exact .inl h1
    · rcases s5 y o h1 with ⟨q1, q2⟩ | ⟨i, o', rfl, q2, rfl⟩
      · rw [fpB_old q1 q2] at h2
        exact .inr ⟨y, o, q2, h2⟩
      · rw [hf i o' q2] at h2
        rcases (cown i o' q2 x h2).2.2 with ⟨z, oz, _, h3, h4⟩ | h3
        · exact .inr ⟨z, oz, h3, h4⟩
        · omega
  have hkept : Kept w w' (NoGo Γ.X st fp) (NoGo Γ.X st'' (fpB ns d st fp fpc)) := ⟨hsz, fun x hx hn => hsame x hx (fun y o _ h2 h3 => hn (.inr ⟨y, o, h2, h3⟩)), hmore⟩
  have hk : lent = false → Kept w' w' (NoGo (away Γ st fp ns lent) sc fpc) (NoGo Γ.X st'' (fpB ns d st fp fpc)) := fun hl => ⟨Nat.le_refl _, fun _ _ _ => rfl, by
    rintro x hx (h1 | ⟨y, o, h1, h2⟩)
    · exact .inl (.inl h1)
    · rcases s5 y o h1 with ⟨q1, q2⟩ | ⟨i, o', rfl, q2, rfl⟩
      · rw [fpB_old q1 q2] at h2
        exact .inl (.inr ⟨hl, y, o, q2, q1, h2⟩)
      · rw [hf i o' q2] at h2
        exact .inr ⟨i, o', q2, h2⟩⟩
  refine ⟨⟨⟨⟨b.callee.fr.os.trans b.caller.fr.os, b.callee.fr.tape.trans b.caller.fr.tape, b.callee.fr.output.trans b.caller.fr.output, Nat.le_trans b.caller.fr.size hsz, fun x hx hA => ?_⟩,
    fun x o hx => ?_, fun x o hx y hy => ?_, fun x y o o' hne hx hy z hz hz' => ?_, b.caller.low⟩, hkept, hstays⟩, fun av v hno' h => ?_⟩
  · rw [hsame x (Nat.lt_of_lt_of_le hx b.caller.fr.size) (fun y o _ h2 h3 => by
      rcases (b.caller.own y o h2 x h3).2.2 with h4 | h4
      · exact hA h4
      · omega)]
    exact b.caller.fr.block x hx hA
  · rcases s5 x o hx with ⟨q1, q2⟩ | ⟨i, o', rfl, q2, rfl⟩
    · rw [valB_old q1 q2, fpB_old q1 q2]
      refine ObRep.kept hkept hstays (fun y hy => hsame y (b.caller.own x o q2 y hy).1 (fun z oz hz hlz hyz => ?_)) (b.caller.rep x o q2)
      exact b.caller.apart x z o oz (fun e => q1 (e ▸ hz)) q2 hlz y hy hyz
    · rw [hv i o' q2, hf i o' q2]
      refine ob_back s1 hv (hop i o' q2) ?_ (b.callee.rep i o' q2)
      cases lent with
      | true => exact .inl (hno rfl i o' q2)
      | false => exact .inr (hk rfl)
  · rcases s5 x o hx with ⟨q1, q2⟩ | ⟨i, o', rfl, q2, rfl⟩
    · rw [fpB_old q1 q2] at hy
      obtain ⟨p1, p2⟩ := b.caller.own x o q2 y hy
      exact ⟨Nat.lt_of_lt_of_le p1 hsz, p2⟩
    · rw [hf i o' q2] at hy
      obtain ⟨p1, p2, p3⟩ := cown i o' q2 y hy
      refine ⟨p1, fun hX => p2 (.inl hX), ?_⟩
      rcases p3 with ⟨z, oz, _, h3, h4⟩ | h3
      · exact (b.caller.own z oz h3 y h4).2.2
      · exact .inr (Nat.le_trans b.caller.fr.size h3)
  · rcases s5 x o hx with ⟨q1, q2⟩ | ⟨i, oi, rfl, q2, rfl⟩
    · rw [fpB_old q1 q2] at hz
      rcases s5 y o' hy with ⟨r1, r2⟩ | ⟨j, oj, rfl, r2, rfl⟩
      · rw [fpB_old r1 r2] at hz'
        exact b.caller.apart x y o o' hne q2 r2 z hz hz'
      · rw [hf j oj r2] at hz'
        rcases (cown j oj r2 z hz').2.2 with ⟨u, ou, h2, h3, h4⟩ | h3
        · exact b.caller.apart x u o ou (fun e => q1 (e ▸ h2)) q2 h3 z hz h4
        · have := (b.caller.own x o q2 z hz).1
          omega
    · rw [hf i oi q2] at hz
      rcases s5 y o' hy with ⟨r1, r2⟩ | ⟨j, oj, rfl, r2, rfl⟩
      · rw [fpB_old r1 r2] at hz'
        rcases (cown i oi q2 z hz).2.2 with ⟨u, ou, h2, h3, h4⟩ | h3
        · exact b.caller.apart u y ou o' (fun e => r1 (e ▸ h2)) h3 r2 z h4 hz'
        · have := (b.caller.own y o' r2 z hz').1
          omega
      · rw [hf j oj r2] at hz'
        exact b.callee.apart i j oi oj (fun e => hne (by rw [e])) q2 r2 z hz hz'
  · refine av_back s1 hv ?_ h
    cases lent with
    | true => exact .inl (hno' rfl)
    | false => exact .inr (hk rfl)

end
end Go.AE
