/-
  Calls: what a contract says, and how a call of the evaluator's comes to the model's.
-/
import Derived.Test.YtpjbfmifmikloaaAEOps7
namespace Go.AE
open Go Go.RowKit

/-- The blocks of the objects that are handed over. -/
def Foot (st : St) (fp : Nat → List Nat) (b : Nat) : Prop := ∃ x o, lk st x = some o ∧ b ∈ fp x

/-- WHAT A CONTRACT SAYS of function f: called with arguments that stand for 'args', the objects 'st' being there, it returns what 'con' tells, having written to no block but those objects' own and new ones. -/
def ConOk (P : Program) (f : FuncId) (con : Con) : Prop :=
  ∀ (args : List AV) (st : St) (k : AV → St → Prop), effK (con args st) k → ∀ (X : Nat → Prop) (n : Nat) (val : Nat → Value) (fp : Nat → List Nat) (w : World) (vs : Array Value),
    Objs ⟨w, X, Foot st fp, n⟩ val fp st w → All2 (AvRep w (NoGo X st fp) val st) args vs.toList →
    Calls P f vs w fun e w' => ∃ v av st' val' fp', e = .returned v ∧ k av st' ∧ Objs ⟨w, X, Foot st fp, n⟩ val' fp' st' w' ∧ Stays val val' st st' ∧ AvRep w' (NoGo X st' fp') val' st' av v

theorem posOf_spec : ∀ {ns : List Nat} {x i : Nat}, posOf ns x = some i → ns[i]? = some x
  | y :: r, x, i, h => by
    unfold posOf at h
    split at h
    · rename_i he
      cases h
      simp [beq_lk.1 he]
    · split at h
      · rename_i j hj
        cases h
        simpa using posOf_spec hj
      · cases h

theorem posOf_mem : ∀ {ns : List Nat} {x : Nat}, x ∈ ns → posOf ns x ≠ none
  | y :: r, x, h => by
    unfold posOf
    split
    · simp
    · rename_i hb
      rcases List.mem_cons.1 h with rfl | hm
      · rw [Nat.beq_refl] at hb; cases hb
      · have := posOf_mem hm
        split
        · simp
        · rename_i hnone; exact absurd hnone this

theorem posOf_none {ns : List Nat} {x : Nat} (h : posOf ns x = none) : x ∉ ns := fun hm => posOf_mem hm h

theorem lk_lend {ns : List Nat} {st : St} : ∀ {l : List Nat} {j i : Nat}, lk (lendSt ns st j l) i = if i < j then none else (l[i - j]?).bind fun x => (lk st x).map (lendO ns st)
  | [], j, i => by simp [lendSt, lk]
  | x :: r, j, i => by
    unfold lendSt
    cases hx : lk st x with
    | some o =>
      simp only
      rw [lk_cons, lk_lend (l := r)]
      by_cases h1 : i = j
      · subst h1; simp [hx]
      · rw [if_neg h1]
        by_cases h2 : i < j
        · rw [if_pos (by omega), if_pos h2]
        · rw [if_neg (by omega), if_neg h2, show i - j = (i - (j + 1)) + 1 from by omega, List.getElem?_cons_succ]
    | none =>
      simp only
      rw [lk_lend (l := r)]
      by_cases h1 : i = j
      · subst h1; simp [hx]
      · by_cases h2 : i < j
        · rw [if_pos (by omega), if_pos h2]
        · rw [if_neg (by omega), if_neg h2, show i - j = (i - (j + 1)) + 1 from by omega, List.getElem?_cons_succ]

theorem lk_lend0 {ns : List Nat} {st : St} {i : Nat} : lk (lendSt ns st 0 ns) i = (ns[i]?).bind fun x => (lk st x).map (lendO ns st) := by
  rw [lk_lend]; simp

theorem allIn_spec {st : St} : ∀ {l : List Nat}, allIn st l = true → ∀ x ∈ l, ∃ o, lk st x = some o
  | y :: r, h, x, hx => by
    unfold allIn at h
    split at h
    · rename_i o ho
      rcases List.mem_cons.1 hx with rfl | hx
      · exact ⟨o, ho⟩
      · exact allIn_spec h x hx
    · cases h

theorem nodupB_spec : ∀ {l : List Nat}, nodupB l = true → l.Nodup
  | [], _ => List.nodup_nil
  | x :: r, h => by
    simp only [nodupB, Bool.and_eq_true, Bool.not_eq_true', List.contains_eq_mem] at h
    exact List.nodup_cons.2 ⟨by simpa using h.1, nodupB_spec h.2⟩

section
variable {P : Program} {C : Cfg} {Γ : Ctx} {val val' val'' : Nat → Value} {fp fp' fp'' : Nat → List Nat} {ρ : Env} {st st' st'' : St} {a : Act} {w w' w'' : World} {o : Oper} {k : AV → St → Prop} {K : Act → World → Prop} {Q : Exit → Act → World → Prop}

/-- The callee's values and footprints of what is handed over. -/
def valOf (ns : List Nat) (val : Nat → Value) (i : Nat) : Value := match ns[i]? with | some x => val x | none => undef
def fpOf (ns : List Nat) (fp : Nat → List Nat) (i : Nat) : List Nat := match ns[i]? with | some x => fp x | none => []

/-- What the callee must leave alone, where no row is lent: all that the caller's own objects hold but those handed over. -/
def away (Γ : Ctx) (st : St) (fp : Nat → List Nat) (ns : List Nat) (lent : Bool) (b : Nat) : Prop :=
  Γ.X b ∨ (lent = false ∧ ∃ y o, lk st y = some o ∧ y ∉ ns ∧ b ∈ fp y)

theorem lendO_compat {ns : List Nat} {st : St} : ∀ o : Ob, Compat (lendO ns st o) o ∧ Compat o (lendO ns st o)
  | .sl _ _ _ _ => ⟨And.intro rfl (And.intro rfl rfl), And.intro rfl (And.intro rfl rfl)⟩
  | .rc _ => ⟨trivial, trivial⟩
  | .dead => ⟨trivial, trivial⟩

/-- No-go blocks of the callee are no-go blocks of the caller. -/
theorem nogo_sub {ns : List Nat} {lent : Bool} {b : Nat} (h : NoGo (away Γ st fp ns lent) (lendSt ns st 0 ns) (fpOf ns fp) b) : NoGo Γ.X st fp b := by
  rcases h with (h | ⟨_, y, o, h1, _, h2⟩) | ⟨i, o, h1, h2⟩
  · exact .inl h
  · exact .inr ⟨y, o, h1, h2⟩
  · rw [lk_lend0] at h1
    cases hi : ns[i]? with
    | none => rw [hi] at h1; cases h1
    | some x =>
      rw [hi] at h1
      simp only [Option.bind_some, Option.map_eq_some_iff] at h1
      obtain ⟨o', h3, _⟩ := h1
      simp only [fpOf, hi] at h2
      exact .inr ⟨x, o', h3, h2⟩

theorem kept_lend {ns : List Nat} {lent : Bool} : Kept w w (NoGo Γ.X st fp) (NoGo (away Γ st fp ns lent) (lendSt ns st 0 ns) (fpOf ns fp)) :=
  ⟨Nat.le_refl _, fun _ _ _ => rfl, fun _ _ h => nogo_sub h⟩

theorem fn_lend {ns : List Nat} : ∀ {cap l : List Nat} {vs : List Value}, posAll ns cap = some l → fnCaps val st cap vs → fnCaps (valOf ns val) (lendSt ns st 0 ns) l vs
  | [], l, [], h, _ => by cases h; trivial
  | x :: r, l, v :: vs, h, ⟨⟨cs, g, h1, h2, h3⟩, hr⟩ => by
    unfold posAll at h
    split at h
    · rename_i i l' hi hl
      cases h
      have hx := posOf_spec hi
      exact ⟨⟨lendL ns st [] cs, g, by rw [lk_lend0, hx]; simp [h1, lendO], by simp only [valOf, hx]; exact h2, h3⟩, fn_lend hl hr⟩
    · cases h
  | [], _, _ :: _, _, h => h.elim
  | _ :: _, _, [], _, h => h.elim

theorem lend_rep (h : Objs Γ val fp st w) {ns : List Nat} {lent : Bool} {t : Option Ty} {x : CV} {v : Value} (hl : lent = false → lends ns st [x] = false) (hx : CvRep w (NoGo Γ.X st fp) val st x v) :
    CvRep w (NoGo (away Γ st fp ns lent) (lendSt ns st 0 ns) (fpOf ns fp)) (valOf ns val) (lendSt ns st 0 ns) (lend ns st t x) v := by
  cases x with
  | int k n => exact hx
  | bool b => exact hx
  | kb b => exact (show v = .bool b from hx)
  | str s => exact hx
  | skip => exact hx
  | undef => trivial
  | nil =>
    unfold lend
    dsimp only
    split
    · rw [show v = _ from hx]
      exact ⟨none, 0, rfl, Nat.le_refl _, Nat.zero_le _, fun h => absurd h (by simp)⟩
    · exact hx
  | imm t' l => exact Imm.kept (t := .sl t') kept_lend hx
  | own y n =>
    unfold lend
    dsimp only
    cases hp : posOf ns y with
    | some i =>
      have hi := posOf_spec hp
      obtain ⟨hs, o', h1, h2, hn⟩ := hx
      refine And.intro hs ⟨lendO ns st o', by rw [lk_lend0, hi]; simp [h1], ?_, hn.compat (lendO_compat o').2⟩
      rcases h2 with rfl | h2
      · exact .inl rfl
      · exact .inr (by simp only [valOf, hi]; exact h2)
    | none =>
      dsimp only
      split
      · rename_i e t' l hy
        obtain ⟨h1, h2⟩ := own_rep (v := v) h hx hy
        have hlent : lent = true := by
          cases lent with
          | true => rfl
          | false =>
            have := hl rfl
            simp [lends, hp, hy] at this
        subst hlent
        show Imm w _ (.sl t') l [v]
        rw [h1]
        refine (shallow_imm h2 (fun b hb hn => ?_) (fun hi => hi.kept kept_lend)).1
        rcases hn with (hX | ⟨hf, _⟩) | ⟨i, o', h3, h4⟩
        · exact (h.own y _ hy b hb).2.1 hX
        · cases hf
        · rw [lk_lend0] at h3
          cases hi : ns[i]? with
          | none => rw [hi] at h3; cases h3
          | some z =>
            rw [hi] at h3
            simp only [Option.bind_some, Option.map_eq_some_iff] at h3
            obtain ⟨oz, h5, _⟩ := h3
            simp only [fpOf, hi] at h4
            refine h.apart y z _ oz (fun e0 => ?_) hy h5 b hb h4
            subst e0
            exact posOf_mem (List.mem_of_getElem? hi) hp
      · rename_i e t' l hy
        obtain ⟨h1, h2⟩ := own_rep (v := v) h hx hy
        show Imm w _ (.sl t') l [v]
        rw [h1]
        exact Imm.kept (t := .sl t') kept_lend h2.2.1
      · rename_i e t' l kn hy
        obtain ⟨h1, h2⟩ := own_rep (v := v) h hx hy
        have hlent : lent = true := by
          cases lent with
          | true => rfl
          | false =>
            have := hl rfl
            simp [lends, hp, hy] at this
        subst hlent
        show Imm w _ (.sl t') l [v]
        rw [h1]
        refine (deep_imm h2 (fun b hb hn => ?_)).1
        rcases hn with (hX | ⟨hf, _⟩) | ⟨i, o', h3, h4⟩
        · exact (h.own y _ hy b hb).2.1 hX
        · cases hf
        · rw [lk_lend0] at h3
          cases hi : ns[i]? with
          | none => rw [hi] at h3; cases h3
          | some z =>
            rw [hi] at h3
            simp only [Option.bind_some, Option.map_eq_some_iff] at h3
            obtain ⟨oz, h5, _⟩ := h3
            simp only [fpOf, hi] at h4
            refine h.apart y z _ oz (fun e0 => ?_) hy h5 b hb h4
            subst e0
            exact posOf_mem (List.mem_of_getElem? hi) hp
      · trivial
  | iptr t' d c => trivial
  | eptr y i c => trivial
  | view y i => trivial
  | ptr y c =>
    unfold lend
    dsimp only
    cases hp : posOf ns y with
    | none => trivial
    | some i =>
      have hi := posOf_spec hp
      obtain ⟨cs, g, h1, h2, h3⟩ := hx
      exact ⟨lendL ns st [] cs, g, by rw [lk_lend0, hi]; simp [h1, lendO], by simp only [valOf, hi]; exact h2, h3⟩
  | fn f cap =>
    unfold lend
    dsimp only
    cases hp : posAll ns cap with
    | none => trivial
    | some l =>
      obtain ⟨vs, h1, h2⟩ := hx
      exact ⟨vs, h1, fn_lend hp h2⟩

theorem lends_cons {ns : List Nat} {y : CV} {r : List CV} (h : lends ns st (y :: r) = false) : lends ns st [y] = false ∧ lends ns st r = false := by
  cases y <;> try exact ⟨rfl, h⟩
  rename_i z _
  simp only [lends] at h ⊢
  cases hi : posOf ns z with
  | some i => rw [hi] at h; exact ⟨rfl, h⟩
  | none =>
    rw [hi] at h
    dsimp only at h ⊢
    split at h
    · exact ⟨rfl, h⟩
    · cases h

theorem lends_mem {ns : List Nat} : ∀ {l : List CV}, lends ns st l = false → ∀ x ∈ l, lends ns st [x] = false
  | y :: r, h, x, hx => by
    rcases List.mem_cons.1 hx with rfl | hx
    · exact (lends_cons h).1
    · exact lends_mem (lends_cons h).2 x hx

theorem lendL_rep (h : Objs Γ val fp st w) {ns : List Nat} {lent : Bool} : ∀ {ts : List Ty} {l : List CV} {vs : List Value}, (lent = false → lends ns st l = false) → All2 (CvRep w (NoGo Γ.X st fp) val st) l vs →
    All2 (CvRep w (NoGo (away Γ st fp ns lent) (lendSt ns st 0 ns) (fpOf ns fp)) (valOf ns val) (lendSt ns st 0 ns)) (lendL ns st ts l) vs
  | ts, [], [], _, _ => by cases ts <;> trivial
  | [], x :: l, v :: vs, hl, ⟨h1, h2⟩ => ⟨lend_rep h (fun e => (lends_cons (hl e)).1) h1, lendL_rep (ts := []) h (fun e => (lends_cons (hl e)).2) h2⟩
  | t :: ts, x :: l, v :: vs, hl, ⟨h1, h2⟩ => ⟨lend_rep h (fun e => (lends_cons (hl e)).1) h1, lendL_rep (ts := ts) h (fun e => (lends_cons (hl e)).2) h2⟩
  | _, [], _ :: _, _, h => h.elim
  | _, _ :: _, [], _, h => h.elim

theorem lendA_rep (h : Objs Γ val fp st w) {ns : List Nat} {lent : Bool} {t : Option Ty} {x : AV} {v : Value} (hl : lent = false → lendsA ns st x = false) (ht : ∀ l, x ≠ .tup l) (hx : AvRep w (NoGo Γ.X st fp) val st x v) :
    AvRep w (NoGo (away Γ st fp ns lent) (lendSt ns st 0 ns) (fpOf ns fp)) (valOf ns val) (lendSt ns st 0 ns) (lendA ns st t x) v := by
  cases x with
  | c x => exact lend_rep h hl hx
  | agg l =>
    obtain ⟨vs, h1, h2⟩ := hx
    exact ⟨vs, h1, lendL_rep h hl h2⟩
  | tup l => exact absurd rfl (ht l)

theorem lendArgs_rep (h : Objs Γ val fp st w) {ns : List Nat} {lent : Bool} : ∀ {ts : List TypeId} {l : List AV} {vs : List Value}, (lent = false → ∀ x ∈ l, lendsA ns st x = false) → (∀ x ∈ l, ∀ r, x ≠ .tup r) → All2 (AvRep w (NoGo Γ.X st fp) val st) l vs →
    All2 (AvRep w (NoGo (away Γ st fp ns lent) (lendSt ns st 0 ns) (fpOf ns fp)) (valOf ns val) (lendSt ns st 0 ns)) (lendArgs C ns st ts l) vs
  | ts, [], [], _, _, _ => by cases ts <;> trivial
  | [], x :: l, v :: vs, hl, ht, ⟨h1, h2⟩ => ⟨lendA_rep h (fun e => hl e x (by simp)) (ht x (by simp)) h1, lendArgs_rep (ts := []) h (fun e y hy => hl e y (by simp [hy])) (fun y hy => ht y (by simp [hy])) h2⟩
  | t :: ts, x :: l, v :: vs, hl, ht, ⟨h1, h2⟩ => ⟨lendA_rep h (fun e => hl e x (by simp)) (ht x (by simp)) h1, lendArgs_rep (ts := ts) h (fun e y hy => hl e y (by simp [hy])) (fun y hy => ht y (by simp [hy])) h2⟩
  | _, [], _ :: _, _, _, h => h.elim
  | _, _ :: _, [], _, _, h => h.elim

/-- The objects handed over, as the callee finds them. -/
theorem lend_objs (h : Objs Γ val fp st w) {ns : List Nat} {lent : Bool} (n : Nat) (hnd : ns.Nodup) (hl : lent = false → ∀ x ∈ ns, lendsO ns st x = false) (hop : ∀ x ∈ ns, openIn st x = false) :
    Objs ⟨w, away Γ st fp ns lent, Foot (lendSt ns st 0 ns) (fpOf ns fp), n⟩ (valOf ns val) (fpOf ns fp) (lendSt ns st 0 ns) w := by
  have at_ : ∀ {i : Nat} {o : Ob}, lk (lendSt ns st 0 ns) i = some o → ∃ x o', ns[i]? = some x ∧ lk st x = some o' ∧ o = lendO ns st o' := by
    intro i o hi
    rw [lk_lend0] at hi
    cases hx : ns[i]? with
    | none => rw [hx] at hi; cases hi
    | some x =>
      rw [hx] at hi
      simp only [Option.bind_some, Option.map_eq_some_iff] at hi
      obtain ⟨o', h1, h2⟩ := hi
      exact ⟨x, o', rfl, h1, h2.symm⟩
  refine ⟨⟨rfl, rfl, rfl, Nat.le_refl _, fun _ _ _ => rfl⟩, fun i o hi => ?_, fun i o hi b hb => ?_, fun i j o o' hne hi hj b hb hb' => ?_, fun b hb => ?_⟩
  · obtain ⟨x, o', h1, h2, rfl⟩ := at_ hi
    have hr := h.rep x o' h2
    simp only [valOf, fpOf, h1]
    cases o' with
    | dead => exact hr
    | rc cs =>
      obtain ⟨g, cur, e, q1, q2, q3, q4⟩ := hr
      exact ⟨g, cur, e, q1, q2, q3, lendL_rep h (fun e0 => by have := hl e0 x (List.mem_of_getElem? h1); simpa [lendsO, h2] using this) q4⟩
    | sl e t l kd =>
      cases kd with
      | deep kn hh =>
        cases hh with
        | no =>
          obtain ⟨_, e', xs, Fs, q1, q2, q3, q4⟩ := hr
          exact ⟨trivial, e', xs, Fs, q1, q2, q3, fun j hj => (q4 j hj).kept (fun _ _ => rfl) (fun _ _ _ hp => by cases hp)⟩
        | _ =>
          have := hop x (List.mem_of_getElem? h1)
          simp [openIn, h2, openO, openK] at this
      | frozen => exact ⟨hr.1, Imm.kept (t := .sl t) kept_lend hr.2.1, hr.2.2⟩
      | shallow =>
        obtain ⟨xs, q1, q2, q3⟩ := hr
        exact ⟨xs, q1, q2, fun j hj => (q3 j hj).kept kept_lend⟩
  · obtain ⟨x, o', h1, h2, rfl⟩ := at_ hi
    have hb' := hb
    simp only [fpOf, h1] at hb
    obtain ⟨p1, p2, p3⟩ := h.own x o' h2 b hb
    refine ⟨p1, ?_, .inl ⟨i, _, hi, hb'⟩⟩
    rintro (hX | ⟨_, y, oy, h3, h4, h5⟩)
    · exact p2 hX
    · exact h.apart x y o' oy (fun e0 => h4 (e0 ▸ List.mem_of_getElem? h1)) h2 h3 b hb h5
  · obtain ⟨x, ox, h1, h2, rfl⟩ := at_ hi
    obtain ⟨y, oy, h3, h4, rfl⟩ := at_ hj
    simp only [fpOf, h1] at hb
    simp only [fpOf, h3] at hb'
    refine h.apart x y ox oy (fun e0 => hne ?_) h2 h4 b hb hb'
    subst e0
    obtain ⟨hi', _⟩ := List.getElem?_eq_some_iff.1 h1
    exact (List.getElem?_inj hi' hnd).1 (h1.trans h3.symm)
  · rcases hb with hX | ⟨_, y, oy, h3, _, h5⟩
    · exact Nat.lt_of_lt_of_le (h.low b hX) h.fr.size
    · exact (h.own y oy h3 b h5).1

end
end Go.AE
