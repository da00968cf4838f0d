/-
  Rows of rows that are owned: parts go out under names of their own and are laid back; rows are given away into them.
-/
import Derived.Test.YtpjbfmifmikloaaAEOps6
namespace Go.AE
open Go Go.RowKit

theorem slAt_range : ∀ {t : Ty} {c q : Nat}, q ∈ slAt t c → c ≤ q ∧ q < c + t.size
  | .sl _, c, q, h => by
    simp only [slAt, List.mem_singleton] at h
    subst h; simp [Ty.size]
  | .pair a b, c, q, h => by
    simp only [slAt, List.mem_append] at h
    rcases h with h | h
    · have := slAt_range h; simp only [Ty.size]; omega
    · have := slAt_range h; simp only [Ty.size]; omega
  | .int _, _, _, h => by simp [slAt] at h
  | .bool, _, _, h => by simp [slAt] at h
  | .str, _, _, h => by simp [slAt] at h

/-- The row at a place among a datum's cells. -/
def subAt : (t : Ty) → Nat → t.den → Nat → Option (Sigma fun t : Ty => List t.den)
  | .sl t, c, l, q => if q = c then some ⟨t, l⟩ else none
  | .pair a b, c, d, q => if q < c + a.size then subAt a c d.1 q else subAt b (c + a.size) d.2 q
  | _, _, _, _ => none

/-- A row that is owned, with all in it. -/
def RowOwn (w : World) (val : Nat → Value) (v : Value) (t : Ty) (l : List t.den) (F : Nat → Prop) : Prop :=
  ∃ e xs Fs, w.ownsRow 0 e t.size v l.length xs ∧ RowF v l.length F Fs ∧ ∀ j (_ : j < l.length), Deep w val t (fun _ => none) 0 l[j] ((xs.drop (j * t.size)).take t.size) (Fs j)

section
variable {P : Program} {C : Cfg} {Γ : Ctx} {val val' val'' : Nat → Value} {fp fp' fp'' : Nat → List Nat} {ρ : Env} {st st' st'' : St} {a : Act} {w w' w'' : World} {o : Oper} {k : AV → St → Prop} {K : Act → World → Prop} {Q : Exit → Act → World → Prop}

theorem Deep.hs {hs hs' : Nat → Option Nat} : ∀ {t : Ty} {c : Nat} {d : t.den} {cs : List Value} {F : Nat → Prop}, (∀ q ∈ slAt t c, hs' q = hs q) → Deep w val t hs c d cs F → Deep w val t hs' c d cs F
  | .int _, _, _, _, _, _, h => h
  | .bool, _, _, _, _, _, h => h
  | .str, _, _, _, _, _, h => h
  | .sl t, c, l, cs, F, hq, h => by
    unfold Deep at h ⊢
    rw [hq c (by simp [slAt])]
    exact h
  | .pair a b, c, d, cs, F, hq, h => by
    obtain ⟨c1, c2, F1, F2, h1, h2, h3, h4, h5⟩ := h
    exact ⟨c1, c2, F1, F2, h1, h2, h3, h4.hs (fun q h => hq q (by simp [slAt, h])), h5.hs (fun q h => hq q (by simp [slAt, h]))⟩

theorem flat_deep {N : Nat → Prop} {hs : Nat → Option Nat} : ∀ {t : Ty} {c : Nat} {d : t.den} {cs : List Value}, flatTy t = true → Imm w N t d cs → Deep w val t hs c d cs (fun _ => False)
  | .int _, _, _, _, _, h => ⟨h, fun _ hb => hb⟩
  | .bool, _, _, _, _, h => ⟨h, fun _ hb => hb⟩
  | .str, _, _, _, _, h => ⟨h, fun _ hb => hb⟩
  | .sl _, _, _, _, hf, _ => by cases hf
  | .pair a b, c, d, cs, hf, h => by
    obtain ⟨c1, c2, h1, h2, h3⟩ := h
    unfold flatTy at hf
    split at hf
    · rename_i ha
      exact ⟨c1, c2, _, _, h1, fun b => by simp, fun b hb => hb.elim, flat_deep ha h2, flat_deep hf h3⟩
    · cases hf

/-- A flat element owns nothing. -/
theorem deep_flat_none {hs : Nat → Option Nat} : ∀ {t : Ty} {c : Nat} {d : t.den} {cs : List Value} {F : Nat → Prop}, flatTy t = true → Deep w val t hs c d cs F → ∀ b, ¬ F b
  | .int _, _, _, _, _, _, h => h.2
  | .bool, _, _, _, _, _, h => h.2
  | .str, _, _, _, _, _, h => h.2
  | .sl _, _, _, _, _, hf, _ => by cases hf
  | .pair a b, c, d, cs, F, hf, h => by
    obtain ⟨c1, c2, F1, F2, h1, h2, h3, h4, h5⟩ := h
    unfold flatTy at hf
    split at hf
    · rename_i ha
      exact fun x hx => ((h2 x).1 hx).elim (deep_flat_none ha h4 x) (deep_flat_none hf h5 x)
    · cases hf

theorem Deep.one : ∀ {t : Ty} {hs : Nat → Option Nat} {c : Nat} {d : t.den} {cs : List Value} {F : Nat → Prop}, Deep w val t hs c d cs F → ∀ v ∈ cs, v.oneCell' = true
  | .int _, _, _, _, _, _, h, v, hv => by rw [h.1.1] at hv; simp at hv; subst hv; rfl
  | .bool, _, _, _, _, _, h, v, hv => by rw [h.1] at hv; simp at hv; subst hv; rfl
  | .str, _, _, _, _, _, h, v, hv => by rw [h.1] at hv; simp at hv; subst hv; rfl
  | .sl t, hs, c, l, cs, F, h, v, hv => by
    unfold Deep at h
    split at h
    · obtain ⟨⟨a, n, cap, h1⟩, h2, _⟩ := h
      rw [h2, h1] at hv; simp at hv; subst hv; rfl
    · obtain ⟨u, e, xs, Fs, rfl, h2, _⟩ := h
      obtain ⟨A, cap, h3⟩ := own_shape h2
      rw [h3] at hv; simp at hv; subst hv; rfl
  | .pair a b, hs, c, d, cs, F, h, v, hv => by
    obtain ⟨c1, c2, F1, F2, rfl, _, _, h4, h5⟩ := h
    rcases List.mem_append.1 hv with hv | hv
    · exact h4.one v hv
    · exact h5.one v hv

/-- What goes out: each row with its blocks; the rest stays. -/
theorem take_rep : ∀ {t : Ty} {c : Nat} {d : t.den} {cs : List Value} {F : Nat → Prop}, Deep w val t (fun _ => none) c d cs F → ∃ Fq : Nat → Nat → Prop,
    (∀ q ∈ slAt t c, ∀ b, Fq q b → F b) ∧ (∀ q ∈ slAt t c, ∀ q' ∈ slAt t c, q ≠ q' → ∀ b, Fq q b → ¬ Fq q' b) ∧
    (∀ q ∈ slAt t c, ∃ t' l' v, subAt t c d q = some ⟨t', l'⟩ ∧ cs[q - c]? = some v ∧ RowOwn w val v t' l' (Fq q)) ∧
    (∀ (hs : Nat → Option Nat) (val' : Nat → Value), (∀ q ∈ slAt t c, ∀ y, hs q = some y → cs[q - c]? = some (val' y)) → Deep w val' t hs c d cs (fun b => F b ∧ ∀ q ∈ slAt t c, hs q ≠ none → ¬ Fq q b))
  | .int _, _, _, _, _, h => ⟨fun _ _ => False, fun q hq => by simp [slAt] at hq, fun q hq => by simp [slAt] at hq, fun q hq => by simp [slAt] at hq, fun hs val' _ => ⟨h.1, fun b hb => h.2 b hb.1⟩⟩
  | .bool, _, _, _, _, h => ⟨fun _ _ => False, fun q hq => by simp [slAt] at hq, fun q hq => by simp [slAt] at hq, fun q hq => by simp [slAt] at hq, fun hs val' _ => ⟨h.1, fun b hb => h.2 b hb.1⟩⟩
  | .str, _, _, _, _, h => ⟨fun _ _ => False, fun q hq => by simp [slAt] at hq, fun q hq => by simp [slAt] at hq, fun q hq => by simp [slAt] at hq, fun hs val' _ => ⟨h.1, fun b hb => h.2 b hb.1⟩⟩
  | .sl t, c, l, cs, F, h => by
    obtain ⟨v, e, xs, Fs, rfl, h2, h3, h4⟩ := h
    refine ⟨fun _ => F, fun q _ b hb => hb, fun q hq q' hq' hne => ?_, fun q hq => ?_, fun hs val' hv => ?_⟩
    · simp only [slAt, List.mem_singleton] at hq hq'
      exact absurd (hq.trans hq'.symm) hne
    · simp only [slAt, List.mem_singleton] at hq
      subst hq
      exact ⟨t, l, v, by simp [subAt], by simp, e, xs, Fs, h2, h3, h4⟩
    · unfold Deep
      cases hq : hs c with
      | some y =>
        have := hv c (by simp [slAt]) y hq
        simp only [Nat.sub_self, List.getElem?_cons_zero, Option.some.injEq] at this
        subst this
        obtain ⟨A, cap, h5⟩ := own_shape h2
        exact ⟨⟨_, _, _, h5⟩, rfl, fun b hb => hb.2 c (by simp [slAt]) (by rw [hq]; simp) hb.1⟩
      | none =>
        refine ⟨v, e, xs, Fs, rfl, h2, ⟨fun b => ?_, h3.own, h3.apart⟩, fun j hj => (h4 j hj).kept (fun _ _ => rfl) (fun _ _ _ hp => by cases hp)⟩
        rw [← h3.all b]
        refine ⟨fun hb => hb.1, fun hb => ⟨hb, fun q hq' hn => ?_⟩⟩
        simp only [slAt, List.mem_singleton] at hq'
        subst hq'
        exact absurd hq hn
  | .pair a b, c, d, cs, F, h => by
    obtain ⟨c1, c2, F1, F2, rfl, h2, h3, h4, h5⟩ := h
    obtain ⟨Q1, p1, p2, p3, p4⟩ := take_rep h4
    obtain ⟨Q2, q1, q2, q3, q4⟩ := take_rep h5
    have l1 := h4.length
    have memL : ∀ {q}, q ∈ slAt a c → q < c + a.size := fun hq => (slAt_range hq).2
    have memR : ∀ {q}, q ∈ slAt b (c + a.size) → ¬ q < c + a.size := fun hq => by have := (slAt_range hq).1; omega
    obtain ⟨Qq, eL, eR⟩ : ∃ Qq : Nat → Nat → Prop, (∀ {q}, q ∈ slAt a c → Qq q = Q1 q) ∧ (∀ {q}, q ∈ slAt b (c + a.size) → Qq q = Q2 q) :=
      ⟨fun q => if q < c + a.size then Q1 q else Q2 q, fun hq => if_pos (memL hq), fun hq => if_neg (memR hq)⟩
    refine ⟨Qq, fun q hq x hx => ?_, fun q hq q' hq' hne x hx hx' => ?_, fun q hq => ?_, fun hs val' hv => ?_⟩
    · simp only [slAt, List.mem_append] at hq
      rcases hq with hq | hq
      · rw [eL hq] at hx; exact (h2 x).2 (.inl (p1 q hq x hx))
      · rw [eR hq] at hx; exact (h2 x).2 (.inr (q1 q hq x hx))
    · simp only [slAt, List.mem_append] at hq hq'
      rcases hq with hq | hq <;> rcases hq' with hq' | hq'
      · rw [eL hq] at hx; rw [eL hq'] at hx'; exact p2 q hq q' hq' hne x hx hx'
      · rw [eL hq] at hx; rw [eR hq'] at hx'; exact h3 x (p1 q hq x hx) (q1 q' hq' x hx')
      · rw [eR hq] at hx; rw [eL hq'] at hx'; exact h3 x (p1 q' hq' x hx') (q1 q hq x hx)
      · rw [eR hq] at hx; rw [eR hq'] at hx'; exact q2 q hq q' hq' hne x hx hx'
    · simp only [slAt, List.mem_append] at hq
      rcases hq with hq | hq
      · obtain ⟨t', l', v, r1, r2, r3⟩ := p3 q hq
        refine ⟨t', l', v, by simp only [subAt]; rw [if_pos (memL hq)]; exact r1, ?_, by rw [eL hq]; exact r3⟩
        rw [List.getElem?_append_left (by have := slAt_range hq; omega)]; exact r2
      · obtain ⟨t', l', v, r1, r2, r3⟩ := q3 q hq
        have hr := slAt_range hq
        refine ⟨t', l', v, by simp only [subAt]; rw [if_neg (memR hq)]; exact r1, ?_, by rw [eR hq]; exact r3⟩
        rw [List.getElem?_append_right (by omega), l1, show q - c - a.size = q - (c + a.size) by omega]; exact r2
    · have k1 := p4 hs val' (fun q hq y hy => by
        have := hv q (by simp [slAt, hq]) y hy
        rw [List.getElem?_append_left (by have := slAt_range hq; omega)] at this
        exact this)
      have k2 := q4 hs val' (fun q hq y hy => by
        have := hv q (by simp [slAt, hq]) y hy
        have hr := slAt_range hq
        rw [List.getElem?_append_right (by omega), l1, show q - c - a.size = q - (c + a.size) by omega] at this
        exact this)
      refine ⟨c1, c2, _, _, rfl, fun x => ?_, fun x hx hx' => h3 x hx.1 hx'.1, k1, k2⟩
      constructor
      · rintro ⟨hx, hn⟩
        rcases (h2 x).1 hx with hx | hx
        · exact .inl ⟨hx, fun q hq hh hq' => hn q (by simp [slAt, hq]) hh (by rw [eL hq]; exact hq')⟩
        · exact .inr ⟨hx, fun q hq hh hq' => hn q (by simp [slAt, hq]) hh (by rw [eR hq]; exact hq')⟩
      · rintro (⟨hx, hn⟩ | ⟨hx, hn⟩)
        · refine ⟨(h2 x).2 (.inl hx), fun q hq hh hq' => ?_⟩
          simp only [slAt, List.mem_append] at hq
          rcases hq with hq | hq
          · rw [eL hq] at hq'; exact hn q hq hh hq'
          · rw [eR hq] at hq'; exact h3 x hx (q1 q hq x hq')
        · refine ⟨(h2 x).2 (.inr hx), fun q hq hh hq' => ?_⟩
          simp only [slAt, List.mem_append] at hq
          rcases hq with hq | hq
          · rw [eL hq] at hq'; exact h3 x (p1 q hq x hq') hx
          · rw [eR hq] at hq'; exact hn q hq hh hq'

theorem lk_append {α : Type _} : ∀ (l m : List (Nat × α)) (x : Nat), lk (l ++ m) x = match lk l x with | some o => some o | none => lk m x
  | [], m, x => by simp [lk]
  | (y, o) :: r, m, x => by
    rw [List.cons_append, lk_cons, lk_cons, lk_append r m x]
    split <;> rfl

theorem takes_spec {hs : Nat → Option Nat} : ∀ {t : Ty} {c : Nat} {d : t.den} {y : Nat} {ob : Ob}, lk (takes hs t c d) y = some ob → ∃ q t' l', q ∈ slAt t c ∧ hs q = some y ∧ subAt t c d q = some ⟨t', l'⟩ ∧ ob = .sl 0 t' l' (.deep false .no)
  | .sl t, c, l, y, ob, h => by
    unfold takes at h
    split at h
    · rename_i y' hy'
      rw [lk_cons] at h
      split at h
      · rename_i e
        cases h
        exact ⟨c, t, l, by simp [slAt], by rw [e]; exact hy', by simp [subAt], rfl⟩
      · simp [lk] at h
    · simp [lk] at h
  | .pair a b, c, d, y, ob, h => by
    unfold takes at h
    rw [lk_append] at h
    split at h
    · rename_i o' ho'
      cases h
      obtain ⟨q, t', l', h1, h2, h3, h4⟩ := takes_spec ho'
      exact ⟨q, t', l', by simp [slAt, h1], h2, by simp only [subAt]; rw [if_pos (slAt_range h1).2]; exact h3, h4⟩
    · obtain ⟨q, t', l', h1, h2, h3, h4⟩ := takes_spec h
      exact ⟨q, t', l', by simp [slAt, h1], h2, by simp only [subAt]; rw [if_neg (by have := (slAt_range h1).1; omega)]; exact h3, h4⟩
  | .int _, _, _, _, _, h => by simp [takes, lk] at h
  | .bool, _, _, _, _, h => by simp [takes, lk] at h
  | .str, _, _, _, _, h => by simp [takes, lk] at h

theorem takes_has {hs : Nat → Option Nat} : ∀ {t : Ty} {c : Nat} {d : t.den} {q y : Nat}, q ∈ slAt t c → hs q = some y → ∃ ob, lk (takes hs t c d) y = some ob
  | .sl t, c, l, q, y, h1, h2 => by
    simp only [slAt, List.mem_singleton] at h1
    subst h1
    exact ⟨.sl 0 t l (.deep false .no), by unfold takes; rw [h2]; simp only [lk_cons, if_true]⟩
  | .pair a b, c, d, q, y, h1, h2 => by
    simp only [slAt, List.mem_append] at h1
    unfold takes
    rw [lk_append]
    cases hq : lk (takes hs a c d.1) y with
    | some o => exact ⟨o, rfl⟩
    | none =>
      rcases h1 with h1 | h1
      · obtain ⟨ob, h3⟩ := takes_has (d := d.1) h1 h2
        rw [h3] at hq; cases hq
      · exact takes_has h1 h2
  | .int _, _, _, _, _, h, _ => by simp [slAt] at h
  | .bool, _, _, _, _, h, _ => by simp [slAt] at h
  | .str, _, _, _, _, h, _ => by simp [slAt] at h

theorem outAt_spec {lo n base q y : Nat} (h : outAt lo n base q = some y) : y = base + q ∧ lo ≤ q ∧ q < lo + n := by
  unfold outAt at h
  split at h
  · rename_i h1
    split at h
    · rename_i h2
      cases h
      exact ⟨rfl, Nat.le_of_ble_eq_true h1, of_eq_true_blt h2⟩
    · cases h
  · cases h

theorem allNew_spec : ∀ {l : St}, allNew st l = true → ∀ y ob, lk l y = some ob → lk st y = none
  | (z, oz) :: r, h, y, ob, hy => by
    unfold allNew at h
    split at h
    · cases h
    · rename_i hz
      rw [lk_cons] at hy
      split at hy
      · rename_i e; rw [e]; exact hz
      · exact allNew_spec h y ob hy

/-- ROWS GO OUT. -/
theorem take_step (h : Objs Γ val fp st w) {x : Nat} {e : TypeId} {t : Ty} {l : List t.den} {kn : Bool} (hx : lk st x = some (.sl e t l (.deep kn .no))) {i lo n base : Nat} (hi : i < l.length)
    (hnew : allNew st (takes (outAt lo n base) t 0 l[i]) = true) :
    ∃ val' fp', Step Γ val val' fp fp' st (takes (outAt lo n base) t 0 l[i] ++ sput st x (.sl e t l (.deep kn (.at i lo n base)))) w w := by
  classical
  obtain ⟨_, e', xs, Fs, r1, r2, r3, r4⟩ := h.rep x _ hx
  have hel := r4 i hi
  simp only [holeAt] at hel
  obtain ⟨Fq, p1, p2, p3, p4⟩ := take_rep hel
  generalize hcs : (xs.drop (i * t.size)).take t.size = cs at hel p3 p4
  generalize htk : takes (outAt lo n base) t 0 l[i] = tk at hnew ⊢
  have hsp : ∀ {y ob}, lk tk y = some ob → ∃ q t' l' v, q ∈ slAt t 0 ∧ y = base + q ∧ outAt lo n base q = some y ∧ subAt t 0 l[i] q = some ⟨t', l'⟩ ∧ ob = .sl 0 t' l' (.deep false .no) ∧ cs[q]? = some v ∧ RowOwn w val v t' l' (Fq q) := by
    intro y ob hy
    rw [← htk] at hy
    obtain ⟨q, t', l', k1, k2, k3, k4⟩ := takes_spec hy
    obtain ⟨t2, l2, v, m1, m2, m3⟩ := p3 q k1
    rw [k3] at m1
    cases m1
    exact ⟨q, t', l', v, k1, (outAt_spec k2).1, k2, k3, k4, by simpa using m2, m3⟩
  have hnw : ∀ {y ob}, lk tk y = some ob → lk st y = none := fun hy => allNew_spec hnew _ _ hy
  have hxt : lk tk x = none := by
    cases hq : lk tk x with
    | none => rfl
    | some ob => rw [hnw hq] at hx; cases hx
  have hlk : ∀ y, lk (tk ++ sput st x (.sl e t l (.deep kn (.at i lo n base)))) y = match lk tk y with | some o => some o | none => if y = x then some (.sl e t l (.deep kn (.at i lo n base))) else lk st y := fun y => by
    rw [lk_append]
    cases lk tk y with
    | some o => rfl
    | none => dsimp only; rw [lk_sput, hx]; rfl
  let val' : Nat → Value := fun y => match lk tk y with | some _ => (cs[y - base]?).getD undef | none => val y
  let fp' : Nat → List Nat := fun y => match lk tk y with
    | some _ => (fp x).filter (fun b => decide (Fq (y - base) b))
    | none => if y = x then (fp x).filter (fun b => decide (∀ q ∈ slAt t 0, outAt lo n base q ≠ none → ¬ ((∃ j, j = i ∧ Fq q b)))) else fp y
  have hv1 : ∀ {y}, lk tk y = none → val' y = val y := fun hy => by simp only [val', hy]
  have hf1 : ∀ {y}, lk tk y = none → y ≠ x → fp' y = fp y := fun hy hne => by simp only [fp', hy, if_neg hne]
  have hv2 : ∀ {y ob q v}, lk tk y = some ob → y = base + q → cs[q]? = some v → val' y = v := fun {y ob q v} hy e hv => by
    simp only [val', hy]
    rw [show y - base = q by omega, hv]; rfl
  have hf2 : ∀ {y ob q}, lk tk y = some ob → y = base + q → ∀ b, b ∈ fp' y ↔ b ∈ fp x ∧ Fq q b := fun {y ob q} hy e b => by
    simp only [fp', hy]
    rw [show y - base = q by omega]
    simp
  have hfx : ∀ b, b ∈ fp' x ↔ b ∈ fp x ∧ ∀ q ∈ slAt t 0, outAt lo n base q ≠ none → ¬ Fq q b := fun b => by
    simp only [fp', hxt, if_true]
    simp
  have hFx : ∀ q ∈ slAt t 0, ∀ b, Fq q b → b ∈ fp x := fun q hq b hb => (r3.all b).2 (.inr ⟨i, hi, p1 q hq b hb⟩)
  have which : ∀ {y ob}, lk (tk ++ sput st x (.sl e t l (.deep kn (.at i lo n base)))) y = some ob → (lk st y = none ∨ y = x) → lk tk y = some ob ∨ (y = x ∧ ob = .sl e t l (.deep kn (.at i lo n base))) := by
    intro y ob hy hn
    rw [hlk] at hy
    cases hq : lk tk y with
    | some o => rw [hq] at hy; exact .inl hy
    | none =>
      rw [hq] at hy
      dsimp only at hy
      rcases hn with hn | hn
      · split at hy
        · rename_i e0; rw [e0, hx] at hn; cases hn
        · rw [hn] at hy; cases hy
      · rw [if_pos hn] at hy
        exact .inr ⟨hn, (Option.some.inj hy).symm⟩
  refine ⟨val', fp', h.step (fun y => y = x) rfl rfl rfl (Nat.le_refl _) (fun _ _ _ => rfl) (fun y ob hy hn => ?_) (fun y ob hy hn => ?_) (fun y ob hy hn b hb => ?_) (fun y z o1 o2 hne hy hz hn hn' b hb hb' => ?_) (fun hkept hstay y ob hy hn => ?_)⟩
  · have hn : ¬ y = x := hn
    have ht : lk tk y = none := by
      cases hq : lk tk y with
      | none => rfl
      | some o => rw [hnw hq] at hy; cases hy
    rw [hlk, ht]
    dsimp only
    rw [if_neg hn]
    exact ⟨hy, hv1 ht, hf1 ht hn⟩
  · have hn : y = x := hn
    subst hn
    rw [hx] at hy
    obtain rfl := Option.some.inj hy
    exact ⟨.sl e t l (.deep kn (.at i lo n base)), by rw [hlk, hxt]; simp, And.intro rfl (And.intro rfl rfl), hv1 hxt⟩
  · rcases which hy hn with hq | ⟨rfl, _⟩
    · obtain ⟨q, _, _, _, _, e0, _⟩ := hsp hq
      have hb := ((hf2 hq e0 b).1 hb).1
      exact ⟨(h.own x _ hx b hb).1, fun _ => ⟨x, _, rfl, hx, hb⟩⟩
    · have hb := ((hfx b).1 hb).1
      exact ⟨(h.own _ _ hx b hb).1, fun _ => ⟨_, _, rfl, hx, hb⟩⟩
  · rcases which hy hn with hq | ⟨rfl, _⟩ <;> rcases which hz hn' with hq' | ⟨rfl, _⟩
    · obtain ⟨q, _, _, _, k1, e0, _⟩ := hsp hq
      obtain ⟨q', _, _, _, k1', e0', _⟩ := hsp hq'
      exact p2 q k1 q' k1' (fun e1 => hne (by rw [e0, e0', e1])) b ((hf2 hq e0 b).1 hb).2 ((hf2 hq' e0' b).1 hb').2
    · obtain ⟨q, _, _, _, k1, e0, k2, _⟩ := hsp hq
      exact ((hfx b).1 hb').2 q k1 (by rw [k2]; simp) ((hf2 hq e0 b).1 hb).2
    · obtain ⟨q, _, _, _, k1, e0, k2, _⟩ := hsp hq'
      exact ((hfx b).1 hb).2 q k1 (by rw [k2]; simp) ((hf2 hq' e0 b).1 hb').2
    · exact absurd rfl hne
  · rcases which hy hn with hq | ⟨rfl, rfl⟩
    · obtain ⟨q, t', l', v, k1, e0, k2, k3, rfl, k4, e2, xs2, Fs2, m1, m2, m3⟩ := hsp hq
      rw [hv2 hq e0 k4]
      refine ⟨trivial, e2, xs2, Fs2, (fun (h0 : false = true) => by cases h0), m1, ⟨fun b => ?_, m2.own, m2.apart⟩, fun j hj => (m3 j hj).kept (fun _ _ => rfl) (fun _ _ _ hp => by cases hp)⟩
      rw [hf2 hq e0 b, ← m2.all b]
      exact ⟨fun hb => hb.2, fun hb => ⟨hFx q k1 b hb, hb⟩⟩
    · rw [hv1 hxt]
      refine ⟨⟨hi, fun q hq y hy => ?_⟩, e', xs, fun j b => Fs j b ∧ (j = i → ∀ q ∈ slAt t 0, outAt lo n base q ≠ none → ¬ Fq q b), r1, r2, ⟨fun b => ?_, fun b j hj ho hb => r3.own b j hj ho hb.1, fun j j' b hj hj' hne hb hb' => r3.apart j j' b hj hj' hne hb.1 hb'.1⟩, fun j hj => ?_⟩
      · obtain ⟨ob, ho⟩ := takes_has (d := l[i]) hq hy
        rw [htk] at ho
        exact ⟨ob, by rw [hlk, ho]⟩
      · rw [hfx b]
        constructor
        · rintro ⟨hb, hn⟩
          rcases (r3.all b).1 hb with hb | ⟨j, hj, hb⟩
          · exact .inl hb
          · exact .inr ⟨j, hj, hb, fun _ => hn⟩
        · rintro (hb | ⟨j, hj, hb, hn⟩)
          · exact ⟨(r3.all b).2 (.inl hb), fun q hq _ hq' => r3.own b i hi hb (p1 q hq b hq')⟩
          · refine ⟨(r3.all b).2 (.inr ⟨j, hj, hb⟩), fun q hq hh hq' => ?_⟩
            by_cases hji : j = i
            · exact hn hji q hq hh hq'
            · exact r3.apart j i b hj hi hji hb (p1 q hq b hq')
      · by_cases hji : j = i
        · subst hji
          have := p4 (outAt lo n base) val' (fun q hq y hy => by
            obtain ⟨ob, ho⟩ := takes_has (d := l[j]) hq hy
            rw [htk] at ho
            obtain ⟨t2, l2, v, _, m2, _⟩ := p3 q hq
            have m2' : cs[q]? = some v := by simpa using m2
            rw [Nat.sub_zero, m2', hv2 ho (outAt_spec hy).1 m2'])
          rw [hcs]
          simp only [holeAt, if_true]
          exact this.congr (fun b => ⟨fun hb => ⟨hb.1, fun q hq hh => hb.2 trivial q hq hh⟩, fun hb => ⟨hb.1, fun _ q hq hh => hb.2 q hq hh⟩⟩)
        · simp only [holeAt, if_neg hji]
          exact ((r4 j hj).kept (fun _ _ => rfl) (fun _ _ _ hp => by cases hp)).congr (fun b => ⟨fun hb => hb.1, fun hb => ⟨hb, fun e0 => absurd e0 hji⟩⟩)

theorem lk_kill : ∀ (ns : List Nat) (st : St) (z : Nat), lk (kill st ns) z = if z ∈ ns then (lk st z).map (fun _ => .dead) else lk st z
  | [], st, z => by simp [kill]
  | y :: r, st, z => by
    unfold kill
    rw [lk_kill r, lk_sput]
    by_cases h1 : z ∈ r
    · rw [if_pos h1, if_pos (List.mem_cons_of_mem _ h1)]
      split
      · rename_i e; subst e; cases lk st z <;> rfl
      · rfl
    · rw [if_neg h1]
      by_cases h2 : z = y
      · subst h2; rw [if_pos rfl, if_pos List.mem_cons_self]
      · rw [if_neg h2, if_neg (fun h => (List.mem_cons.1 h).elim h2 h1)]

theorem nodupB'_spec : ∀ {l : List Nat}, nodupB' l = true → l.Nodup
  | [], _ => List.nodup_nil
  | x :: r, h => by
    unfold nodupB' at h
    split at h
    · cases h
    · rename_i hx
      refine List.nodup_cons.2 ⟨fun hm => ?_, nodupB'_spec h⟩
      rw [List.any_eq_false] at hx
      exact hx x hm (Nat.beq_refl x)

theorem mem_outNames {lo n base y : Nat} : ∀ {l : List Nat}, y ∈ outNames lo n base l ↔ ∃ q ∈ l, outAt lo n base q = some y
  | [] => by simp [outNames]
  | q :: r => by
    unfold outNames
    split
    · rename_i z hz
      rw [List.mem_cons, mem_outNames (l := r)]
      constructor
      · rintro (rfl | ⟨q', h1, h2⟩)
        · exact ⟨q, by simp, hz⟩
        · exact ⟨q', by simp [h1], h2⟩
      · rintro ⟨q', h1, h2⟩
        rcases List.mem_cons.1 h1 with rfl | h1
        · rw [hz] at h2; exact .inl (Option.some.inj h2).symm
        · exact .inr ⟨q', h1, h2⟩
    · rename_i hz
      rw [mem_outNames (l := r)]
      constructor
      · rintro ⟨q', h1, h2⟩; exact ⟨q', by simp [h1], h2⟩
      · rintro ⟨q', h1, h2⟩
        rcases List.mem_cons.1 h1 with rfl | h1
        · rw [hz] at h2; cases h2
        · exact ⟨q', h1, h2⟩

/-- What was out is laid back. -/
theorem close_rep (h : Objs Γ val fp st w) {hs : Nat → Option Nat} : ∀ {t : Ty} {c : Nat} {d d' : t.den} {cs : List Value} {F : Nat → Prop}, Deep w val t hs c d cs F → closeDen st hs t c d = some d' →
    (∀ b, F b → ∀ q ∈ slAt t c, ∀ y, hs q = some y → b ∉ fp y) → (∀ q ∈ slAt t c, ∀ q' ∈ slAt t c, ∀ y, hs q = some y → hs q' = some y → q = q') →
    ∃ F', Deep w val t (fun _ => none) c d' cs F' ∧ ∀ b, F' b ↔ F b ∨ ∃ q ∈ slAt t c, ∃ y, hs q = some y ∧ b ∈ fp y
  | .int _, c, d, d', cs, F, hd, hc, _, _ => by
    simp only [closeDen, Option.some.injEq] at hc
    subst hc
    exact ⟨F, hd, fun b => by simp [slAt]⟩
  | .bool, c, d, d', cs, F, hd, hc, _, _ => by
    simp only [closeDen, Option.some.injEq] at hc
    subst hc
    exact ⟨F, hd, fun b => by simp [slAt]⟩
  | .str, c, d, d', cs, F, hd, hc, _, _ => by
    simp only [closeDen, Option.some.injEq] at hc
    subst hc
    exact ⟨F, hd, fun b => by simp [slAt]⟩
  | .sl t, c, l, d', cs, F, hd, hc, h1, h2 => by
    unfold Deep at hd
    unfold closeDen at hc
    split at hd
    · rename_i y hy
      rw [hy] at hc
      dsimp only at hc
      obtain ⟨_, rfl, hF⟩ := hd
      split at hc
      · rename_i e t' l' kn hl
        obtain ⟨e1, e2⟩ := castL_spec hc
        subst e1
        obtain rfl : d' = l' := e2
        obtain ⟨_, e', xs, Fs, _, r2, r3, r4⟩ := h.rep y _ hl
        refine ⟨fun b => b ∈ fp y, ⟨val y, e', xs, Fs, rfl, r2, r3, fun j hj => r4 j hj⟩, fun b => ?_⟩
        simp only [slAt, List.mem_singleton, exists_eq_left, hy, Option.some.injEq, exists_eq_left']
        exact ⟨.inr, fun hb => hb.resolve_left (hF b)⟩
      · cases hc
    · rename_i hy
      rw [hy] at hc
      cases hc
      refine ⟨F, by unfold Deep; exact hd, fun b => ?_⟩
      simp [slAt, hy]
  | .pair a b, c, d, d', cs, F, hd, hc, h1, h2 => by
    obtain ⟨c1, c2, F1, F2, q1, q2, q3, q4, q5⟩ := hd
    unfold closeDen at hc
    split at hc
    · rename_i x hcx
      split at hc
      · rename_i y hcy
        cases hc
        have sub1 : ∀ {q}, q ∈ slAt a c → q ∈ slAt (.pair a b) c := fun hq => by simp [slAt, hq]
        have sub2 : ∀ {q}, q ∈ slAt b (c + a.size) → q ∈ slAt (.pair a b) c := fun hq => by simp [slAt, hq]
        obtain ⟨F1', k1, k2⟩ := close_rep h q4 hcx (fun x hx q hq => h1 x ((q2 x).2 (.inl hx)) q (sub1 hq)) (fun q hq q' hq' => h2 q (sub1 hq) q' (sub1 hq'))
        obtain ⟨F2', m1, m2⟩ := close_rep h q5 hcy (fun x hx q hq => h1 x ((q2 x).2 (.inr hx)) q (sub2 hq)) (fun q hq q' hq' => h2 q (sub2 hq) q' (sub2 hq'))
        refine ⟨fun x => F1' x ∨ F2' x, ⟨c1, c2, F1', F2', q1, fun _ => Iff.rfl, fun x hx hx' => ?_, k1, m1⟩, fun x => ?_⟩
        · rcases (k2 x).1 hx with hx | ⟨q, hq, y1, hy1, hx⟩ <;> rcases (m2 x).1 hx' with hx' | ⟨q', hq', y2, hy2, hx'⟩
          · exact q3 x hx hx'
          · exact h1 x ((q2 x).2 (.inl hx)) q' (sub2 hq') y2 hy2 hx'
          · exact h1 x ((q2 x).2 (.inr hx')) q (sub1 hq) y1 hy1 hx
          · by_cases hyy : y1 = y2
            · subst hyy
              have := h2 q (sub1 hq) q' (sub2 hq') y1 hy1 hy2
              have r1 := slAt_range hq
              have r2 := slAt_range hq'
              omega
            · have there : ∀ {t : Ty} {c : Nat} {d d' : t.den} {q y : Nat}, closeDen st hs t c d = some d' → q ∈ slAt t c → hs q = some y → ∃ o, lk st y = some o := by
                intro t
                induction t with
                | int _ => intro c d d' q y _ hq; simp [slAt] at hq
                | bool => intro c d d' q y _ hq; simp [slAt] at hq
                | str => intro c d d' q y _ hq; simp [slAt] at hq
                | sl t _ =>
                  intro c d d' q y hc hq hy
                  simp only [slAt, List.mem_singleton] at hq
                  subst hq
                  unfold closeDen at hc
                  rw [hy] at hc
                  dsimp only at hc
                  split at hc
                  · rename_i hl; exact ⟨_, hl⟩
                  · cases hc
                | pair a b iha ihb =>
                  intro c d d' q y hc hq hy
                  unfold closeDen at hc
                  split at hc
                  · rename_i hx
                    split at hc
                    · rename_i hy'
                      simp only [slAt, List.mem_append] at hq
                      rcases hq with hq | hq
                      · exact iha hx hq hy
                      · exact ihb hy' hq hy
                    · cases hc
                  · cases hc
              obtain ⟨o1, ho1⟩ := there hcx hq hy1
              obtain ⟨o2, ho2⟩ := there hcy hq' hy2
              exact h.apart y1 y2 o1 o2 hyy ho1 ho2 x hx hx'
        · dsimp only
          rw [k2, m2, q2]
          simp only [slAt, List.mem_append]
          constructor
          · rintro ((hx | ⟨q, hq, r⟩) | (hx | ⟨q, hq, r⟩))
            · exact .inl (.inl hx)
            · exact .inr ⟨q, .inl hq, r⟩
            · exact .inl (.inr hx)
            · exact .inr ⟨q, .inr hq, r⟩
          · rintro ((hx | hx) | ⟨q, hq | hq, r⟩)
            · exact .inl (.inl hx)
            · exact .inr (.inl hx)
            · exact .inl (.inr ⟨q, hq, r⟩)
            · exact .inr (.inr ⟨q, hq, r⟩)
      · cases hc
    · cases hc

/-- A row of rows is given new insides, rows of other names among them, which are gone then. -/
theorem give_step (h : Objs Γ val fp st w) {x : Nat} {ob ob' : Ob} (hx : lk st x = some ob) (hcompat : Compat ob ob') {ns : List Nat} (hxn : x ∉ ns) (hns : ∀ y ∈ ns, ∃ e t l kd, lk st y = some (.sl e t l kd)) {F : List Nat}
    (hos : w'.os = w.os) (htape : w'.tape = w.tape) (hout : w'.output = w.output) (hsz : w'.heap.size = w.heap.size) (hkeep : ∀ b, b < w.heap.size → b ∉ fp x → w'.heap[b]? = w.heap[b]?)
    (hF : ∀ b ∈ F, b ∈ fp x ∨ ∃ y ∈ ns, b ∈ fp y)
    (hrep : Kept w w' (NoGo Γ.X st fp) (NoGo Γ.X (sput (kill st ns) x ob') (fun y => if y = x then F else if y ∈ ns then [] else fp y)) → Stays val val st (sput (kill st ns) x ob') →
      ObRep w' (NoGo Γ.X (sput (kill st ns) x ob') (fun y => if y = x then F else if y ∈ ns then [] else fp y)) val (sput (kill st ns) x ob') ob' (val x) F) :
    Step Γ val val fp (fun y => if y = x then F else if y ∈ ns then [] else fp y) st (sput (kill st ns) x ob') w w' := by
  have hlk : ∀ y, lk (sput (kill st ns) x ob') y = if y = x then some ob' else if y ∈ ns then (lk st y).map (fun _ => .dead) else lk st y := fun y => by
    rw [lk_sput, lk_kill, lk_kill, if_neg hxn, hx]; rfl
  have which : ∀ {y : Nat} {ob2 : Ob}, lk (sput (kill st ns) x ob') y = some ob2 → (lk st y = none ∨ (y = x ∨ y ∈ ns)) → (y = x ∧ ob2 = ob') ∨ (y ≠ x ∧ y ∈ ns ∧ ob2 = .dead) := by
    intro y ob2 hy hn
    rw [hlk] at hy
    by_cases h1 : y = x
    · rw [if_pos h1] at hy; exact .inl ⟨h1, (Option.some.inj hy).symm⟩
    · rw [if_neg h1] at hy
      by_cases h2 : y ∈ ns
      · rw [if_pos h2] at hy
        cases hq : lk st y with
        | none => rw [hq] at hy; cases hy
        | some o => rw [hq] at hy; exact .inr ⟨h1, h2, (Option.some.inj hy).symm⟩
      · rw [if_neg h2] at hy
        rcases hn with hn | hn | hn
        · rw [hn] at hy; cases hy
        · exact absurd hn h1
        · exact absurd hn h2
  have hfin : ∀ {b : Nat}, b ∈ F → ∃ z oz, (z = x ∨ z ∈ ns) ∧ lk st z = some oz ∧ b ∈ fp z := fun {b} hb => by
    rcases hF b hb with hb | ⟨y, hy, hb⟩
    · exact ⟨x, _, .inl rfl, hx, hb⟩
    · obtain ⟨e, t, l, kd, ho⟩ := hns y hy
      exact ⟨y, _, .inr hy, ho, hb⟩
  refine h.step (fun y => y = x ∨ y ∈ ns) hos htape hout (by omega) (fun b hb hn => hkeep b hb (fun hbx => hn x _ (.inl rfl) hx hbx)) (fun y ob2 hy hn => ?_) (fun y ob2 hy hn => ?_) (fun y ob2 hy hn b hb => ?_) (fun y z o1 o2 hne hy hz hn hn' b hb hb' => ?_) (fun hkept hstay y ob2 hy hn => ?_)
  · obtain ⟨h1, h2⟩ := not_or.1 hn
    rw [hlk, if_neg h1, if_neg h2]
    exact ⟨hy, rfl, by simp [h1, h2]⟩
  · rcases hn with rfl | hn
    · rw [hx] at hy
      obtain rfl := Option.some.inj hy
      exact ⟨ob', by rw [hlk, if_pos rfl], hcompat, rfl⟩
    · have hne : y ≠ x := fun e => hxn (e ▸ hn)
      obtain ⟨e, t, l, kd, ho⟩ := hns y hn
      rw [ho] at hy
      obtain rfl := Option.some.inj hy
      exact ⟨.dead, by rw [hlk, if_neg hne, if_pos hn, ho]; rfl, (show Compat (.sl _ _ _ _) .dead from trivial), rfl⟩
  · rcases which hy hn with ⟨rfl, _⟩ | ⟨h1, h2, _⟩
    · simp only [if_true] at hb
      obtain ⟨z, oz, hz, hlz, hbz⟩ := hfin hb
      exact ⟨by rw [hsz]; exact (h.own z oz hlz b hbz).1, fun _ => ⟨z, oz, hz, hlz, hbz⟩⟩
    · simp [h1, h2] at hb
  · rcases which hy hn with ⟨rfl, _⟩ | ⟨h1, h2, _⟩
    · rcases which hz hn' with ⟨rfl, _⟩ | ⟨h1, h2, _⟩
      · exact hne rfl
      · simp [h1, h2] at hb'
    · simp [h1, h2] at hb
  · rcases which hy hn with ⟨rfl, rfl⟩ | ⟨h1, h2, rfl⟩
    · simp only [if_true]
      exact hrep hkept hstay
    · show _ = _
      simp [h1, h2]

/-- WHAT IS OUT IS LAID BACK. -/
theorem close_step (h : Objs Γ val fp st w) {x : Nat} (hc : closeOb st x = some st') : ∃ fp', Step Γ val val fp fp' st st' w w := by
  unfold closeOb at hc
  split at hc
  · rename_i e t l kn i lo n base hx
    split at hc
    · rename_i hnd
      have hnd := nodupB'_spec hnd
      obtain ⟨hxn, hnn⟩ := List.nodup_cons.1 hnd
      split at hc
      · rename_i d hd
        cases hc
        obtain ⟨⟨hi, hin⟩, e', xs, Fs, r1, r2, r3, r4⟩ := h.rep x _ hx
        rw [getD_at hi] at hd
        have hel := r4 i hi
        simp only [holeAt, if_true] at hel
        have hfx : ∀ b, Fs i b → b ∈ fp x := fun b hb => (r3.all b).2 (.inr ⟨i, hi, hb⟩)
        have hne : ∀ q ∈ slAt t 0, ∀ y, outAt lo n base q = some y → y ≠ x ∧ y ∈ outNames lo n base (slAt t 0) ∧ ∃ o, lk st y = some o := fun q hq y hy => by
          have hm := mem_outNames.2 ⟨q, hq, hy⟩
          exact ⟨fun e0 => hxn (e0 ▸ hm), hm, hin q hq y hy⟩
        have there : ∀ y ∈ outNames lo n base (slAt t 0), ∃ e t l kd, lk st y = some (.sl e t l kd) := by
          have key : ∀ {t : Ty} {c : Nat} {d d' : t.den} {q y : Nat}, closeDen st (outAt lo n base) t c d = some d' → q ∈ slAt t c → outAt lo n base q = some y → ∃ e t l kd, lk st y = some (.sl e t l kd) := by
            intro t
            induction t with
            | int _ => intro c d d' q y _ hq; simp [slAt] at hq
            | bool => intro c d d' q y _ hq; simp [slAt] at hq
            | str => intro c d d' q y _ hq; simp [slAt] at hq
            | sl t _ =>
              intro c d d' q y hc hq hy
              simp only [slAt, List.mem_singleton] at hq
              subst hq
              unfold closeDen at hc
              rw [hy] at hc
              dsimp only at hc
              split at hc
              · rename_i hl; exact ⟨_, _, _, _, hl⟩
              · cases hc
            | pair a b iha ihb =>
              intro c d d' q y hc hq hy
              unfold closeDen at hc
              split at hc
              · rename_i hx
                split at hc
                · rename_i hy'
                  simp only [slAt, List.mem_append] at hq
                  rcases hq with hq | hq
                  · exact iha hx hq hy
                  · exact ihb hy' hq hy
                · cases hc
              · cases hc
          intro y hy
          obtain ⟨q, hq, hy⟩ := mem_outNames.1 hy
          exact key hd hq hy
        obtain ⟨F', k1, k2⟩ := close_rep h hel hd (fun b hb q hq y hy hby => by
          obtain ⟨q1, _, o', q2⟩ := hne q hq y hy
          exact h.apart x y _ o' q1.symm hx q2 b (hfx b hb) hby) (fun q _ q' _ y h1 h2 => by
          have := (outAt_spec h1).1
          have := (outAt_spec h2).1
          omega)
        refine ⟨_, give_step h (F := fp x ++ (outNames lo n base (slAt t 0)).flatMap fp) (ob' := .sl e t (l.set i d) (.deep kn .no)) hx (show Compat (.sl _ _ _ _) (.sl _ _ _ _) from And.intro rfl (And.intro rfl (by simp))) hxn there rfl rfl rfl rfl (fun _ _ _ => rfl) (fun b hb => ?_) (fun hkept hstay => ?_)⟩
        · simp only [List.mem_append, List.mem_flatMap] at hb
          exact hb
        · refine ⟨trivial, e', xs, fun j b => if j = i then F' b else Fs j b, r1, by rw [List.length_set]; exact r2, ⟨fun b => ?_, fun b j hj ho hb => ?_, fun j j' b hj hj' hjj hb hb' => ?_⟩, fun j hj => ?_⟩
          · rw [List.length_set]
            simp only [List.mem_append, List.mem_flatMap]
            constructor
            · rintro (hb | ⟨y, hy, hb⟩)
              · rcases (r3.all b).1 hb with hb | ⟨j, hj, hb⟩
                · exact .inl hb
                · refine .inr ⟨j, hj, ?_⟩
                  by_cases hji : j = i
                  · subst hji; rw [if_pos rfl]; exact (k2 b).2 (.inl hb)
                  · rw [if_neg hji]; exact hb
              · obtain ⟨q, hq, hy⟩ := mem_outNames.1 hy
                exact .inr ⟨i, hi, by rw [if_pos rfl]; exact (k2 b).2 (.inr ⟨q, hq, y, hy, hb⟩)⟩
            · rintro (hb | ⟨j, hj, hb⟩)
              · exact .inl ((r3.all b).2 (.inl hb))
              · by_cases hji : j = i
                · rw [if_pos hji] at hb
                  rcases (k2 b).1 hb with hb | ⟨q, hq, y, hy, hb⟩
                  · exact .inl (hfx b hb)
                  · exact .inr ⟨y, mem_outNames.2 ⟨q, hq, hy⟩, hb⟩
                · rw [if_neg hji] at hb
                  exact .inl ((r3.all b).2 (.inr ⟨j, hj, hb⟩))
          · rw [List.length_set] at hj
            by_cases hji : j = i
            · rw [if_pos hji] at hb
              rcases (k2 b).1 hb with hb | ⟨q, hq, y, hy, hb⟩
              · exact r3.own b i hi ho hb
              · obtain ⟨q1, _, o', q2⟩ := hne q hq y hy
                exact h.apart x y _ o' q1.symm hx q2 b ((r3.all b).2 (.inl ho)) hb
            · rw [if_neg hji] at hb
              exact r3.own b j hj ho hb
          · rw [List.length_set] at hj hj'
            have far : ∀ {j : Nat}, j < l.length → j ≠ i → Fs j b → F' b → False := fun {j} hj hji hb hb' => by
              rcases (k2 b).1 hb' with hb' | ⟨q, hq, y, hy, hb'⟩
              · exact r3.apart j i b hj hi hji hb hb'
              · obtain ⟨q1, _, o', q2⟩ := hne q hq y hy
                exact h.apart x y _ o' q1.symm hx q2 b ((r3.all b).2 (.inr ⟨j, hj, hb⟩)) hb'
            by_cases hji : j = i
            · rw [if_pos hji] at hb
              rw [if_neg (fun e0 => hjj (hji.trans e0.symm))] at hb'
              exact far hj' (fun e0 => hjj (hji.trans e0.symm)) hb' hb
            · rw [if_neg hji] at hb
              by_cases hji' : j' = i
              · rw [if_pos hji'] at hb'; exact far hj hji hb hb'
              · rw [if_neg hji'] at hb'; exact r3.apart j j' b hj hj' hjj hb hb'
          · rw [List.length_set] at hj
            by_cases hji : j = i
            · subst hji
              simp only [holeAt, if_true, List.getElem_set_self]
              exact k1
            · simp only [holeAt, if_neg hji]
              rw [List.getElem_set_ne (fun e0 => hji e0.symm)]
              have := r4 j hj
              simp only [holeAt, if_neg hji] at this
              exact this
      · cases hc
    · cases hc
  · cases hc
    exact ⟨fp, Step.refl h⟩

theorem closeAll_step : ∀ {ns : List Nat} {st st' : St} {fp : Nat → List Nat}, Objs Γ val fp st w → closeAll st ns = some st' → ∃ fp', Step Γ val val fp fp' st st' w w
  | [], st, st', fp, h, hc => by cases hc; exact ⟨fp, Step.refl h⟩
  | x :: r, st, st', fp, h, hc => by
    unfold closeAll at hc
    split at hc
    · rename_i st1 h1
      obtain ⟨fp1, s1⟩ := close_step h h1
      obtain ⟨fp2, s2⟩ := closeAll_step s1.objs hc
      exact ⟨fp2, s1.trans s2⟩
    · cases hc

theorem move_rep (h : Objs Γ val fp st w) {hs : Nat → Option Nat} : ∀ {t : Ty} {c : Nat} {cs : List CV} {d : t.den} {ns : List Nat} {vs : List Value}, moveDen st t cs = some (d, ns) → All2 (CvRep w (NoGo Γ.X st fp) val st) cs vs → ns.Nodup → (∀ q ∈ slAt t c, hs q = none) →
    ∃ F, Deep w val t hs c d vs F ∧ (∀ b, F b → ∃ y ∈ ns, b ∈ fp y) ∧ ∀ y ∈ ns, ∃ e t l kd, lk st y = some (.sl e t l kd) := by
  intro t
  induction t with
  | int k =>
    intro c cs d ns vs h1 hr _ _
    unfold moveDen at h1
    split at h1
    · rename_i n hn
      cases h1
      unfold ofInt at hn
      split at hn
      · rename_i k' n
        split at hn
        · rename_i hk
          have := same_eq hk
          subst this
          cases hn
          match vs, hr with
          | [v], hr =>
            obtain ⟨h2, h3⟩ := hr.1
            subst h2
            exact ⟨fun _ => False, ⟨⟨rfl, h3⟩, fun _ hb => hb⟩, fun _ hb => hb.elim, fun y hy => by cases hy⟩
        · cases hn
      · cases hn
    · cases h1
  | bool =>
    intro c cs d ns vs h1 hr _ _
    unfold moveDen at h1
    split at h1
    · rename_i n hn
      cases h1
      unfold ofBool at hn
      split at hn <;> first | (cases hn; done) | skip
      all_goals
        cases hn
        match vs, hr with
        | [v], hr =>
          have := hr.1
          rw [show v = _ from this]
          exact ⟨fun _ => False, ⟨rfl, fun _ hb => hb⟩, fun _ hb => hb.elim, fun y hy => by cases hy⟩
    · cases h1
  | str =>
    intro c cs d ns vs h1 hr _ _
    unfold moveDen at h1
    split at h1
    · rename_i n hn
      cases h1
      unfold ofStr at hn
      split at hn <;> first | (cases hn; done) | skip
      cases hn
      match vs, hr with
      | [v], hr =>
        have := hr.1
        rw [show v = _ from this]
        exact ⟨fun _ => False, ⟨rfl, fun _ hb => hb⟩, fun _ hb => hb.elim, fun y hy => by cases hy⟩
    · cases h1
  | sl t _ =>
    intro c cs d ns vs h1 hr _ hq
    have hq0 := hq c (by simp [slAt])
    unfold moveDen at h1
    unfold moveSl at h1
    split at h1
    · cases h1
      match vs, hr with
      | [v], hr =>
        have := hr.1
        rw [show v = _ from this]
        refine ⟨fun _ => False, ?_, fun _ hb => hb.elim, fun y hy => by cases hy⟩
        unfold Deep
        rw [hq0]
        exact ⟨_, 0, [], fun _ _ => False, rfl, World.ownsRow_nil _ _ _ _, ⟨fun b => by simp [Value.ownBlock], fun b j hj => absurd hj (by simp), fun j k b hj => absurd hj (by simp)⟩, fun j hj => absurd hj (by simp)⟩
    · rename_i x _
      match vs, hr with
      | [v], hr =>
        have hr := hr.1
        split at h1
        · rename_i e t' l kn hl
          split at h1
          · rename_i l0 hl0
            cases h1
            obtain ⟨e1, e2⟩ := castL_spec hl0
            subst e1
            obtain rfl : d = l := e2
            obtain ⟨hv, hrep⟩ := own_rep (v := v) h hr hl
            obtain ⟨_, e', xs, Fs, _, r2, r3, r4⟩ := hrep
            refine ⟨fun b => b ∈ fp x, ?_, fun b hb => ⟨x, by simp, hb⟩, fun y hy => ?_⟩
            · unfold Deep
              rw [hq0]
              rw [hv]
              exact ⟨_, e', xs, Fs, rfl, r2, r3, fun j hj => r4 j hj⟩
            · rw [List.mem_singleton.1 hy]; exact ⟨_, _, _, _, hl⟩
          · cases h1
        · rename_i e t' l hl
          split at h1
          · rename_i hf
            split at h1
            · rename_i l0 hl0
              cases h1
              obtain ⟨e1, e2⟩ := castL_spec hl0
              subst e1
              obtain rfl : d = l := e2
              obtain ⟨hv, hrep⟩ := own_rep (v := v) h hr hl
              obtain ⟨xs, r1, r2, r3⟩ := hrep
              refine ⟨fun b => b ∈ fp x, ?_, fun b hb => ⟨x, by simp, hb⟩, fun y hy => ?_⟩
              · unfold Deep
                rw [hq0]
                rw [hv]
                refine ⟨_, e, xs, fun _ _ => False, rfl, r1, ⟨fun b => ?_, fun _ _ _ _ hb => hb, fun _ _ _ _ _ _ hb => hb.elim⟩, fun j hj => flat_deep hf (r3 j hj)⟩
                rw [r2]
                simp
              · rw [List.mem_singleton.1 hy]; exact ⟨_, _, _, _, hl⟩
            · cases h1
          · cases h1
        · cases h1
    · cases h1
  | pair a b iha ihb =>
    intro c cs d ns vs h1 hr hnd hq
    unfold moveDen at h1
    split at h1
    · rename_i x ns1 hx
      split at h1
      · rename_i y ns2 hy
        cases h1
        obtain ⟨nd1, nd2, nd3⟩ := List.nodup_append.1 hnd
        obtain ⟨F1, k1, k2, k3⟩ := iha (c := c) hx (hr.take _) nd1 (fun q h => hq q (by simp [slAt, h]))
        obtain ⟨F2, m1, m2, m3⟩ := ihb (c := c + a.size) hy (hr.drop _) nd2 (fun q h => hq q (by simp [slAt, h]))
        refine ⟨fun b => F1 b ∨ F2 b, ⟨vs.take a.size, vs.drop a.size, F1, F2, (List.take_append_drop _ _).symm, fun _ => Iff.rfl, fun b hb hb' => ?_, k1, m1⟩, fun b hb => ?_, fun z hz => ?_⟩
        · obtain ⟨y1, q1, q2⟩ := k2 b hb
          obtain ⟨y2, q3, q4⟩ := m2 b hb'
          obtain ⟨_, _, _, _, o1⟩ := k3 y1 q1
          obtain ⟨_, _, _, _, o2⟩ := m3 y2 q3
          exact h.apart y1 y2 _ _ (fun e0 => nd3 y1 q1 y2 q3 e0) o1 o2 b q2 q4
        · rcases hb with hb | hb
          · obtain ⟨y1, q1, q2⟩ := k2 b hb; exact ⟨y1, by simp [q1], q2⟩
          · obtain ⟨y1, q1, q2⟩ := m2 b hb; exact ⟨y1, by simp [q1], q2⟩
        · rcases List.mem_append.1 hz with hz | hz
          · exact k3 z hz
          · exact m3 z hz
      · cases h1
    · cases h1

theorem moveDen_len : ∀ {t : Ty} {cs : List CV} {d : t.den} {ns : List Nat}, moveDen st t cs = some (d, ns) → cs.length = t.size ∨ True := fun _ => .inr trivial

theorem setMove_rep (h : Objs Γ val fp st w) {hs : Nat → Option Nat} : ∀ {t : Ty} {c0 : Nat} {d d' : t.den} {c : Nat} {cs : List CV} {ns : List Nat} {vs es : List Value} {F : Nat → Prop}, Deep w val t hs c0 d es F → setMove st t d c cs = some (d', ns) →
    All2 (CvRep w (NoGo Γ.X st fp) val st) cs vs → ns.Nodup → (∀ q ∈ slAt t c0, c0 + c ≤ q → q < c0 + c + cs.length → hs q = none) → (∀ y ∈ ns, ∀ b ∈ fp y, ¬ F b) →
    (∃ F', Deep w val t hs c0 d' (es.take c ++ vs ++ es.drop (c + vs.length)) F' ∧ (∀ b, F' b → F b ∨ ∃ y ∈ ns, b ∈ fp y) ∧ ∀ y ∈ ns, ∃ e t l kd, lk st y = some (.sl e t l kd)) ∧ c + vs.length ≤ t.size := by
  have base : ∀ {t : Ty} {c0 : Nat} {d d' : t.den} {c : Nat} {cs : List CV} {ns : List Nat} {vs es : List Value} {F : Nat → Prop}, c = 0 → cs.length = t.size → Deep w val t hs c0 d es F → moveDen st t cs = some (d', ns) →
      All2 (CvRep w (NoGo Γ.X st fp) val st) cs vs → ns.Nodup → (∀ q ∈ slAt t c0, c0 + c ≤ q → q < c0 + c + cs.length → hs q = none) →
      (∃ F', Deep w val t hs c0 d' (es.take c ++ vs ++ es.drop (c + vs.length)) F' ∧ (∀ b, F' b → F b ∨ ∃ y ∈ ns, b ∈ fp y) ∧ ∀ y ∈ ns, ∃ e t l kd, lk st y = some (.sl e t l kd)) ∧ c + vs.length ≤ t.size := by
    intro t c0 d d' c cs ns vs es F hc hl hd hm hr hnd hq
    subst hc
    have hvl := hr.length
    have hel := hd.length
    obtain ⟨F', k1, k2, k3⟩ := move_rep h (c := c0) hm hr hnd (fun q hqq => hq q hqq (by have := (slAt_range hqq).1; omega) (by have := (slAt_range hqq).2; omega))
    refine ⟨⟨F', ?_, fun b hb => .inr (k2 b hb), k3⟩, by omega⟩
    rw [List.take_zero, List.nil_append, List.drop_eq_nil_of_le (by omega), List.append_nil]
    exact k1
  intro t
  induction t with
  | int k =>
    intro c0 d d' c cs ns vs es F hd hm hr hnd hq hfr
    unfold setMove at hm
    split at hm
    · rename_i hc; rw [Bool.and_eq_true] at hc; exact base (beq_lk.1 hc.1) (beq_lk.1 hc.2) hd hm hr hnd hq
    · cases hm
  | bool =>
    intro c0 d d' c cs ns vs es F hd hm hr hnd hq hfr
    unfold setMove at hm
    split at hm
    · rename_i hc; rw [Bool.and_eq_true] at hc; exact base (beq_lk.1 hc.1) (beq_lk.1 hc.2) hd hm hr hnd hq
    · cases hm
  | str =>
    intro c0 d d' c cs ns vs es F hd hm hr hnd hq hfr
    unfold setMove at hm
    split at hm
    · rename_i hc; rw [Bool.and_eq_true] at hc; exact base (beq_lk.1 hc.1) (beq_lk.1 hc.2) hd hm hr hnd hq
    · cases hm
  | sl t _ =>
    intro c0 d d' c cs ns vs es F hd hm hr hnd hq hfr
    unfold setMove at hm
    split at hm
    · rename_i hc; rw [Bool.and_eq_true] at hc; exact base (beq_lk.1 hc.1) (beq_lk.1 hc.2) hd hm hr hnd hq
    · cases hm
  | pair a b iha ihb =>
    intro c0 d d' c cs ns vs es F hd hm hr hnd hq hfr
    have hvl := hr.length
    unfold setMove at hm
    split at hm
    · rename_i hc; rw [Bool.and_eq_true] at hc; exact base (beq_lk.1 hc.1) (beq_lk.1 hc.2) hd hm hr hnd hq
    · obtain ⟨c1, c2, F1, F2, q1, q2, q3, q4, q5⟩ := hd
      have l1 := q4.length
      split at hm
      · rename_i hle
        have hle := Nat.le_of_ble_eq_true hle
        split at hm
        · rename_i x ns' hx
          cases hm
          obtain ⟨⟨F', k1, k2, k3⟩, k4⟩ := iha q4 hx hr hnd (fun q hqq => hq q (by simp [slAt, hqq])) (fun y hy x hx hF => hfr y hy x hx ((q2 x).2 (.inl hF)))
          refine ⟨⟨fun x => F' x ∨ F2 x, ⟨_, c2, F', F2, ?_, fun _ => Iff.rfl, fun x hx hx' => ?_, k1, q5⟩, fun x hx => ?_, k3⟩, by simp only [Ty.size]; omega⟩
          · rw [q1, List.take_append_of_le_length (by omega), List.drop_append_of_le_length (by omega)]
            simp only [List.append_assoc]
          · rcases k2 x hx with hx | ⟨y, hy, hx⟩
            · exact q3 x hx hx'
            · exact hfr y hy x hx ((q2 x).2 (.inr hx'))
          · rcases hx with hx | hx
            · exact (k2 x hx).imp (fun hx => (q2 x).2 (.inl hx)) id
            · exact .inl ((q2 x).2 (.inr hx))
        · cases hm
      · split at hm
        · rename_i hge
          have hge := Nat.le_of_ble_eq_true hge
          split at hm
          · rename_i y ns' hy
            cases hm
            obtain ⟨⟨F', k1, k2, k3⟩, k4⟩ := ihb q5 hy hr hnd (fun q hqq h1 h2 => hq q (by simp [slAt, hqq]) (by omega) (by omega)) (fun y hy x hx hF => hfr y hy x hx ((q2 x).2 (.inr hF)))
            refine ⟨⟨fun x => F1 x ∨ F' x, ⟨c1, _, F1, F', ?_, fun _ => Iff.rfl, fun x hx hx' => ?_, q4, k1⟩, fun x hx => ?_, k3⟩, by simp only [Ty.size]; omega⟩
            · rw [q1, List.take_append, List.take_of_length_le (by omega), List.drop_append, List.drop_eq_nil_of_le (by omega), List.nil_append, l1, show c + vs.length - a.size = c - a.size + vs.length by omega]
              simp only [List.append_assoc]
            · rcases k2 x hx' with hx' | ⟨y, hy, hx'⟩
              · exact q3 x hx hx'
              · exact hfr y hy x hx' ((q2 x).2 (.inl hx))
            · rcases hx with hx | hx
              · exact .inl ((q2 x).2 (.inl hx))
              · exact (k2 x hx).imp (fun hx => (q2 x).2 (.inr hx)) id
          · cases hm
        · cases hm

theorem noSl_spec {c n : Nat} : ∀ {l : List Nat}, noSl c n l = true → ∀ q ∈ l, c ≤ q → ¬ q < c + n
  | q :: r, h, q', hq, h1, h2 => by
    unfold noSl at h
    rcases List.mem_cons.1 hq with rfl | hq
    · rw [show Nat.ble c q' = true from Nat.ble_eq_true_of_le h1, show Nat.blt q' (c + n) = true by simpa [Nat.blt_eq] using h2] at h
      cases h
    · split at h
      · split at h
        · cases h
        · exact noSl_spec h q' hq h1 h2
      · exact noSl_spec h q' hq h1 h2

theorem app3_lo {A V B : List Value} {j : Nat} (h : j < A.length) : (A ++ V ++ B)[j]? = A[j]? := by rw [List.append_assoc, List.getElem?_append_left h]
theorem app3_mid {A V B : List Value} {j p : Nat} (hA : A.length = p) (h : p ≤ j) (h2 : j - p < V.length) : (A ++ V ++ B)[j]? = V[j - p]? := by rw [List.append_assoc, List.getElem?_append_right (by omega), hA, List.getElem?_append_left h2]
theorem app3_hi {A V B : List Value} {j p : Nat} (hA : A.length = p) (h : p ≤ j) (h2 : ¬ j - p < V.length) : (A ++ V ++ B)[j]? = B[j - p - V.length]? := by rw [List.append_assoc, List.getElem?_append_right (by omega), hA, List.getElem?_append_right (by omega)]

/-- A run of cells stored into an owned row. -/
theorem own_seg {e : TypeId} {size n cap g p : Nat} {xs vs : List Value} (h : w.ownsRow 0 e size (.slice (some ⟨g, 0, none⟩) n cap) n xs) (hp : p + vs.length ≤ n * size) (h1 : ∀ u ∈ vs, u.oneCell' = true) :
    ∃ w', (storeCells ⟨g, p, none⟩ vs 0).run P w = .ok () w' ∧ w'.ownsRow 0 e size (.slice (some ⟨g, 0, none⟩) n cap) n (xs.take p ++ vs ++ xs.drop (p + vs.length)) ∧ w'.os = w.os ∧ w'.tape = w.tape ∧ w'.output = w.output ∧ w'.heap.size = w.heap.size ∧
      ∀ b, b ≠ g → w'.heap[b]? = w.heap[b]? := by
  obtain ⟨hx, hh⟩ := h
  rcases hh with ⟨h0, _⟩ | ⟨g', cap', cur, h0, hb, hg, hn, hm, hs, ht⟩
  · simp at h0
  · simp only [Value.slice.injEq, Option.some.injEq, Addr.mk.injEq, and_true, true_and] at h0
    obtain ⟨rfl, rfl⟩ := h0
    have hle : n * size ≤ cap * size := Nat.mul_le_mul_right _ hn
    have hrun := run_storeCells_at (P := P) g p e vs 0 cur w hg (by omega) h1
    rw [Nat.add_zero] at hrun
    refine ⟨_, hrun, ⟨?_, .inr ⟨g, cap, _, rfl, hb, setRow_heap w g cur _ e _ hg, hn, hm, ?_, ?_⟩⟩, rfl, rfl, rfl, by simp, fun b hb' => setRow_other w g b _ hb'⟩
    · simp only [List.length_append, List.length_take, List.length_drop]
      omega
    · have : cur.toList.length = cap * size := by simpa using hs
      simp only [List.size_toArray, List.length_append, List.length_take, List.length_drop]
      omega
    · have hc : cur.toList.length = cap * size := by simpa using hs
      rw [List.toList_toArray, ← ht]
      apply List.ext_getElem?
      intro j
      have hlen : (cur.toList.take p).length = p := by simp; omega
      have hlen2 : ((cur.toList.take (n * size)).take p).length = p := by simp; omega
      by_cases hj : j < n * size
      · rw [List.getElem?_take, if_pos hj]
        by_cases hjp : j < p
        · rw [app3_lo (by omega), app3_lo (by omega), List.getElem?_take, List.getElem?_take, List.getElem?_take, if_pos hjp, if_pos hjp, if_pos hj]
        · by_cases hjv : j - p < vs.length
          · rw [app3_mid hlen (by omega) hjv, app3_mid hlen2 (by omega) hjv]
          · rw [app3_hi hlen (by omega) hjv, app3_hi hlen2 (by omega) hjv, List.getElem?_drop, List.getElem?_drop, List.getElem?_take, if_pos (by omega)]
      · rw [List.getElem?_take, if_neg hj, List.getElem?_eq_none]
        simp only [List.length_append, List.length_take, List.length_drop]
        omega

theorem seg_other {xs vs : List Value} {size i j p : Nat} (hij : j ≠ i) (h1 : i * size ≤ p) (h2 : p + vs.length ≤ i * size + size) (hp : p + vs.length ≤ xs.length) :
    ((xs.take p ++ vs ++ xs.drop (p + vs.length)).drop (j * size)).take size = (xs.drop (j * size)).take size := by
  apply List.ext_getElem?
  intro q
  by_cases hq : q < size
  · rw [take_drop_get hq, take_drop_get hq]
    have hlen : (xs.take p).length = p := by simp; omega
    rcases Nat.lt_or_gt_of_ne hij with hlt | hlt
    · have := Nat.mul_le_mul_right size (show j + 1 ≤ i by omega)
      rw [Nat.add_mul] at this
      rw [app3_lo (by omega), List.getElem?_take, if_pos (by omega)]
    · have := Nat.mul_le_mul_right size (show i + 1 ≤ j by omega)
      rw [Nat.add_mul] at this
      rw [app3_hi hlen (by omega) (by omega), List.getElem?_drop]
      congr 1
      omega
  · rw [List.getElem?_take, if_neg hq, List.getElem?_take, if_neg hq]

theorem seg_same {xs vs : List Value} {size i c : Nat} (h2 : c + vs.length ≤ size) (hp : i * size + size ≤ xs.length) :
    ((xs.take (i * size + c) ++ vs ++ xs.drop (i * size + c + vs.length)).drop (i * size)).take size = ((xs.drop (i * size)).take size).take c ++ vs ++ ((xs.drop (i * size)).take size).drop (c + vs.length) := by
  apply List.ext_getElem?
  intro q
  have hl0 : ((xs.drop (i * size)).take size).length = size := by simp; omega
  have hl1 : (((xs.drop (i * size)).take size).take c).length = c := by simp; omega
  have hlen : (xs.take (i * size + c)).length = i * size + c := by simp; omega
  by_cases hq : q < size
  · rw [take_drop_get hq]
    by_cases hqc : q < c
    · rw [app3_lo (by omega), List.getElem?_take, if_pos (by omega), app3_lo (by omega), List.getElem?_take, if_pos hqc, take_drop_get hq]
    · by_cases hqv : q - c < vs.length
      · rw [app3_mid hlen (by omega) (by omega), app3_mid hl1 (by omega) hqv]
        congr 1; omega
      · rw [app3_hi hlen (by omega) (by omega), app3_hi hl1 (by omega) hqv, List.getElem?_drop, List.getElem?_drop, take_drop_get (by omega)]
        congr 1; omega
  · rw [List.getElem?_take, if_neg hq, List.getElem?_eq_none]
    simp only [List.length_append, hl1, List.length_drop, hl0]
    omega

/-- A STORE INTO A ROW OF ROWS: the rows among what is stored are given away. -/
theorem store_deep (h : Objs Γ val fp st w) {x g n cap i c : Nat} {e : TypeId} {t : Ty} {l : List t.den} {d : t.den} {kn : Bool} {hh : Hole} {cs : List CV} {vs : List Value} {ns : List Nat} (hx : lk st x = some (.sl e t l (.deep kn hh))) (hg : val x = .slice (some ⟨g, 0, none⟩) n cap) (hi : i < l.length)
    (hm : setMove st t (l.getD i t.dflt) c cs = some (d, ns)) (hr : All2 (CvRep w (NoGo Γ.X st fp) val st) cs vs) (h1 : ∀ u ∈ vs, u.oneCell' = true) (hnd : (x :: ns).Nodup)
    (hq : ∀ q ∈ slAt t 0, c ≤ q → q < c + cs.length → holeAt hh i q = none) :
    ∃ w' fp', (storeCells ⟨g, i * t.size + c, none⟩ vs 0).run P w = .ok () w' ∧ Step Γ val val fp fp' st (sput (kill st ns) x (.sl e t (l.set i d) (.deep kn hh))) w w' := by
  classical
  obtain ⟨hxn, hnn⟩ := List.nodup_cons.1 hnd
  obtain ⟨r0, e', xs, Fs, r1, r2, r3, r4⟩ := h.rep x _ hx
  rw [getD_at hi] at hm
  have hnl : n = l.length := by
    obtain ⟨A, cap', h0⟩ := own_shape r2
    rw [hg] at h0
    simp at h0
    exact h0.2.1
  subst hnl
  have hapx : ∀ {y : Nat}, y ∈ ns → (∃ o, lk st y = some o) → ∀ b ∈ fp y, b ∉ fp x := fun hy ⟨o, ho⟩ b hb hbx => h.apart x _ _ o (fun e0 => hxn (e0 ▸ hy)) hx ho b hbx hb
  have hfx : ∀ b, Fs i b → b ∈ fp x := fun b hb => (r3.all b).2 (.inr ⟨i, hi, hb⟩)
  have hthere : ∀ {t : Ty} {d d' : t.den} {c : Nat} {cs : List CV} {ns : List Nat}, setMove st t d c cs = some (d', ns) → ∀ y ∈ ns, ∃ o, lk st y = some o := by
    have mv : ∀ {t : Ty} {cs : List CV} {d : t.den} {ns : List Nat}, moveDen st t cs = some (d, ns) → ∀ y ∈ ns, ∃ o, lk st y = some o := by
      intro t
      induction t with
      | int k => intro cs d ns h1 y hy; unfold moveDen at h1; split at h1 <;> cases h1; cases hy
      | bool => intro cs d ns h1 y hy; unfold moveDen at h1; split at h1 <;> cases h1; cases hy
      | str => intro cs d ns h1 y hy; unfold moveDen at h1; split at h1 <;> cases h1; cases hy
      | sl t _ =>
        intro cs d ns h1 y hy
        unfold moveDen moveSl at h1
        split at h1
        · cases h1; cases hy
        · rename_i x
          split at h1
          · rename_i hl
            split at h1
            · cases h1; rw [List.mem_singleton.1 hy]; exact ⟨_, hl⟩
            · cases h1
          · rename_i hl
            split at h1
            · split at h1
              · cases h1; rw [List.mem_singleton.1 hy]; exact ⟨_, hl⟩
              · cases h1
            · cases h1
          · cases h1
        · cases h1
      | pair a b iha ihb =>
        intro cs d ns h1 y hy
        unfold moveDen at h1
        split at h1
        · rename_i hx
          split at h1
          · rename_i hy'
            cases h1
            rcases List.mem_append.1 hy with hy | hy
            · exact iha hx y hy
            · exact ihb hy' y hy
          · cases h1
        · cases h1
    intro t
    induction t with
    | int k => intro d d' c cs ns h1; unfold setMove at h1; split at h1; exact mv h1; cases h1
    | bool => intro d d' c cs ns h1; unfold setMove at h1; split at h1; exact mv h1; cases h1
    | str => intro d d' c cs ns h1; unfold setMove at h1; split at h1; exact mv h1; cases h1
    | sl t _ => intro d d' c cs ns h1; unfold setMove at h1; split at h1; exact mv h1; cases h1
    | pair a b iha ihb =>
      intro d d' c cs ns h1
      unfold setMove at h1
      split at h1
      · exact mv h1
      · split at h1
        · split at h1
          · rename_i hx; cases h1; exact iha hx
          · cases h1
        · split at h1
          · split at h1
            · rename_i hx; cases h1; exact ihb hx
            · cases h1
          · cases h1
  have hth := hthere hm
  obtain ⟨⟨F', k1, k2, k3⟩, k4⟩ := setMove_rep h (r4 i hi) hm hr hnn (fun q hq1 hq2 hq3 => hq q hq1 (by omega) (by omega)) (fun y hy b hb hF => hapx hy (hth y hy) b hb (hfx b hF))
  rw [hg] at r2
  have hxl : xs.length = l.length * t.size := r2.1
  have hin : i * t.size + t.size ≤ l.length * t.size := by
    have := Nat.mul_le_mul_right t.size (show i + 1 ≤ l.length by omega)
    rw [Nat.add_mul] at this
    omega
  obtain ⟨w', p1, p2, p3, p4, p5, p6, p7⟩ := own_seg (P := P) r2 (p := i * t.size + c) (vs := vs) (by omega) h1
  have hgo : ∀ b, (val x).ownBlock = some b ↔ b = g := fun b => by rw [hg]; simp [Value.ownBlock, eq_comm]
  have hkeepF : ∀ b, b ≠ g → w'.heap[b]? = w.heap[b]? := p7
  have hgx : g ∈ fp x := (r3.all g).2 (.inl ((hgo g).2 rfl))
  have hF'g : ∀ b, F' b → b ≠ g := fun b hb e0 => by
    rcases k2 b hb with hb | ⟨y, hy, hb⟩
    · exact r3.own b i hi ((hgo b).2 e0) hb
    · rw [e0] at hb; exact hapx hy (hth y hy) g hb hgx
  have hFsg : ∀ j b, j < l.length → Fs j b → b ≠ g := fun j b hj hb e0 => r3.own b j hj ((hgo b).2 e0) hb
  let Fs' : Nat → Nat → Prop := fun j b => if j = i then F' b else Fs j b
  have hFs'1 : ∀ b, Fs' i b ↔ F' b := fun b => by simp [Fs']
  have hFs'2 : ∀ j b, j ≠ i → (Fs' j b ↔ Fs j b) := fun j b hj => by simp [Fs', hj]
  refine ⟨w', _, p1, give_step h (F := ((fp x ++ ns.flatMap fp).filter fun b => decide ((val x).ownBlock = some b ∨ ∃ j, j < l.length ∧ Fs' j b))) (ob' := .sl e t (l.set i d) (.deep kn hh)) hx (show Compat (.sl _ _ _ _) (.sl _ _ _ _) from And.intro rfl (And.intro rfl (by simp))) hxn k3 p3 p4 p5 p6 (fun b hb hnb => p7 b (fun e0 => hnb (e0 ▸ hgx))) (fun b hb => ?_) (fun hkept hstay => ?_)⟩
  · simp only [List.mem_filter, List.mem_append, List.mem_flatMap] at hb
    exact hb.1
  · refine ⟨?_, e', _, Fs', r1, by rw [List.length_set, hg]; exact p2, ⟨fun b => ?_, fun b j hj ho hb => ?_, fun j j' b hj hj' hjj hb hb' => ?_⟩, fun j hj => ?_⟩
    · cases hh with
      | no => trivial
      | _ => rename_i i0 lo n0 base; exact ⟨by rw [List.length_set]; exact r0.1, fun q hq y hy => by
          obtain ⟨o, ho⟩ := r0.2 q hq y hy
          obtain ⟨o', ho', _⟩ := hstay y o ho
          exact ⟨o', ho'⟩⟩
    · rw [List.length_set]
      simp only [List.mem_filter, List.mem_append, List.mem_flatMap, decide_eq_true_eq]
      refine ⟨fun hb => hb.2, fun hb => ⟨?_, hb⟩⟩
      rcases hb with hb | ⟨j, hj, hb⟩
      · exact .inl ((r3.all b).2 (.inl hb))
      · by_cases hji : j = i
        · subst hji
          rcases k2 b ((hFs'1 b).1 hb) with hb | ⟨y, hy, hb⟩
          · exact .inl (hfx b hb)
          · exact .inr ⟨y, hy, hb⟩
        · exact .inl ((r3.all b).2 (.inr ⟨j, hj, (hFs'2 j b hji).1 hb⟩))
    · rw [List.length_set] at hj
      by_cases hji : j = i
      · subst hji; exact hF'g b ((hFs'1 b).1 hb) ((hgo b).1 ho)
      · exact r3.own b j hj ho ((hFs'2 j b hji).1 hb)
    · rw [List.length_set] at hj hj'
      have far : ∀ {j : Nat}, j < l.length → j ≠ i → Fs j b → F' b → False := fun {j} hj hji hb hb' => by
        rcases k2 b hb' with hb' | ⟨y, hy, hb'⟩
        · exact r3.apart j i b hj hi hji hb hb'
        · exact hapx hy (hth y hy) b hb' ((r3.all b).2 (.inr ⟨j, hj, hb⟩))
      by_cases hji : j = i
      · subst hji
        have hj2 : j' ≠ j := fun e0 => hjj e0.symm
        exact far hj' hj2 ((hFs'2 j' b hj2).1 hb') ((hFs'1 b).1 hb)
      · by_cases hji' : j' = i
        · subst hji'; exact far hj hji ((hFs'2 j b hji).1 hb) ((hFs'1 b).1 hb')
        · exact r3.apart j j' b hj hj' hjj ((hFs'2 j b hji).1 hb) ((hFs'2 j' b hji').1 hb')
    · rw [List.length_set] at hj
      by_cases hji : j = i
      · subst hji
        rw [seg_same k4 (by omega)]
        simp only [List.getElem_set_self]
        exact ((k1.kept (fun b hb => hkeepF b (hF'g b hb)) (fun _ _ _ _ => rfl)).congr (hFs'1 ·))
      · rw [seg_other hji (by omega) (by omega) (by omega), List.getElem_set_ne (fun e0 => hji e0.symm)]
        exact (((r4 j hj).kept (fun b hb => hkeepF b (hFsg j b hj hb)) (fun _ _ _ _ => rfl)).congr (fun b => hFs'2 j b hji))

end
end Go.AE
