/-
  Stores; slice literals; make.
-/
import Derived.Test.YtpjbfmifmikloaaAEOps5
namespace Go.AE
open Go Go.RowKit

section
variable {P : Program} {C : Cfg} {Γ : Ctx} {val val' val'' : Nat → Value} {fp fp' fp'' : Nat → List Nat} {ρ : Env} {st st' st'' : St} {a : Act} {w w' w'' : World} {o : Oper} {k : AV → St → Prop} {K : Act → World → Prop} {Q : Exit → Act → World → Prop}

theorem mem_owns {x : Nat} : ∀ {l : List CV}, x ∈ ownsIn l ↔ ∃ n, CV.own x n ∈ l
  | [] => by simp [ownsIn]
  | y :: l => by
    have ih := mem_owns (x := x) (l := l)
    cases y with
    | own z n =>
      constructor
      · intro h
        rcases List.mem_cons.1 (show x ∈ z :: ownsIn l from h) with rfl | h
        · exact ⟨n, List.mem_cons_self⟩
        · obtain ⟨m, hm⟩ := ih.1 h
          exact ⟨m, List.mem_cons_of_mem _ hm⟩
      · rintro ⟨m, hm⟩
        show x ∈ z :: ownsIn l
        rcases List.mem_cons.1 hm with e | hm
        · cases e; exact List.mem_cons_self
        · exact List.mem_cons_of_mem _ (ih.2 ⟨m, hm⟩)
    | _ => simp [ownsIn, ih]

theorem freeze_lk {x : Nat} {e : TypeId} {t : Ty} {l : List t.den} : ∀ (ns : List Nat) {st : St} {kd : Kind}, openK kd = false → lk st x = some (.sl e t l kd) → (x ∈ ns ∨ kd = .frozen → lk (freeze st ns) x = some (.sl e t l .frozen)) ∧ (x ∉ ns → lk (freeze st ns) x = some (.sl e t l kd))
  | [], st, kd, _, h => ⟨fun hx => by rcases hx with hx | rfl; (cases hx); exact h, fun _ => h⟩
  | y :: ns, st, kd, hk, h => by
    unfold freeze
    split
    · rename_i e' t' l' kd' hy
      split
      · rename_i hk'
        have hxy : x ≠ y := fun e0 => by subst e0; rw [h] at hy; cases hy; rw [hk] at hk'; cases hk'
        have ih := freeze_lk ns hk h
        exact ⟨fun hx => ih.1 (hx.imp (fun hx => (List.mem_cons.1 hx).resolve_left hxy) id), fun hn => ih.2 (fun hm => hn (List.mem_cons_of_mem _ hm))⟩
      · by_cases hxy : x = y
        · subst hxy
          rw [h] at hy
          cases hy
          have h1 : lk (sput st x (.sl e t l .frozen)) x = some (.sl e t l .frozen) := by rw [lk_sput, if_pos rfl, h]; rfl
          have ih := freeze_lk ns (kd := .frozen) rfl h1
          exact ⟨fun _ => ih.1 (.inr rfl), fun hn => absurd (List.mem_cons_self) hn⟩
        · have h1 : lk (sput st y (.sl e' t' l' .frozen)) x = some (.sl e t l kd) := by rw [lk_sput, if_neg hxy]; exact h
          have ih := freeze_lk ns hk h1
          exact ⟨fun hx => ih.1 (hx.imp (fun hx => (List.mem_cons.1 hx).resolve_left hxy) id), fun hn => ih.2 (fun hm => hn (List.mem_cons_of_mem _ hm))⟩
    · rename_i hy
      have hxy : x ≠ y := fun e0 => by subst e0; exact hy _ _ _ _ h
      have ih := freeze_lk ns hk h
      exact ⟨fun hx => ih.1 (hx.imp (fun hx => (List.mem_cons.1 hx).resolve_left hxy) id), fun hn => ih.2 (fun hm => hn (List.mem_cons_of_mem _ hm))⟩

theorem castL_rep {N : Nat → Prop} {t t' : Ty} {l' : List t'.den} {l : List t.den} {vs : List Value} (hc : castL t t' l' = some l) (h : Imm w N (.sl t') l' vs) : Imm w N (.sl t) l vs := by
  unfold castL at hc
  split at hc
  · rename_i e _
    subst e
    cases hc
    exact h
  · cases hc

theorem castL_spec {t t' : Ty} {l' : List t'.den} {l : List t.den} (hc : castL t t' l' = some l) : ∃ h : t' = t, l = h ▸ l' := by
  unfold castL at hc
  split at hc
  · rename_i e _
    exact ⟨e, (Option.some.inj hc).symm⟩
  · cases hc

theorem frozen_imm (h : Objs Γ val fp st w) {x : Nat} {n : Bool} {v : Value} (hv : CvRep w (NoGo Γ.X st fp) val st (.own x n) v) {e : TypeId} {t : Ty} {l : List t.den} (hx : lk st x = some (.sl e t l .frozen)) : Imm w (NoGo Γ.X st fp) (.sl t) l [v] := by
  obtain ⟨h1, h2⟩ := own_rep (v := v) h hv hx
  rw [h1]
  exact h2.2.1

/-- Cells that make up a datum, their owned rows being frozen by now. -/
theorem ofCV_rep (h : Objs Γ val fp st' w) : ∀ {t : Ty} {cs : List CV} {d : t.den} {vs : List Value}, ofCV st t cs = some d →
    (∀ x n, CV.own x n ∈ cs → ∀ e t l kd, openK kd = false → lk st x = some (.sl e t l kd) → lk st' x = some (.sl e t l .frozen)) → All2 (CvRep w (NoGo Γ.X st' fp) val st') cs vs → Imm w (NoGo Γ.X st' fp) t d vs := by
  intro t
  induction t with
  | int k =>
    intro cs d vs h1 _ hr
    have h1 : ofInt k cs = some d := h1
    unfold ofInt at h1
    split at h1
    · rename_i k' n
      split at h1
      · rename_i hs
        have := same_eq hs
        subst this
        cases h1
        match vs, hr with
        | [v], hr =>
          obtain ⟨h2, h3⟩ := hr.1
          subst h2
          exact And.intro rfl h3
      · cases h1
    · cases h1
  | bool =>
    intro cs d vs h1 _ hr
    have h1 : ofBool cs = some d := h1
    unfold ofBool at h1
    split at h1 <;> first | (cases h1; done) | skip
    all_goals
      cases h1
      match vs, hr with
      | [v], hr =>
        have := hr.1
        rw [show v = _ from this]
        rfl
  | str =>
    intro cs d vs h1 _ hr
    have h1 : ofStr cs = some d := h1
    unfold ofStr at h1
    split at h1 <;> first | (cases h1; done) | skip
    cases h1
    match vs, hr with
    | [v], hr =>
      have := hr.1
      rw [show v = _ from this]
      rfl
  | sl t ih =>
    intro cs d vs h1 hf hr
    have h1 : ofSl st t cs = some d := h1
    unfold ofSl at h1
    split at h1
    · cases h1
      match vs, hr with
      | [v], hr =>
        have := hr.1
        rw [show v = _ from this]
        exact ⟨none, 0, rfl, Nat.le_refl _, Nat.zero_le _, fun h => absurd h (by simp)⟩
    · match vs, hr with
      | [v], hr => exact castL_rep h1 hr.1
    · split at h1
      · rename_i e t' l kd hx
        split at h1
        · cases h1
        · rename_i hk
          match vs, hr with
          | [v], hr => exact castL_rep h1 (frozen_imm h hr.1 (hf _ _ List.mem_cons_self _ _ _ _ hk hx))
      · cases h1
    · cases h1
  | pair a b iha ihb =>
    intro cs d vs h1 hf hr
    unfold ofCV at h1
    split at h1
    · rename_i x hx
      split at h1
      · rename_i y hy
        cases h1
        exact ⟨vs.take a.size, vs.drop a.size, (List.take_append_drop _ _).symm, iha hx (fun z n hz => hf z n (List.mem_of_mem_take hz)) (hr.take _), ihb hy (fun z n hz => hf z n (List.mem_of_mem_drop hz)) (hr.drop _)⟩
      · cases h1
    · cases h1

theorem imm_one {N : Nat → Prop} : ∀ {t : Ty} {d : t.den} {cs : List Value}, Imm w N t d cs → ∀ v ∈ cs, v.oneCell' = true
  | .int _, _, _, h, v, hv => by rw [h.1] at hv; simp at hv; subst hv; rfl
  | .bool, _, _, h, v, hv => by rw [show _ = _ from h] at hv; simp at hv; subst hv; rfl
  | .str, _, _, h, v, hv => by rw [show _ = _ from h] at hv; simp at hv; subst hv; rfl
  | .sl _, _, _, h, v, hv => by obtain ⟨A, cap, rfl, _⟩ := h; simp at hv; subst hv; rfl
  | .pair _ _, _, _, h, v, hv => by
    obtain ⟨c1, c2, rfl, h1, h2⟩ := h
    rcases List.mem_append.1 hv with h | h
    · exact imm_one h1 v h
    · exact imm_one h2 v h

/-- One cell of a datum replaced. -/
theorem setDen_rep (h : Objs Γ val fp st' w) : ∀ {t : Ty} {d d' : t.den} {c : Nat} {x : CV} {v : Value} {es : List Value}, setDen st t d c [x] = some d' →
    (∀ y n, CV.own y n ∈ [x] → ∀ e t l kd, openK kd = false → lk st y = some (.sl e t l kd) → lk st' y = some (.sl e t l .frozen)) → CvRep w (NoGo Γ.X st' fp) val st' x v → Imm w (NoGo Γ.X st' fp) t d es → Imm w (NoGo Γ.X st' fp) t d' (es.set c v) ∧ c < t.size := by
  have one : ∀ {t : Ty} {d d' : t.den} {c : Nat} {x : CV} {v : Value} {es : List Value}, (∀ a b, t ≠ .pair a b) → setDen st t d c [x] = some d' → c = 0 ∧ ofCV st t [x] = some d' := by
    intro t d d' c x v es ht h1
    cases t <;> cases c <;> first | (exact absurd rfl (ht _ _)) | (exact ⟨rfl, h1⟩) | (cases h1)
  intro t
  induction t with
  | pair a b iha ihb =>
    intro d d' c x v es h1 hf hr hi
    obtain ⟨c1, c2, rfl, i1, i2⟩ := hi
    have l1 := i1.length
    unfold setDen at h1
    split at h1
    · rename_i hlt
      have hlt := of_eq_true_blt hlt
      split at h1
      · rename_i y hy
        cases h1
        obtain ⟨p1, p2⟩ := iha hy hf hr i1
        rw [List.set_append, if_pos (by omega)]
        exact ⟨⟨_, _, rfl, p1, i2⟩, by simp only [Ty.size]; omega⟩
      · cases h1
    · rename_i hlt
      have hge : a.size ≤ c := by
        rcases Nat.lt_or_ge c a.size with h0 | h0
        · rw [show Nat.blt c a.size = true from by simpa [Nat.blt_eq] using h0] at hlt; cases hlt
        · exact h0
      split at h1
      · rename_i y hy
        cases h1
        obtain ⟨p1, p2⟩ := ihb hy hf hr i2
        rw [List.set_append, if_neg (by omega), l1]
        exact ⟨⟨_, _, rfl, i1, p1⟩, by simp only [Ty.size]; omega⟩
      · cases h1
  | _ =>
    intro d d' c x v es h1 hf hr hi
    obtain ⟨rfl, h2⟩ := one (v := v) (es := es) (by intros; simp) h1
    have hl := hi.length
    refine ⟨?_, by simp [Ty.size]⟩
    have h3 := ofCV_rep h h2 hf (vs := [v]) ⟨hr, trivial⟩
    match es, hl with
    | [u], _ => exact h3

/-- A store of cells into a record. -/
theorem store_rc (h : Objs Γ val fp st w) {x g c : Nat} {old cs : List CV} {vs : List Value} (hx : lk st x = some (.rc old)) (hg : val x = .pointer (some ⟨g, 0, none⟩)) (hr : All2 (CvRep w (NoGo Γ.X st fp) val st) cs vs)
    (h1 : ∀ v ∈ vs, v.oneCell' = true) (hfit : c + cs.length ≤ old.length) :
    ∃ w', (storeCells ⟨g, c, none⟩ vs 0).run P w = .ok () w' ∧ Step Γ val val fp fp st (sput st x (.rc (old.take c ++ cs ++ old.drop (c + cs.length)))) w w' := by
  obtain ⟨g', cur, e, r1, r2, r3, r4⟩ := h.rep x _ hx
  rw [hg] at r1
  obtain rfl : g = g' := by simpa using r1
  have hl := hr.length
  have hl2 := r4.length
  have hrun := run_storeCells_at (P := P) g c e vs 0 cur w r3 (by simp at hl2; omega) h1
  rw [Nat.add_zero, ← hl] at hrun
  refine ⟨_, hrun, ?_⟩
  have hlk : ∀ y, lk (sput st x (.rc (old.take c ++ cs ++ old.drop (c + cs.length)))) y = if y = x then some (.rc (old.take c ++ cs ++ old.drop (c + cs.length))) else lk st y := fun y => by rw [lk_sput, hx]; rfl
  have only : ∀ {y : Nat} {ob : Ob}, lk (sput st x (.rc (old.take c ++ cs ++ old.drop (c + cs.length)))) y = some ob → (lk st y = none ∨ y = x) → y = x := fun {y ob} hy hn => by
    rcases hn with hn | hn
    · rw [hlk] at hy
      by_cases e0 : y = x
      · exact e0
      · rw [if_neg e0, hn] at hy; cases hy
    · exact hn
  refine h.step (fun y => y = x) rfl rfl rfl (by simp) (fun b hb hn => setRow_other w g b _ (fun e0 => hn x _ rfl hx (by rw [r2]; simp [e0]))) (fun y ob hy hn => ?_) (fun y ob hy hn => ?_) (fun y ob hy hn b hb => ?_) (fun y z o1 o2 hne hy hz hn hn' b hb => ?_) (fun hkept hstay y ob hy hn => ?_)
  · have hn : ¬ y = x := hn
    rw [hlk, if_neg hn]; exact ⟨hy, rfl, rfl⟩
  · have hn : y = x := hn
    subst hn
    rw [hx] at hy
    obtain rfl := Option.some.inj hy
    exact ⟨.rc (old.take c ++ cs ++ old.drop (c + cs.length)), by rw [hlk, if_pos rfl], (show Compat (.rc old) (.rc _) from trivial), rfl⟩
  · obtain rfl := only hy hn
    obtain ⟨p1, p2⟩ := h.own y _ hx b hb
    exact ⟨by simpa using p1, fun _ => ⟨y, _, rfl, hx, hb⟩⟩
  · exact absurd ((only hy hn).trans (only hz hn').symm) hne
  · obtain rfl := only hy hn
    rw [hlk, if_pos rfl] at hy
    obtain rfl := Option.some.inj hy
    refine ⟨g, _, e, hg, r2, setRow_heap w g cur _ e _ r3, ?_⟩
    have k4 := r4.mono (CvRep.kept hkept hstay)
    have kr := hr.mono (CvRep.kept hkept hstay)
    have := ((k4.take c).append kr).append (k4.drop (c + cs.length))
    rw [List.toList_toArray]
    exact this

/-- A store of one cell into an element of an owned row. -/
theorem store_el (h : Objs Γ val fp st w) {x g c n cap i : Nat} {e : TypeId} {t : Ty} {l : List t.den} {d : t.den} {v : Value} (hx : lk st x = some (.sl e t l .shallow)) (hg : val x = .slice (some ⟨g, 0, none⟩) n cap)
    (hi : i < l.length) (h1 : v.oneCell' = true) (hc : c < t.size) (hd : ∀ es, Imm w (NoGo Γ.X st fp) t l[i] es → Imm w (NoGo Γ.X st fp) t d (es.set c v)) :
    (storeCells ⟨g, i * t.size + c, none⟩ [v] 0).run P w = .ok () (w.setCell ⟨g, i * t.size + c, none⟩ v) ∧ Step Γ val val fp fp st (sput st x (.sl e t (l.set i d) .shallow)) w (w.setCell ⟨g, i * t.size + c, none⟩ v) := by
  obtain ⟨xs, s1, s2, s3⟩ := h.rep x _ hx
  rw [hg] at s1 s2
  have hnl : n = l.length := by
    rcases s1.2 with ⟨h0, _⟩ | ⟨g', cap', cur, h0, _⟩
    · simp at h0
    · simp at h0; exact h0.2.1
  subst hnl
  have hin : i * t.size + c < l.length * t.size := by
    have : (i + 1) * t.size ≤ l.length * t.size := Nat.mul_le_mul_right _ (by omega)
    rw [Nat.add_mul] at this
    omega
  have hcell := s1.cellAt _ hin
  have hxl : xs.length = l.length * t.size := s1.1
  rw [List.getElem?_eq_getElem (by omega)] at hcell
  have hfro := s1.frozenAt (i * t.size + c)
  obtain ⟨k1, k2⟩ := s1.stored (i * t.size + c) v
  refine ⟨?_, ?_⟩
  · simp [storeCells, run_store P w _ v _ h1, hcell, hfro, Addr.add_zero']
  have hlk : ∀ y, lk (sput st x (.sl e t (l.set i d) .shallow)) y = if y = x then some (.sl e t (l.set i d) .shallow) else lk st y := fun y => by rw [lk_sput, hx]; rfl
  have only : ∀ {y : Nat} {ob : Ob}, lk (sput st x (.sl e t (l.set i d) .shallow)) y = some ob → (lk st y = none ∨ y = x) → y = x := fun {y ob} hy hn => by
    rcases hn with hn | hn
    · rw [hlk] at hy
      by_cases e0 : y = x
      · exact e0
      · rw [if_neg e0, hn] at hy; cases hy
    · exact hn
  refine h.step (fun y => y = x) rfl rfl rfl (by simp) (fun b hb hn => k2.block b hb (fun e0 => hn x _ rfl hx (by rw [s2]; simp [Value.ownBlock] at e0 ⊢; exact e0))) (fun y ob hy hn => ?_) (fun y ob hy hn => ?_) (fun y ob hy hn b hb => ?_) (fun y z o1 o2 hne hy hz hn hn' b hb => ?_) (fun hkept hstay y ob hy hn => ?_)
  · have hn : ¬ y = x := hn
    rw [hlk, if_neg hn]; exact ⟨hy, rfl, rfl⟩
  · have hn : y = x := hn
    subst hn
    rw [hx] at hy
    obtain rfl := Option.some.inj hy
    exact ⟨.sl e t (l.set i d) .shallow, by rw [hlk, if_pos rfl], And.intro rfl (And.intro rfl (by simp)), rfl⟩
  · obtain rfl := only hy hn
    obtain ⟨p1, p2⟩ := h.own y _ hx b hb
    exact ⟨by simpa using p1, fun _ => ⟨y, _, rfl, hx, hb⟩⟩
  · exact absurd ((only hy hn).trans (only hz hn').symm) hne
  · obtain rfl := only hy hn
    rw [hlk, if_pos rfl] at hy
    obtain rfl := Option.some.inj hy
    refine ⟨xs.set (i * t.size + c) v, by rw [List.length_set, hg]; exact k1, by rw [hg]; exact s2, fun j hj => ?_⟩
    have hj' : j < l.length := by simpa using hj
    have hseg : ((xs.set (i * t.size + c) v).drop (j * t.size)).take t.size = if j = i then ((xs.drop (i * t.size)).take t.size).set c v else (xs.drop (j * t.size)).take t.size := by
      apply List.ext_getElem?
      intro q
      by_cases hq : q < t.size
      · rw [take_drop_get hq]
        by_cases hji : j = i
        · subst hji
          rw [if_pos rfl, List.getElem?_set, List.getElem?_set, take_drop_get hq]
          by_cases hcq : c = q
          · subst hcq
            rw [if_pos rfl, if_pos rfl, if_pos (by omega), if_pos (by simp; omega)]
          · rw [if_neg (by omega), if_neg hcq]
        · rw [if_neg hji, take_drop_get hq, List.getElem?_set, if_neg]
          intro e0
          rcases Nat.lt_or_gt_of_ne hji with hlt | hlt
          · have := Nat.mul_le_mul_right t.size (show j + 1 ≤ i by omega)
            rw [Nat.add_mul] at this
            omega
          · have := Nat.mul_le_mul_right t.size (show i + 1 ≤ j by omega)
            rw [Nat.add_mul] at this
            omega
      · rw [List.getElem?_take, if_neg hq]
        by_cases hji : j = i
        · rw [if_pos hji, List.getElem?_eq_none (by simp; omega)]
        · rw [if_neg hji, List.getElem?_take, if_neg hq]
    rw [hseg]
    by_cases hji : j = i
    · subst hji
      rw [if_pos rfl]
      simp only [List.getElem_set_self]
      exact (hd _ (s3 j hj')).kept hkept
    · rw [if_neg hji]
      rw [List.getElem_set_ne (fun e0 => hji e0.symm)]
      exact (s3 j hj').kept hkept

end
end Go.AE
