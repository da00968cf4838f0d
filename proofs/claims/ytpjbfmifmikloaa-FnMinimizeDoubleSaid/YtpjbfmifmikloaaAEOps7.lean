/-
  Stores, slice literals, make, append, reslicing: each operation whole.
-/
import Derived.Test.YtpjbfmifmikloaaAELoad
namespace Go.AE
open Go Go.RowKit

section
variable {P : Program} {C : Cfg} {Γ : Ctx} {val val' val'' : Nat → Value} {fp fp' fp'' : Nat → List Nat} {ρ : Env} {st st' st'' : St} {a : Act} {w w' w'' : World} {o : Oper} {k : AV → St → Prop} {K : Act → World → Prop} {Q : Exit → Act → World → Prop}

/-- A store of a whole element into an owned row. -/
theorem store_whole (h : Objs Γ val fp st w) {x g n cap i : Nat} {e : TypeId} {t : Ty} {l : List t.den} {d : t.den} {vs : List Value} (hx : lk st x = some (.sl e t l .shallow)) (hg : val x = .slice (some ⟨g, 0, none⟩) n cap)
    (hi : i < l.length) (h1 : ∀ u ∈ vs, u.oneCell' = true) (hd : Imm w (NoGo Γ.X st fp) t d vs) :
    ∃ w', (storeCells ⟨g, i * t.size + 0, none⟩ vs 0).run P w = .ok () w' ∧ Step Γ val val fp fp st (sput st x (.sl e t (l.set i d) .shallow)) w w' := by
  obtain ⟨xs, s1, s2, s3⟩ := h.rep x _ hx
  have hnl : n = l.length := by
    obtain ⟨A, cap', h0⟩ := own_shape s1
    rw [hg] at h0; simp at h0; exact h0.2.1
  subst hnl
  rw [hg] at s1
  have hvl := hd.length
  have hxl : xs.length = l.length * t.size := s1.1
  have hin : i * t.size + t.size ≤ l.length * t.size := by
    have := Nat.mul_le_mul_right t.size (show i + 1 ≤ l.length by omega)
    rw [Nat.add_mul] at this
    omega
  obtain ⟨w', p1, p2, p3, p4, p5, p6, p7⟩ := own_seg (P := P) s1 (p := i * t.size + 0) (vs := vs) (by omega) h1
  refine ⟨w', p1, ?_⟩
  have hlk : ∀ y, lk (sput st x (.sl e t (l.set i d) .shallow)) y = if y = x then some (.sl e t (l.set i d) .shallow) else lk st y := fun y => by rw [lk_sput, hx]; rfl
  have only : ∀ {y : Nat} {ob : Ob}, lk (sput st x (.sl e t (l.set i d) .shallow)) y = some ob → (lk st y = none ∨ y = x) → y = x := fun {y ob} hy hn => by
    rcases hn with hn | hn
    · rw [hlk] at hy
      by_cases e0 : y = x
      · exact e0
      · rw [if_neg e0, hn] at hy; cases hy
    · exact hn
  have hgx : g ∈ fp x := by rw [s2, hg]; simp [Value.ownBlock]
  refine h.step (fun y => y = x) p3 p4 p5 (by omega) (fun b hb hn => p7 b (fun e0 => hn x _ rfl hx (e0 ▸ hgx))) (fun y ob hy hn => ?_) (fun y ob hy hn => ?_) (fun y ob hy hn b hb => ?_) (fun y z o1 o2 hne hy hz hn hn' b hb => ?_) (fun hkept hstay y ob hy hn => ?_)
  · have hn : ¬ y = x := hn
    rw [hlk, if_neg hn]; exact ⟨hy, rfl, rfl⟩
  · have hn : y = x := hn
    subst hn
    rw [hx] at hy
    obtain rfl := Option.some.inj hy
    exact ⟨.sl e t (l.set i d) .shallow, by rw [hlk, if_pos rfl], (show Compat (.sl _ _ _ _) (.sl _ _ _ _) from And.intro rfl (And.intro rfl (by simp))), rfl⟩
  · obtain rfl := only hy hn
    obtain ⟨q1, q2⟩ := h.own y _ hx b hb
    exact ⟨by omega, fun _ => ⟨y, _, rfl, hx, hb⟩⟩
  · exact absurd ((only hy hn).trans (only hz hn').symm) hne
  · obtain rfl := only hy hn
    rw [hlk, if_pos rfl] at hy
    obtain rfl := Option.some.inj hy
    refine ⟨_, by rw [List.length_set, hg]; exact p2, s2, fun j hj => ?_⟩
    rw [List.length_set] at hj
    by_cases hji : j = i
    · subst hji
      rw [seg_same (c := 0) (by omega) (by omega)]
      simp only [List.getElem_set_self, List.take_zero, List.nil_append]
      rw [List.drop_eq_nil_of_le (by simp; omega), List.append_nil]
      exact hd.kept hkept
    · rw [seg_other hji (by omega) (by omega) (by omega), List.getElem_set_ne (fun e0 => hji e0.symm)]
      exact (s3 j hj).kept hkept

theorem sound_store (hT : TysOk P C.y) (h : Sim Γ val fp ρ st a w) {ty : TypeId} {x y : Operand} (ho : o.op = .store ty x y) (he : effK (evOp C ρ st o) k) (hK : Fol Γ val fp st a w o k K) : o.wp P a w K Q := by
  have hx := ev1_rep h x
  have hy := ev1_rep h y
  unfold evOp at he
  simp only [ho] at he
  unfold evStore at he
  have hex : execOp a.eval o = (do Instr.storeAt ty (a.eval x) (a.eval y); pure .skip) := by simp only [execOp, ho]
  split at he
  · rename_i t cs ht hcs
    obtain ⟨i0, z, d, hi, hsz, _⟩ := hT.ty ty t ht
    obtain ⟨c1, c2, c3⟩ := cells_rep hcs hy
    have hl := c1.length
    split at he
    · rename_i hlen
      have hlen := beq_lk.1 hlen
      have hst : ∀ {g c : Nat} {w' : World}, a.eval x = .pointer (some ⟨g, c, none⟩) → (storeCells ⟨g, c, none⟩ (a.eval y).cells.toList 0).run P w = .ok () w' → (Instr.storeAt ty (a.eval x) (a.eval y)).run P w = .ok () w' := by
        intro g c w' e1 e2
        have e3 : (a.eval y).cells.size = i0.size := by rw [hsz, ← hlen, hl]; simp
        rw [e1]
        simp [Instr.storeAt, Instr.sureAddr, storeVar, sizeOf, typeInfo, hi, e3, e2]
      split at he
      · rename_i x' c h1
        rw [h1] at hx
        obtain ⟨cs0, g, q1, q2, q3⟩ := hx
        split at he
        · rename_i old hold
          split at he
          · rename_i hle
            have hle : c + cs.length ≤ old.length := Nat.le_of_ble_eq_true hle
            obtain ⟨w', r1, r2⟩ := store_rc (P := P) h.toObjs hold q2 c1 c2 hle
            exact wp_unit hex (hst q3 r1) (hK _ _ _ _ _ _ he r2 trivial)
          · exact he.elim
        · exact he.elim
      · rename_i x' i c h1
        rw [h1] at hx
        split at he
        · obtain ⟨_, ob, q1, q2⟩ := hx
          unfold evStoreD at he
          split at he
          · rename_i e t' l kn hh hl2
            rw [hl2] at q1
            obtain rfl := Option.some.inj q1
            obtain ⟨r1, r2, g, n, cap, r3, r4⟩ := q2 _ _ _ _ rfl
            have hn : i.toNat < l.length := by omega
            split at he
            · rename_i hns
              split at he
              · rename_i d' hd'
                obtain ⟨w', fp', p1, p2⟩ := store_deep (P := P) h.toObjs hl2 r3 hn hd' c1 c2 (by simp) (fun q hq h1 h2 => absurd h2 (noSl_spec hns q hq h1))
                exact wp_unit hex (hst r4 p1) (hK _ _ _ _ _ _ he p2 trivial)
              · exact he.elim
            · split at he
              · rename_i st1 hcl
                obtain ⟨fp1, S1⟩ := close_step h.toObjs hcl
                split at he
                · rename_i e1 t1 l1 kn1 hl1
                  obtain ⟨o1, m1, m2, m3⟩ := S1.stays x' _ hl2
                  rw [hl1] at m1
                  obtain rfl := Option.some.inj m1
                  obtain ⟨_, rfl, m4⟩ := m2
                  split at he
                  · rename_i d' ns hd'
                    split at he
                    · rename_i hnd
                      obtain ⟨w', fp', p1, p2⟩ := store_deep (P := P) S1.objs hl1 r3 (by omega) hd' (c1.mono (CvRep.kept S1.kept S1.stays)) c2 (nodupB'_spec hnd) (fun q _ _ _ => rfl)
                      exact wp_unit hex (hst r4 p1) (hK _ _ _ _ _ _ he (S1.trans p2) trivial)
                    · exact he.elim
                  · exact he.elim
                · exact he.elim
              · exact he.elim
          · exact he.elim
        · split at he
          · rename_i e t' l hl2
            obtain ⟨fp1, hfz⟩ := freeze_step (ownsIn cs) h.toObjs
            have hx' := CvRep.kept hfz.kept hfz.stays (x := .eptr x' i c) hx
            obtain ⟨_, ob, q1, q2⟩ := hx'
            rw [hl2] at q1
            obtain rfl := Option.some.inj q1
            obtain ⟨r1, r2, g, n, cap, r3, r4⟩ := q2 _ _ _ _ rfl
            have hn : i.toNat < l.length := by omega
            split at he
            · rename_i h11
              have h11 := beq_lk.1 h11
              split at he
              · rename_i d' hd'
                -- the one cell
                match cs, h11 with
                | [cv], _ =>
                  obtain ⟨v, hv⟩ : ∃ v, (a.eval y).cells.toList = [v] := by
                    have : (a.eval y).cells.toList.length = 1 := by rw [← hl]; rfl
                    match hq : (a.eval y).cells.toList, this with
                    | [v], _ => exact ⟨v, rfl⟩
                  rw [hv] at c1 c2
                  have hcv := CvRep.kept hfz.kept hfz.stays c1.1
                  have hown : ∀ z n, CV.own z n ∈ [cv] → ∀ e t l kd, openK kd = false → lk st z = some (.sl e t l kd) → lk (freeze st (ownsIn [cv])) z = some (.sl e t l .frozen) := fun z n hz e t l kd hk hz' => (freeze_lk _ hk hz').1 (.inl (mem_owns.2 ⟨n, hz⟩))
                  rw [getD_at hn] at hd'
                  obtain ⟨xs, s1, s2, s3⟩ := hfz.objs.rep x' _ hl2
                  have hc := (setDen_rep hfz.objs hd' hown hcv (s3 _ hn)).2
                  obtain ⟨p1, p2⟩ := store_el (P := P) hfz.objs hl2 r3 hn (c2 v (by simp)) hc (fun es hes => (setDen_rep hfz.objs hd' hown hcv hes).1)
                  exact wp_unit hex (hst r4 (by rw [hv]; exact p1)) (hK _ _ _ _ _ _ he (hfz.trans p2) trivial)
              · exact he.elim
            · split at he
              · rename_i h12
                rw [Bool.and_eq_true] at h12
                have hc0 := beq_lk.1 h12.1
                have hcl := beq_lk.1 h12.2
                subst hc0
                split at he
                · rename_i d' hd'
                  have c1' := c1.mono (CvRep.kept hfz.kept hfz.stays)
                  have him := ofCV_rep hfz.objs hd' (fun z n hz e t l kd hk hz' => (freeze_lk _ hk hz').1 (.inl (mem_owns.2 ⟨n, hz⟩))) c1'
                  obtain ⟨w', p1, p2⟩ := store_whole (P := P) hfz.objs hl2 r3 hn c2 him
                  exact wp_unit hex (hst r4 p1) (hK _ _ _ _ _ _ he (hfz.trans p2) trivial)
                · exact he.elim
              · exact he.elim
          · exact he.elim
      · exact he.elim
    · exact he.elim
  · exact he.elim

/-! ### A new owned row -/

theorem new_row (h : Objs Γ val fp st w) {d : Nat} (hd : lk st d = none) {e : TypeId} {t : Ty} {l : List t.den} {cur : Array Value} (hs : cur.size = l.length * t.size) (hm : l.length ≤ maxLen)
    (hel : ∀ j (hj : j < l.length), Imm w (NoGo Γ.X st fp) t l[j] ((cur.toList.drop (j * t.size)).take t.size)) :
    ∃ val' fp', Step Γ val val' fp fp' st ((d, .sl e t l .shallow) :: st) w (w.alloc (.cells cur e)) ∧ val' d = .slice (some ⟨w.heap.size, 0, none⟩) l.length l.length :=
  new_step h hd (F := [w.heap.size]) rfl rfl rfl (by simp) (fun b hb => Below.heap_alloc w _ b hb) (by simp)
    (fun hk _ => ⟨cur.toList, World.ownsRow_lit w cur l.length (Nat.zero_le _) hm hs, by simp [Value.ownBlock], fun j hj => (hel j hj).kept hk⟩)

theorem av_own {N : Nat → Prop} {d : Nat} {ob : Ob} {r : St} {v : Value} (hv : val d = v) {A : Option Addr} {n c : Nat} (hs : v = .slice A n c) : AvRep w N val ((d, ob) :: r) (.c (.own d false)) v :=
  And.intro ⟨A, n, c, hs⟩ ⟨ob, by rw [lk_cons, if_pos rfl], .inr hv.symm, fun h => by cases h⟩

theorem parts_spec {t : Ty} : ∀ (ps : List (Nat × Operand)) {j : Nat} {l : List t.den} {ns : List Nat}, partsFrom st ρ t j ps = some (l, ns) →
    l.length = ps.length ∧ ∀ i (hi : i < ps.length), ps[i].1 = j + i ∧ ∃ cs d, cellsOf (ev1 ρ ps[i].2) = some cs ∧ ofCV st t cs = some d ∧ l[i]? = some d ∧ ∀ z ∈ ownsIn cs, z ∈ ns
  | [], j, l, ns, h => by
    simp [partsFrom] at h
    obtain ⟨rfl, rfl⟩ := h
    exact ⟨rfl, fun i hi => absurd hi (by simp)⟩
  | (i0, x) :: r, j, l, ns, h => by
    unfold partsFrom at h
    split at h
    · rename_i hi0
      have hi0 := beq_lk.1 hi0
      split at h
      · rename_i cs hcs
        split at h
        · rename_i d l' ns' hd hr
          simp only [Option.some.injEq, Prod.mk.injEq] at h
          obtain ⟨rfl, rfl⟩ := h
          obtain ⟨h1, h2⟩ := parts_spec r hr
          refine ⟨by simp [h1], fun i hi => ?_⟩
          cases i with
          | zero => exact ⟨by simpa using hi0, cs, d, hcs, hd, rfl, fun z hz => List.mem_append.2 (.inl hz)⟩
          | succ i =>
            obtain ⟨k1, cs', d', k2, k3, k4, k5⟩ := h2 i (by simpa using hi)
            exact ⟨by simp only [List.getElem_cons_succ]; omega, cs', d', k2, k3, by simpa using k4, fun z hz => List.mem_append.2 (.inr (k5 z hz))⟩
        · cases h
      · cases h
    · cases h

/-- All parts in order: the literal's cells are the parts' cells, one behind the other. -/
theorem fill_all {size : Nat} : ∀ (ps : List (Nat × Value)) {j : Nat} {cells : Array Value}, (∀ i (hi : i < ps.length), ps[i].1 = j + i ∧ ps[i].2.cells.size = size) → (j + ps.length) * size ≤ cells.size →
    ∃ cells', Instr.fill (fun i => some (i * size, size)) cells ps = some cells' ∧ cells'.toList = cells.toList.take (j * size) ++ (ps.flatMap fun p => p.2.cells.toList) ++ cells.toList.drop ((j + ps.length) * size)
  | [], j, cells, _, _ => ⟨cells, rfl, by simp⟩
  | (i0, v) :: r, j, cells, h, hfit => by
    obtain ⟨e1, e2⟩ := h 0 (by simp)
    simp at e1 e2
    have hle : (j + 1) * size ≤ (j + (r.length + 1)) * size := Nat.mul_le_mul_right _ (by omega)
    simp only [List.length_cons] at hfit
    have e3 : (j + 1) * size = j * size + size := by rw [Nat.add_mul, Nat.one_mul]
    obtain ⟨cells1, q1, q2⟩ := fill_one (place := fun i => some (i * size, size)) (rest := r) (i := i0) (off := j * size) (size := size) (v := v) (cells := cells) (by rw [e1]) e2 (by omega)
    have hlen1 : cells1.toList.length = cells.toList.length := by
      rw [q2]
      simp
      omega
    obtain ⟨cells', q3, q4⟩ := fill_all r (j := j + 1) (cells := cells1) (fun i hi => by
      obtain ⟨k1, k2⟩ := h (i + 1) (by simp; omega)
      simp at k1 k2
      exact ⟨by omega, k2⟩) (by
      have : cells1.size = cells.size := by simpa using hlen1
      rw [this, show j + 1 + r.length = j + (r.length + 1) from by omega]; exact hfit)
    refine ⟨cells', q1.trans q3, ?_⟩
    have hv : v.cells.toList.length = size := by simpa using e2
    rw [q4, q2, show j + 1 + r.length = j + (r.length + 1) from by omega]
    have hj : (cells.toList.take (j * size)).length = j * size := by simp; omega
    have hA : (cells.toList.take (j * size) ++ v.cells.toList).length = (j + 1) * size := by rw [List.length_append, hj, hv, e3]
    have a1 : ((cells.toList.take (j * size) ++ v.cells.toList ++ cells.toList.drop (j * size + size)).take ((j + 1) * size)) = cells.toList.take (j * size) ++ v.cells.toList := List.take_left' hA
    have a2 : ((cells.toList.take (j * size) ++ v.cells.toList ++ cells.toList.drop (j * size + size)).drop ((j + (r.length + 1)) * size)) = cells.toList.drop ((j + (r.length + 1)) * size) := by
      rw [List.drop_append, List.drop_eq_nil_of_le (by omega), List.nil_append, List.drop_drop, hA]
      congr 1
      omega
    rw [a1, a2]
    simp

theorem flat_seg {size : Nat} : ∀ (ls : List (List Value)) (i : Nat) (hi : i < ls.length), (∀ l ∈ ls, l.length = size) → ((ls.flatten.drop (i * size)).take size) = ls[i]
  | l :: ls, 0, _, h => by
    have := h l (by simp)
    simp only [List.flatten_cons, Nat.zero_mul, List.drop_zero, List.getElem_cons_zero]
    rw [List.take_append_of_le_length (by omega), List.take_of_length_le (by omega)]
  | l :: ls, i + 1, hi, h => by
    have hl := h l (by simp)
    have ih := flat_seg ls i (by simpa using hi) (fun x hx => h x (by simp [hx]))
    simp only [List.flatten_cons, List.getElem_cons_succ]
    rw [List.drop_append, List.drop_eq_nil_of_le (by rw [Nat.add_mul, hl]; omega), List.nil_append, hl, show (i + 1) * size - size = i * size from by rw [Nat.add_mul]; omega]
    exact ih

/-- Rows are gathered into a new one, and are gone. -/
theorem gather_step (h : Objs Γ val fp st w) {d : Nat} {ns : List Nat} (hd : lk (kill st ns) d = none) (hns : ∀ y ∈ ns, ∃ e t l kd, lk st y = some (.sl e t l kd)) {ob : Ob} {v : Value} {F : List Nat}
    (hos : w'.os = w.os) (htape : w'.tape = w.tape) (hout : w'.output = w.output) (hsz : w.heap.size ≤ w'.heap.size) (hkeep : ∀ b, b < w.heap.size → (∀ y ∈ ns, b ∉ fp y) → w'.heap[b]? = w.heap[b]?)
    (hF : ∀ b ∈ F, b < w'.heap.size ∧ (b < w.heap.size → ∃ y ∈ ns, b ∈ fp y)) (hrep : ∀ (N : Nat → Prop) (val' : Nat → Value) (st' : St), ObRep w' N val' st' ob v F) :
    ∃ val' fp', Step Γ val val' fp fp' st ((d, ob) :: kill st ns) w w' ∧ val' d = v := by
  have hdn : d ∉ ns := fun hm => by
    obtain ⟨e, t, l, kd, ho⟩ := hns d hm
    rw [lk_kill, if_pos hm, ho] at hd
    cases hd
  have hd0 : lk st d = none := by rw [lk_kill, if_neg hdn] at hd; exact hd
  have hlk : ∀ y, lk ((d, ob) :: kill st ns) y = if y = d then some ob else if y ∈ ns then (lk st y).map (fun _ => .dead) else lk st y := fun y => by rw [lk_cons, lk_kill]
  have which : ∀ {y : Nat} {o2 : Ob}, lk ((d, ob) :: kill st ns) y = some o2 → (lk st y = none ∨ y ∈ ns) → (y = d ∧ o2 = ob) ∨ (y ≠ d ∧ y ∈ ns ∧ o2 = .dead) := by
    intro y o2 hy hn
    rw [hlk] at hy
    by_cases h1 : y = d
    · rw [if_pos h1] at hy; exact .inl ⟨h1, (Option.some.inj hy).symm⟩
    · rw [if_neg h1] at hy
      by_cases h2 : y ∈ ns
      · rw [if_pos h2] at hy
        cases hq : lk st y with
        | none => rw [hq] at hy; cases hy
        | some o => rw [hq] at hy; exact .inr ⟨h1, h2, (Option.some.inj hy).symm⟩
      · rw [if_neg h2] at hy
        rcases hn with hn | hn
        · rw [hn] at hy; cases hy
        · exact absurd hn h2
  refine ⟨fun y => if y = d then v else val y, fun y => if y = d then F else if y ∈ ns then [] else fp y, h.step (fun y => y ∈ ns) hos htape hout hsz (fun b hb hn => hkeep b hb (fun y hy hby => by
      obtain ⟨e, t, l, kd, ho⟩ := hns y hy
      exact hn y _ hy ho hby)) (fun y o2 hy hn => ?_) (fun y o2 hy hn => ?_) (fun y o2 hy hn b hb => ?_) (fun y z o1 o2 hne hy hz hn hn' b hb hb' => ?_) (fun hkept hstay y o2 hy hn => ?_), by simp⟩
  · have hyd : y ≠ d := fun e0 => by rw [e0, hd0] at hy; cases hy
    have hn : ¬ y ∈ ns := hn
    rw [hlk, if_neg hyd, if_neg hn]
    exact ⟨hy, by simp [hyd], by simp [hyd, hn]⟩
  · have hyd : y ≠ d := fun e0 => by rw [e0, hd0] at hy; cases hy
    have hn : y ∈ ns := hn
    obtain ⟨e, t, l, kd, ho⟩ := hns y hn
    rw [ho] at hy
    obtain rfl := Option.some.inj hy
    exact ⟨.dead, by rw [hlk, if_neg hyd, if_pos hn, ho]; rfl, (show Compat (.sl _ _ _ _) .dead from trivial), by simp [hyd]⟩
  · rcases which hy hn with ⟨rfl, _⟩ | ⟨h1, h2, _⟩
    · simp only [if_true] at hb
      obtain ⟨q1, q2⟩ := hF b hb
      refine ⟨q1, fun hlt => ?_⟩
      obtain ⟨z, hz, hbz⟩ := q2 hlt
      obtain ⟨e, t, l, kd, ho⟩ := hns z hz
      exact ⟨z, _, hz, ho, hbz⟩
    · simp [h1, h2] at hb
  · rcases which hy hn with ⟨rfl, _⟩ | ⟨h1, h2, _⟩
    · rcases which hz hn' with ⟨rfl, _⟩ | ⟨h1, h2, _⟩
      · exact hne rfl
      · simp [h1, h2] at hb'
    · simp [h1, h2] at hb
  · rcases which hy hn with ⟨rfl, rfl⟩ | ⟨h1, h2, rfl⟩
    · simp only [if_true]
      exact hrep _ _ _
    · show _ = _
      simp [h1, h2]

theorem dflt_deep {hs : Nat → Option Nat} : ∀ {t : Ty} {c : Nat}, fine t = true → (∀ q, hs q = none) → Deep w val t hs c t.dflt (zeroVals t) (fun _ => False)
  | .int k, _, h, _ => ⟨⟨rfl, zero_in h⟩, fun _ hb => hb⟩
  | .bool, _, _, _ => ⟨rfl, fun _ hb => hb⟩
  | .str, _, _, _ => ⟨rfl, fun _ hb => hb⟩
  | .sl t, c, _, hq => by
    unfold Deep
    rw [hq c]
    exact ⟨_, 0, [], fun _ _ => False, rfl, World.ownsRow_nil _ _ _ _, ⟨fun b => by simp [Value.ownBlock], fun b j hj => absurd hj (by simp [Ty.dflt]), fun j k b hj => absurd hj (by simp [Ty.dflt])⟩, fun j hj => absurd hj (by simp [Ty.dflt])⟩
  | .pair a b, c, h, hq => by
    simp only [fine, Bool.and_eq_true] at h
    exact ⟨_, _, _, _, rfl, fun x => by simp, fun x hx => hx.elim, dflt_deep h.1 hq, dflt_deep h.2 hq⟩

theorem partsMove_spec {t : Ty} : ∀ (ps : List (Nat × Operand)) {j : Nat} {l : List t.den} {ns : List Nat}, partsMove st ρ t j ps = some (l, ns) → ns.Nodup →
    l.length = ps.length ∧ ∃ M : Nat → List Nat, (∀ i z, z ∈ M i → z ∈ ns) ∧ (∀ i i' z, i ≠ i' → z ∈ M i → z ∉ M i') ∧ (∀ i, (M i).Nodup) ∧ ∀ i (hi : i < ps.length), ps[i].1 = j + i ∧ ∃ cs d, cellsOf (ev1 ρ ps[i].2) = some cs ∧ moveDen st t cs = some (d, M i) ∧ l[i]? = some d
  | [], j, l, ns, h, _ => by
    simp [partsMove] at h
    obtain ⟨rfl, rfl⟩ := h
    exact ⟨rfl, fun _ => [], (fun _ z (hz : z ∈ ([] : List Nat)) => by cases hz), (fun _ _ z _ (hz : z ∈ ([] : List Nat)) => by cases hz), (fun _ => List.nodup_nil), fun i hi => absurd hi (by simp)⟩
  | (i0, x) :: r, j, l, ns, h, hnd => by
    unfold partsMove at h
    split at h
    · rename_i hi0
      have hi0 := beq_lk.1 hi0
      split at h
      · rename_i cs hcs
        split at h
        · rename_i d ms l' ns' hd hr
          simp only [Option.some.injEq, Prod.mk.injEq] at h
          obtain ⟨rfl, rfl⟩ := h
          obtain ⟨n1, n2, n3⟩ := List.nodup_append.1 hnd
          obtain ⟨h1, M, m1, m2, m3, m4⟩ := partsMove_spec r hr n2
          refine ⟨by simp [h1], fun i => match i with | 0 => ms | i + 1 => M i, fun i z hz => ?_, fun i i' z hne hz hz' => ?_, fun i => ?_, fun i hi => ?_⟩
          · cases i with
            | zero => exact List.mem_append.2 (.inl hz)
            | succ i => exact List.mem_append.2 (.inr (m1 i z hz))
          · cases i with
            | zero => cases i' with
              | zero => exact hne rfl
              | succ i' => exact n3 z hz z (m1 i' z hz') rfl
            | succ i => cases i' with
              | zero => exact n3 z hz' z (m1 i z hz) rfl
              | succ i' => exact m2 i i' z (fun e => hne (by rw [e])) hz hz'
          · cases i with
            | zero => exact n1
            | succ i => exact m3 i
          · cases i with
            | zero => exact ⟨by simpa using hi0, cs, d, hcs, hd, rfl⟩
            | succ i =>
              obtain ⟨k1, cs', d', k2, k3, k4⟩ := m4 i (by simpa using hi)
              exact ⟨by simp only [List.getElem_cons_succ]; omega, cs', d', k2, k3, by simpa using k4⟩
        · cases h
      · cases h
    · cases h

theorem build_deep (hT : TysOk P C.y) (h : Sim Γ val fp ρ st a w) {ty : TypeId} {len : Nat} {ps : Array (Nat × Operand)} (ho : o.op = .buildSlice ty len ps) {e : TypeId} (hel : lk C.y.el ty = some e) {t : Ty} (ht : lk C.y.ty e = some t) {l : List t.den} {ns : List Nat}
    (hps : partsMove st ρ t 0 ps.toList = some (l, ns)) (hl : l.length = len) (hbig : len * t.size ≤ 16777216) (hnd : ns.Nodup) {d : Nat} (hn : lk (kill st ns) d = none) (hk : k (.c (.own d false)) ((d, .sl e t l (.deep true .no)) :: kill st ns)) (hK : Fol Γ val fp st a w o k K) : o.wp P a w K Q := by
  classical
  have hu := hT.el ty e hel
  obtain ⟨i0, z, dd, hi, hsz, hz, hzc, _, _, _, hf⟩ := hT.ty e t ht
  obtain ⟨p1, M, m1, m2, m3, p2⟩ := partsMove_spec ps.toList hps hnd
  have hpos := t.size_pos
  have hzs : z.cells.size = t.size := by
    have h2 := (dflt_rep (w := w) (N := fun _ => False) hf).length
    rw [← hzc] at h2
    simpa using h2
  have hpart0 : ∀ i : Nat, ∃ F : Nat → Prop, ∀ (hi : i < ps.toList.length) (hil : i < l.length), Deep w val t (fun _ => none) 0 l[i] (a.eval (ps.toList[i]).2).cells.toList F ∧ (∀ b, F b → ∃ y ∈ M i, b ∈ fp y) ∧ ∀ y ∈ M i, ∃ e t l kd, lk st y = some (.sl e t l kd) := by
    intro i
    by_cases hi : i < ps.toList.length
    · obtain ⟨_, cs, dt, q2, q3, q4⟩ := p2 i hi
      obtain ⟨r1, _, _⟩ := cells_rep q2 (ev1_rep h (ps.toList[i]).2)
      obtain ⟨F, k1, k2, k3⟩ := move_rep h.toObjs (hs := fun _ => none) (c := 0) q3 r1 (m3 i) (fun _ _ => rfl)
      refine ⟨F, fun hi' hil => ?_⟩
      have hdt : dt = l[i] := by rw [List.getElem?_eq_getElem hil] at q4; exact (Option.some.inj q4).symm
      rw [← hdt]
      exact ⟨k1, k2, k3⟩
    · exact ⟨fun _ => False, fun hi' => absurd hi' hi⟩
  have hex : ∃ Fi : Nat → Nat → Prop, ∀ i (hi : i < ps.toList.length) (hil : i < l.length), Deep w val t (fun _ => none) 0 l[i] (a.eval (ps.toList[i]).2).cells.toList (Fi i) ∧ (∀ b, Fi i b → ∃ y ∈ M i, b ∈ fp y) ∧ ∀ y ∈ M i, ∃ e t l kd, lk st y = some (.sl e t l kd) :=
    ⟨fun i => (hpart0 i).choose, fun i => (hpart0 i).choose_spec⟩
  obtain ⟨Fi, hpart⟩ := hex
  have hlenP : ∀ i (hi : i < ps.toList.length), (a.eval (ps.toList[i]).2).cells.toList.length = t.size := fun i hi => (hpart i hi (by rw [p1]; exact hi)).1.length
  have hplen : (ps.toList.map fun (x : Nat × Operand) => (x.1, a.eval x.2)).length = len := by simp only [List.length_map]; rw [← p1, hl]
  obtain ⟨cells', f1, f2⟩ := fill_all (size := t.size) (ps.toList.map fun (x : Nat × Operand) => (x.1, a.eval x.2)) (j := 0)
    (cells := (Array.range (len * t.size)).map ((if len * t.size = 0 then #[] else z.cells)[· % (if len * t.size = 0 then #[] else z.cells).size]!)) (fun i hi => by
      have hi' : i < ps.toList.length := by simpa using hi
      simp only [List.getElem_map]
      refine ⟨(p2 i hi').1, ?_⟩
      have := hlenP i hi'
      simpa using this) (by rw [hplen, Nat.zero_add]; simp)
  rw [hplen, Nat.zero_mul, List.take_zero, List.nil_append, Nat.zero_add, List.drop_eq_nil_of_le (by simp), List.append_nil, List.flatMap_map] at f2
  have hcur : cells'.size = l.length * t.size := by
    rw [← Array.length_toList, f2, List.flatMap_def, List.length_flatten, List.map_map]
    have : (ps.toList.map (List.length ∘ fun (x : Nat × Operand) => (a.eval x.2).cells.toList)) = List.replicate l.length t.size := by
      apply List.ext_getElem (by simp [p1])
      intro i h1 h2
      have hi' : i < ps.toList.length := by simpa using h1
      have := hlenP i hi'
      simpa using this
    rw [this]
    simp
  have hns : ∀ y ∈ ns, ∃ e t l kd, lk st y = some (.sl e t l kd) := by
    have key : ∀ {ps : List (Nat × Operand)} {j : Nat} {l : List t.den} {ns : List Nat}, partsMove st ρ t j ps = some (l, ns) → ∀ y ∈ ns, ∃ (i : Nat) (x : Operand) (cs : List CV) (d : t.den) (ms : List Nat), cellsOf (ev1 ρ x) = some cs ∧ moveDen st t cs = some (d, ms) ∧ y ∈ ms := by
      intro ps
      induction ps with
      | nil => intro j l ns h y hy; simp [partsMove] at h; rw [h.2] at hy; cases hy
      | cons p r ih =>
        intro j l ns h y hy
        obtain ⟨i0, x⟩ := p
        unfold partsMove at h
        split at h
        · split at h
          · rename_i cs hcs
            split at h
            · rename_i d ms l' ns' hd hr
              simp only [Option.some.injEq, Prod.mk.injEq] at h
              obtain ⟨rfl, rfl⟩ := h
              rcases List.mem_append.1 hy with hy | hy
              · exact ⟨0, x, cs, d, ms, hcs, hd, hy⟩
              · exact ih hr y hy
            · cases h
          · cases h
        · cases h
    have mv : ∀ {t : Ty} {cs : List CV} {d : t.den} {ns : List Nat}, moveDen st t cs = some (d, ns) → ∀ y ∈ ns, ∃ e t l kd, lk st y = some (.sl e t l kd) := by
      intro t
      induction t with
      | int k => intro cs d ns h1 y hy; unfold moveDen at h1; split at h1 <;> cases h1; cases hy
      | bool => intro cs d ns h1 y hy; unfold moveDen at h1; split at h1 <;> cases h1; cases hy
      | str => intro cs d ns h1 y hy; unfold moveDen at h1; split at h1 <;> cases h1; cases hy
      | sl t _ =>
        intro cs d ns h1 y hy
        unfold moveDen moveSl at h1
        split at h1
        · cases h1; cases hy
        · rename_i x
          split at h1
          · rename_i hl
            split at h1
            · cases h1; rw [List.mem_singleton.1 hy]; exact ⟨_, _, _, _, hl⟩
            · cases h1
          · rename_i hl
            split at h1
            · split at h1
              · cases h1; rw [List.mem_singleton.1 hy]; exact ⟨_, _, _, _, hl⟩
              · cases h1
            · cases h1
          · cases h1
        · cases h1
      | pair a b iha ihb =>
        intro cs d ns h1 y hy
        unfold moveDen at h1
        split at h1
        · rename_i hx
          split at h1
          · rename_i hy'
            cases h1
            rcases List.mem_append.1 hy with hy | hy
            · exact iha hx y hy
            · exact ihb hy' y hy
          · cases h1
        · cases h1
    intro y hy
    obtain ⟨_, _, cs, d, ms, _, q2, q3⟩ := key hps y hy
    exact mv q2 y q3
  have hFi : ∀ i b, i < l.length → Fi i b → (∃ y ∈ M i, b ∈ fp y) ∧ b < w.heap.size := fun i b hi hb => by
    have hi' : i < ps.toList.length := by rw [← p1]; exact hi
    obtain ⟨y, hy, hby⟩ := (hpart i hi' hi).2.1 b hb
    obtain ⟨e, t, l, kd, ho⟩ := (hpart i hi' hi).2.2 y hy
    exact ⟨⟨y, hy, hby⟩, (h.own y _ ho b hby).1⟩
  have hmax : l.length ≤ maxLen := by
    have := Nat.le_mul_of_pos_right len hpos
    simp only [maxLen]; omega
  obtain ⟨val', fp', hstep, hv⟩ := gather_step (w' := w.alloc (.cells cells' e)) h.toObjs (d := d) hn hns (ob := .sl e t l (.deep true .no)) (v := .slice (some ⟨w.heap.size, 0, none⟩) l.length l.length)
    (F := w.heap.size :: (ns.flatMap fp).filter (fun b => decide (∃ i, i < l.length ∧ Fi i b))) rfl rfl rfl (by simp) (fun b hb _ => Below.heap_alloc w _ b hb) (fun b hb => by
      rcases List.mem_cons.1 hb with rfl | hb
      · exact ⟨by simp, fun hlt => absurd hlt (Nat.lt_irrefl _)⟩
      · simp only [List.mem_filter, List.mem_flatMap] at hb
        obtain ⟨y, hy, hby⟩ := hb.1
        obtain ⟨e, t, l, kd, ho⟩ := hns y hy
        have := (h.own y _ ho b hby).1
        exact ⟨by simp; omega, fun _ => ⟨y, hy, hby⟩⟩) (fun N val'' st'' => by
      refine ⟨trivial, e, cells'.toList, Fi, fun _ => rfl, World.ownsRow_lit w cells' l.length (Nat.zero_le _) hmax hcur, ⟨fun b => ?_, fun b j hj ho hb => ?_, fun j k b hj hk hjk hb hb' => ?_⟩, fun j hj => ?_⟩
      · simp only [List.mem_cons, List.mem_filter, List.mem_flatMap, decide_eq_true_eq, Value.ownBlock, Option.some.injEq]
        constructor
        · rintro (rfl | ⟨_, hb⟩)
          · exact .inl rfl
          · exact .inr hb
        · rintro (hb | ⟨j, hj, hb⟩)
          · exact .inl hb.symm
          · obtain ⟨⟨y, hy, hby⟩, _⟩ := hFi j b hj hb
            exact .inr ⟨⟨y, m1 j y hy, hby⟩, j, hj, hb⟩
      · simp only [Value.ownBlock, Option.some.injEq] at ho
        have := (hFi j b hj hb).2
        omega
      · obtain ⟨⟨y, hy, hby⟩, _⟩ := hFi j b hj hb
        obtain ⟨⟨y', hy', hby'⟩, _⟩ := hFi k b hk hb'
        obtain ⟨_, _, _, _, o1⟩ := hns y (m1 j y hy)
        obtain ⟨_, _, _, _, o2⟩ := hns y' (m1 k y' hy')
        exact h.apart y y' _ _ (fun e0 => m2 j k y hjk hy (e0 ▸ hy')) o1 o2 b hby hby'
      · have hjp : j < ps.toList.length := by rw [← p1]; exact hj
        rw [f2, List.flatMap_def]
        rw [flat_seg _ j (by simpa using hjp) (fun x hx => by
          obtain ⟨y, hy, rfl⟩ := List.mem_map.1 hx
          obtain ⟨n, hn', hyn⟩ := List.mem_iff_getElem.1 hy
          have := hlenP n hn'
          rw [hyn] at this
          exact this)]
        simp only [List.getElem_map]
        exact (hpart j hjp hj).1.kept (fun b hb => Below.heap_alloc w _ b (hFi j b hj hb).2) (fun _ _ _ hp => by cases hp))
  refine wp_val (s := Instr.buildSlice ty len (ps.map fun (i, x) => (i, a.eval x))) (by simp only [execOp, ho]) (v := .slice (some ⟨w.heap.size, 0, none⟩) len len) (w' := w.alloc (.cells cells' e)) ?_ (hK _ _ _ _ _ _ hk hstep (av_own (by rw [hv, hl]) rfl))
  have hfill : Instr.fill (fun i => some (i * t.size, t.size)) (Array.map (fun x => (if len * t.size = 0 then #[] else z.cells)[x % (if len * t.size = 0 then #[] else z.cells).size]!) (Array.range (len * t.size))) (ps.map fun (x : Nat × Operand) => (x.1, a.eval x.2)).toList = some cells' := by
    rw [Array.toList_map]; exact f1
  simp only [Instr.buildSlice, Sem.run_bind, run_underlying hu, Result.andThen_ok, sizeOf, typeInfo, run_program, hi, Sem.run_pure, hsz]
  rw [if_neg (by omega)]
  by_cases h0 : len * t.size = 0
  · rw [if_pos h0]
    simp only [if_pos h0] at hfill
    simp only [Sem.run_bind, Sem.run_pure, Result.andThen_ok, hfill, newRow, run_newObj]
    rfl
  · rw [if_neg h0]
    simp only [if_neg h0] at hfill
    simp only [Sem.run_bind, Sem.run_pure, Result.andThen_ok, zeroValue, typeInfo, run_program, hi, hz, hfill, newRow, run_newObj]
    rfl

theorem sound_buildSlice (hT : TysOk P C.y) (h : Sim Γ val fp ρ st a w) {ty : TypeId} {len : Nat} {ps : Array (Nat × Operand)} (ho : o.op = .buildSlice ty len ps) (he : effK (evOp C ρ st o) k) (hK : Fol Γ val fp st a w o k K) : o.wp P a w K Q := by
  unfold evOp at he
  simp only [ho] at he
  split at he
  · rename_i e hel
    split at he
    · rename_i t ht
      split at he
      · split at he
        · rename_i l ns hps
          split at he
          · rename_i hl
            simp only [Bool.and_eq_true] at hl
            obtain ⟨d, hd, hn, hk⟩ := effK_newOb he
            exact build_deep hT h ho hel ht hps (beq_lk.1 hl.1.1) (Nat.le_of_ble_eq_true hl.1.2) (nodupB'_spec hl.2) hn hk hK
          · exact he.elim
        · exact he.elim
      · split at he
        rotate_left
        · exact he.elim
        rename_i l ns hps
        split at he
        · rename_i hl
          rw [Bool.and_eq_true] at hl
          obtain ⟨hl, hbig⟩ := hl
          have hl := beq_lk.1 hl
          have hbig := Nat.le_of_ble_eq_true hbig
          obtain ⟨d, hd, hn, hk⟩ := effK_newOb he
          have hu := hT.el ty e hel
          obtain ⟨i0, z, dd, hi, hsz, hz, hzc, _, _, _, hf⟩ := hT.ty e t ht
          obtain ⟨p1, p2⟩ := parts_spec ps.toList hps
          obtain ⟨fp1, hfz⟩ := freeze_step ns h.toObjs
          have hsim := h.step hfz
          have hpos := t.size_pos
          have hzs : z.cells.size = t.size := by
            have h2 := (dflt_rep (w := w) (N := fun _ => False) hf).length
            rw [← hzc] at h2
            simpa using h2
          -- what the parts hold
          have hpart : ∀ i (hi : i < ps.toList.length) (hil : i < l.length), Imm w (NoGo Γ.X (freeze st ns) fp1) t l[i] (a.eval (ps.toList[i]).2).cells.toList := by
            intro i hi hil
            obtain ⟨_, cs, dt, q2, q3, q4, q5⟩ := p2 i hi
            obtain ⟨r1, _, _⟩ := cells_rep q2 (ev1_rep hsim (ps.toList[i]).2)
            have hdt : dt = l[i] := by rw [List.getElem?_eq_getElem hil] at q4; exact (Option.some.inj q4).symm
            rw [← hdt]
            exact ofCV_rep hfz.objs q3 (fun x n hx e t l kd hk hx' => (freeze_lk _ hk hx').1 (.inl (q5 x (mem_owns.2 ⟨n, hx⟩)))) r1
          have hplen : (ps.toList.map fun (x : Nat × Operand) => (x.1, a.eval x.2)).length = len := by simp only [List.length_map]; rw [← p1, hl]
          obtain ⟨cells', f1, f2⟩ := fill_all (size := t.size) (ps.toList.map fun (x : Nat × Operand) => (x.1, a.eval x.2)) (j := 0)
            (cells := (Array.range (len * t.size)).map ((if len * t.size = 0 then #[] else z.cells)[· % (if len * t.size = 0 then #[] else z.cells).size]!)) (fun i hi => by
              have hi' : i < ps.toList.length := by simpa using hi
              simp only [List.getElem_map]
              refine ⟨(p2 i hi').1, ?_⟩
              have := (hpart i hi' (by rw [p1]; exact hi')).length
              simpa using this) (by rw [hplen, Nat.zero_add]; simp)
          rw [hplen, Nat.zero_mul, List.take_zero, List.nil_append, Nat.zero_add, List.drop_eq_nil_of_le (by simp), List.append_nil, List.flatMap_map] at f2
          have hcur : cells'.size = l.length * t.size := by
            rw [← Array.length_toList, f2, List.flatMap_def, List.length_flatten, List.map_map]
            have : (ps.toList.map (List.length ∘ fun (x : Nat × Operand) => (a.eval x.2).cells.toList)) = List.replicate l.length t.size := by
              apply List.ext_getElem (by simp [p1])
              intro i h1 h2
              have hi' : i < ps.toList.length := by simpa using h1
              have := (hpart i hi' (by rw [p1]; exact hi')).length
              simpa using this
            rw [this]
            simp
          obtain ⟨val', fp', hstep, hv⟩ := new_row hfz.objs (d := d) hn (e := e) (l := l) (cur := cells') hcur (by have := Nat.le_mul_of_pos_right len hpos; simp only [maxLen]; omega) (fun j hj => by
            have hjp : j < ps.toList.length := by rw [← p1]; exact hj
            rw [f2, List.flatMap_def]
            rw [flat_seg _ j (by simpa using hjp) (fun x hx => by
              obtain ⟨y, hy, rfl⟩ := List.mem_map.1 hx
              obtain ⟨n, hn', hyn⟩ := List.mem_iff_getElem.1 hy
              have := (hpart n hn' (by rw [p1]; exact hn')).length
              rw [hyn] at this
              exact this)]
            simp only [List.getElem_map]
            exact hpart j hjp hj)
          refine wp_val (s := Instr.buildSlice ty len (ps.map fun (i, x) => (i, a.eval x))) (by simp only [execOp, ho]) (v := .slice (some ⟨w.heap.size, 0, none⟩) len len) (w' := w.alloc (.cells cells' e)) ?_ (hK _ _ _ _ _ _ hk (hfz.trans hstep) (av_own (by rw [hv, hl]) rfl))
          have hfill : Instr.fill (fun i => some (i * t.size, t.size)) (Array.map (fun x => (if len * t.size = 0 then #[] else z.cells)[x % (if len * t.size = 0 then #[] else z.cells).size]!) (Array.range (len * t.size))) (ps.map fun (x : Nat × Operand) => (x.1, a.eval x.2)).toList = some cells' := by
            rw [Array.toList_map]; exact f1
          simp only [Instr.buildSlice, Sem.run_bind, run_underlying hu, Result.andThen_ok, sizeOf, typeInfo, run_program, hi, Sem.run_pure, hsz]
          rw [if_neg (by omega)]
          by_cases h0 : len * t.size = 0
          · rw [if_pos h0]
            simp only [if_pos h0] at hfill
            simp only [Sem.run_bind, Sem.run_pure, Result.andThen_ok, hfill, newRow, run_newObj]
            rfl
          · rw [if_neg h0]
            simp only [if_neg h0] at hfill
            simp only [Sem.run_bind, Sem.run_pure, Result.andThen_ok, zeroValue, typeInfo, run_program, hi, hz, hfill, newRow, run_newObj]
            rfl
        · exact he.elim
    · exact he.elim
  · exact he.elim

theorem made_seg {z : Array Value} {n j : Nat} (hj : j < n) : ((madeCells z (n * z.size)).toList.drop (j * z.size)).take z.size = z.toList := by
  apply List.ext_getElem?
  intro c
  by_cases hc : c < z.size
  · have hlt : j * z.size + c < n * z.size := by
      have := Nat.mul_le_mul_right z.size (show j + 1 ≤ n by omega)
      rw [Nat.add_mul] at this
      omega
    have hm : (j * z.size + c) % z.size = c := by rw [Nat.mul_comm, Nat.mul_add_mod, Nat.mod_eq_of_lt hc]
    rw [take_drop_get hc]
    simp [madeCells, hlt, hm, hc]
  · rw [List.getElem?_take, if_neg hc, List.getElem?_eq_none (by simp; omega)]

theorem effK_req {d : Option Nat} {ob : Ob} {f : Nat → AV} {p : Prop} (h : effK (match newOb st d ob f with | .ret v st' => .req p v st' | _ => .fail) k) : ∃ n, d = some n ∧ lk st n = none ∧ p ∧ k (f n) ((n, ob) :: st) := by
  unfold newOb at h
  cases d with
  | none => exact h.elim
  | some n =>
    dsimp only at h
    cases hn : lk st n with
    | none => rw [hn] at h; exact ⟨n, rfl, hn, h.1, h.2⟩
    | some ob' => rw [hn] at h; exact h.elim

theorem sound_makeSlice (hT : TysOk P C.y) (h : Sim Γ val fp ρ st a w) {ty : TypeId} {x y : Operand} (ho : o.op = .makeSlice ty x y) (he : effK (evOp C ρ st o) k) (hK : Fol Γ val fp st a w o k K) : o.wp P a w K Q := by
  have hx := ev1_rep h x
  have hy := ev1_rep h y
  unfold evOp at he
  simp only [ho] at he
  split at he
  · rename_i e hel
    split at he
    · rename_i t ht
      split at he
      · rename_i n m h1 h2
        rw [h1] at hx; rw [h2] at hy
        obtain ⟨d, hd, hn, ⟨n0, nb, hmn⟩, hk⟩ := effK_req he
        subst hmn
        have hu := hT.el ty e hel
        obtain ⟨i0, z, dd, hi, hsz, hz, hzc, hby, _, _, hf⟩ := hT.ty e t ht
        have hzs : z.cells.size = t.size := by
          have h2 := (dflt_rep (w := w) (N := fun _ => False) hf).length
          rw [← hzc] at h2
          simpa using h2
        have hb : (i0.bytes : Int) * m ≤ 281474976710656 := by
          have h3 : (i0.bytes : Int) * m ≤ 256 * m := Int.mul_le_mul_of_nonneg_right (by omega) n0
          simp only [bound] at nb
          omega
        have hlen : (List.replicate m.toNat t.dflt).length = m.toNat := List.length_replicate
        obtain ⟨val', fp', hstep, hv⟩ : ∃ val' fp', Step Γ val val' fp fp' st ((d, .sl e t (List.replicate m.toNat t.dflt) (match inDeep C o.dst with | true => .deep true .no | false => .shallow)) :: st) w (w.alloc (.cells (madeCells z.cells (m.toNat * i0.size)) e)) ∧ val' d = .slice (some ⟨w.heap.size, 0, none⟩) (List.replicate m.toNat t.dflt).length (List.replicate m.toNat t.dflt).length := by
          have s1 : (madeCells z.cells (m.toNat * i0.size)).size = (List.replicate m.toNat t.dflt).length * t.size := by rw [size_madeCells, hlen, hsz]
          have s2 : (List.replicate m.toNat t.dflt).length ≤ maxLen := by rw [hlen]; simp only [bound] at nb; simp only [maxLen]; omega
          split
          · exact new_step h.toObjs hn (F := [w.heap.size]) rfl rfl rfl (by simp) (fun b hb => Below.heap_alloc w _ b hb) (by simp)
              (fun _ _ => ⟨trivial, e, _, fun _ _ => False, fun _ => rfl, World.ownsRow_lit w _ _ (Nat.zero_le _) s2 s1, ⟨fun b => by simp [Value.ownBlock, eq_comm], fun _ _ _ _ hb => hb, fun _ _ _ _ _ _ hb => hb.elim⟩, fun j hj => by
                rw [hsz, ← hzs, made_seg (by simpa using hj), List.getElem_replicate, hzc]
                exact dflt_deep hf (fun _ => rfl)⟩)
          · exact new_row h.toObjs hn (e := e) (t := t) (l := List.replicate m.toNat t.dflt) (cur := madeCells z.cells (m.toNat * i0.size)) s1 s2 (fun j hj => by
              rw [hsz, ← hzs, made_seg (by simpa using hj), List.getElem_replicate, hzc]
              exact dflt_rep hf)
        refine wp_val (s := Instr.makeSlice ty (a.eval x) (a.eval y)) (by simp only [execOp, ho]) (v := .slice (some ⟨w.heap.size, 0, none⟩) m.toNat m.toNat) ?_ (hK _ _ _ _ _ _ hk hstep (av_own (by rw [hv, hlen]) rfl))
        rw [hx.1, hy.1]
        exact run_make w ty e i0 z hu hi hz .i64 .i64 m m n0 (Int.le_refl _) hb (by simp only [bound] at nb; omega)
      · exact he.elim
    · exact he.elim
  · exact he.elim

/-! ### append -/

/-- The cells of a slice that is read. -/
theorem imm_cells {N : Nat → Prop} {t : Ty} {l : List t.den} {v : Value} (h : Imm w N (.sl t) l [v]) :
    ∃ (A : Option Addr) (cap : Nat) (news : List Value), v = .slice A l.length cap ∧ news.length = l.length * t.size ∧ (∀ u ∈ news, u.oneCell' = true) ∧ (∀ j (hj : j < l.length), Imm w N t l[j] ((news.drop (j * t.size)).take t.size)) ∧
      (0 < l.length → ∃ ad, A = some ad ∧ ∀ j u, news[j]? = some u → w.cell? (ad.add j) = some u) := by
  obtain ⟨A, cap, hv, _, _, h3⟩ := h
  have hv : v = .slice A l.length cap := by simpa using hv
  rcases Nat.eq_zero_or_pos l.length with h0 | h0
  · exact ⟨A, cap, [], hv, by simp [h0], by simp, fun j hj => by omega, fun hl => by omega⟩
  · obtain ⟨b, o', hA, _, _, he⟩ := h3 h0
    have hpos := t.size_pos
    have hall : ∀ i, i < l.length * t.size → ∃ u, w.cell? ⟨b, o' + i, none⟩ = some u := by
      intro i hi
      have hj : i / t.size < l.length := (Nat.div_lt_iff_lt_mul hpos).2 hi
      obtain ⟨es, q1, q2⟩ := he _ hj
      have hm : i % t.size < t.size := Nat.mod_lt _ hpos
      have e1 : i / t.size * t.size + i % t.size = i := by rw [Nat.mul_comm]; exact Nat.div_add_mod _ _
      have := q1 _ hm
      rw [Nat.add_assoc, e1, List.getElem?_eq_getElem (by rw [q2.length]; exact hm)] at this
      exact ⟨_, this⟩
    let news := (List.range (l.length * t.size)).map fun i => (w.cell? ⟨b, o' + i, none⟩).getD undef
    have hnews : ∀ i, i < l.length * t.size → news[i]? = w.cell? ⟨b, o' + i, none⟩ := by
      intro i hi
      obtain ⟨u, hu⟩ := hall i hi
      simp [news, hi, hu]
    have hnl : news.length = l.length * t.size := by simp [news]
    have hseg : ∀ j (hj : j < l.length), Imm w N t l[j] ((news.drop (j * t.size)).take t.size) := by
      intro j hj
      obtain ⟨es, q1, q2⟩ := he j hj
      have : (news.drop (j * t.size)).take t.size = es := by
        apply List.ext_getElem?
        intro c
        by_cases hc : c < t.size
        · have hlt : j * t.size + c < l.length * t.size := by
            have := Nat.mul_le_mul_right t.size (show j + 1 ≤ l.length by omega)
            rw [Nat.add_mul] at this
            omega
          rw [take_drop_get hc, hnews _ hlt, ← q1 c hc, Nat.add_assoc]
        · rw [List.getElem?_take, if_neg hc, List.getElem?_eq_none (by rw [q2.length]; omega)]
      rw [this]
      exact q2
    refine ⟨A, cap, news, hv, hnl, fun u hu => ?_, hseg, fun _ => ⟨_, hA, fun j u hj => ?_⟩⟩
    · obtain ⟨i, hi, rfl⟩ := List.mem_iff_getElem.1 hu
      have hi' : i < l.length * t.size := by omega
      have hj : i / t.size < l.length := (Nat.div_lt_iff_lt_mul hpos).2 hi'
      have hm : i % t.size < t.size := Nat.mod_lt _ hpos
      have e1 : i / t.size * t.size + i % t.size = i := by rw [Nat.mul_comm]; exact Nat.div_add_mod _ _
      refine imm_one (hseg _ hj) _ (List.mem_iff_getElem?.2 ⟨i % t.size, ?_⟩)
      rw [take_drop_get hm, e1, List.getElem?_eq_getElem hi]
    · have hj' : j < l.length * t.size := by rw [← hnl]; exact (List.getElem?_eq_some_iff.1 hj).1
      rw [hnews j hj'] at hj
      rw [Addr.add_lit]
      exact hj

/-- .. of whatever the evaluator takes for a list. -/
theorem list_cells (h : Objs Γ val fp st w) {t : Ty} {x : AV} {l : List t.den} {v : Value} (hl : listOf st t x = some l) (hx : AvRep w (NoGo Γ.X st fp) val st x v) :
    ∃ (A : Option Addr) (cap : Nat) (news : List Value), v = .slice A l.length cap ∧ news.length = l.length * t.size ∧ (∀ u ∈ news, u.oneCell' = true) ∧ (∀ j (hj : j < l.length), Imm w (NoGo Γ.X st fp) t l[j] ((news.drop (j * t.size)).take t.size)) ∧
      (0 < l.length → ∃ ad, A = some ad ∧ ∀ j u, news[j]? = some u → w.cell? (ad.add j) = some u) := by
  unfold listOf at hl
  split at hl
  · cases hl
    exact ⟨none, 0, [], hx, by simp, by simp, fun j hj => absurd hj (by simp), fun h0 => absurd h0 (by simp)⟩
  · rename_i t' l'
    exact imm_cells (castL_rep hl hx)
  · rename_i y
    split at hl
    · rename_i e t' l' hy
      obtain ⟨hv, hr⟩ := own_rep h hx hy
      obtain ⟨xs, s1, s2, s3⟩ := hr
      obtain ⟨e1, e2⟩ := castL_spec hl
      subst e1
      obtain rfl : l = l' := e2
      have hone : ∀ u ∈ xs, u.oneCell' = true := by
        intro u hu
        obtain ⟨i, hi, rfl⟩ := List.mem_iff_getElem.1 hu
        have hpos := t'.size_pos
        have hi' : i < l.length * t'.size := by have := s1.1; omega
        have hj : i / t'.size < l.length := (Nat.div_lt_iff_lt_mul hpos).2 hi'
        have hm : i % t'.size < t'.size := Nat.mod_lt _ hpos
        have e1 : i / t'.size * t'.size + i % t'.size = i := by rw [Nat.mul_comm]; exact Nat.div_add_mod _ _
        refine imm_one (s3 _ hj) _ (List.mem_iff_getElem?.2 ⟨i % t'.size, ?_⟩)
        rw [take_drop_get hm, e1, List.getElem?_eq_getElem hi]
      rcases s1.2 with ⟨q1, q2⟩ | ⟨g, cap, cur, q1, _⟩
      · exact ⟨none, 0, xs, by rw [hv, q1, q2], s1.1, hone, s3, fun h0 => by omega⟩
      · exact ⟨_, cap, xs, by rw [hv, q1], s1.1, hone, s3, fun _ => ⟨_, rfl, s1.cells (g := g) (by rw [q1]; rfl)⟩⟩
    · rename_i e t' l' hy
      obtain ⟨hv, hr⟩ := own_rep h hx hy
      exact imm_cells (castL_rep hl (by rw [hv]; exact hr.2.1))
    · rename_i e t' l' kn hy
      split at hl
      · rename_i hflat
        obtain ⟨hv, hr⟩ := own_rep h hx hy
        obtain ⟨_, e0, xs, Fs, _, s1, _, s3⟩ := hr
        obtain ⟨e1, e2⟩ := castL_spec hl
        subst e1
        obtain rfl : l = l' := e2
        have s3' : ∀ j (hj : j < l.length), Imm w (NoGo Γ.X st fp) t' l[j] ((xs.drop (j * t'.size)).take t'.size) := fun j hj => Deep.imm (fun b hb => (deep_flat_none hflat (s3 j hj) b hb).elim) (s3 j hj)
        have hone : ∀ u ∈ xs, u.oneCell' = true := by
          intro u hu
          obtain ⟨i, hi, rfl⟩ := List.mem_iff_getElem.1 hu
          have hpos := t'.size_pos
          have hi' : i < l.length * t'.size := by have := s1.1; omega
          have hj : i / t'.size < l.length := (Nat.div_lt_iff_lt_mul hpos).2 hi'
          have hm : i % t'.size < t'.size := Nat.mod_lt _ hpos
          have e1 : i / t'.size * t'.size + i % t'.size = i := by rw [Nat.mul_comm]; exact Nat.div_add_mod _ _
          refine imm_one (s3' _ hj) _ (List.mem_iff_getElem?.2 ⟨i % t'.size, ?_⟩)
          rw [take_drop_get hm, e1, List.getElem?_eq_getElem hi]
        rcases s1.2 with ⟨q1, q2⟩ | ⟨g, cap, cur, q1, _⟩
        · exact ⟨none, 0, xs, by rw [hv, q1, q2], s1.1, hone, s3', fun h0 => by omega⟩
        · exact ⟨_, cap, xs, by rw [hv, q1], s1.1, hone, s3', fun _ => ⟨_, rfl, s1.cells (g := g) (by rw [q1]; rfl)⟩⟩
      · cases hl
    · cases hl
  · cases hl

theorem seg_append {t : Ty} {l l' : List t.den} {xs news : List Value} {N : Nat → Prop} (hx : xs.length = l.length * t.size) (h1 : ∀ j (hj : j < l.length), Imm w N t l[j] ((xs.drop (j * t.size)).take t.size))
    (h2 : ∀ j (hj : j < l'.length), Imm w N t l'[j] ((news.drop (j * t.size)).take t.size)) : ∀ j (hj : j < (l ++ l').length), Imm w N t (l ++ l')[j] (((xs ++ news).drop (j * t.size)).take t.size) := by
  intro j hj
  by_cases hlt : j < l.length
  · rw [List.getElem_append_left hlt]
    have hle : j * t.size + t.size ≤ l.length * t.size := by
      have := Nat.mul_le_mul_right t.size (show j + 1 ≤ l.length by omega)
      rw [Nat.add_mul] at this
      omega
    rw [List.drop_append_of_le_length (by omega), List.take_append_of_le_length (by simp; omega)]
    exact h1 j hlt
  · have hge : l.length ≤ j := by omega
    rw [List.getElem_append_right hge]
    have hj' : j - l.length < l'.length := by simp at hj; omega
    have e0 : j * t.size = l.length * t.size + (j - l.length) * t.size := by rw [← Nat.add_mul]; congr 1; omega
    rw [List.drop_append, List.drop_eq_nil_of_le (by rw [hx, e0]; omega), List.nil_append, hx, e0, Nat.add_sub_cancel_left]
    exact h2 _ hj'

/-- The run of an append onto a row that is owned, or onto nil. -/
theorem run_append' {s ty e : TypeId} {i0 : TypeInfo} {z : Value} {size : Nat} (hu : P.underlying s = some (.slice e)) (hi : P.info? e = some i0) (hz : i0.zero = some z) (hsz : i0.size = size) (hzs : z.cells.size = size) (hpos : 0 < size) (hby : i0.bytes ≤ 256)
    {v : Value} {n : Nat} {xs : List Value} (hown : w.ownsRow 0 e size v n xs) {A : Option Addr} {m c : Nat} {news : List Value} (hl : news.length = m * size) (h1 : ∀ u ∈ news, u.oneCell' = true)
    (hA : 0 < m → ∃ ad, A = some ad ∧ ∀ j u, news[j]? = some u → w.cell? (ad.add j) = some u) (hb : n + m ≤ bound) :
    ∃ v' w', (Builtin.append_ #[s, s] ty #[v, .slice A m c]).run P w = .ok v' w' ∧ w'.ownsRow 0 e size v' (n + m) (xs ++ news) ∧ w.grownBy w' v.ownBlock ∧ (v'.ownBlock = v.ownBlock ∨ v'.ownBlock = some w.heap.size) := by
  rcases Nat.eq_zero_or_pos m with h0 | h0
  · subst h0
    have hn : news = [] := List.eq_nil_of_length_eq_zero (by simpa using hl)
    subst hn
    refine ⟨v, w, ?_, by simpa using hown, World.grownBy.refl w _, .inl rfl⟩
    cases A with
    | none =>
      rcases hown.2 with ⟨rfl, rfl⟩ | ⟨g, cap, cur, rfl, _, _, hnc, _⟩
      · simp [Builtin.append_, run_underlying hu, sizeOf, typeInfo, hi, Builtin.lenOf, Builtin.firstCells]
      · simp [Builtin.append_, run_underlying hu, sizeOf, typeInfo, hi, Builtin.lenOf, Builtin.firstCells, hnc, storeCells]
    | some ad =>
      rcases hown.2 with ⟨rfl, rfl⟩ | ⟨g, cap, cur, rfl, _, _, hnc, _⟩
      · simp [Builtin.append_, run_underlying hu, sizeOf, typeInfo, hi, Builtin.lenOf, Builtin.firstCells, loadCells, loadCellsFrom]
      · simp [Builtin.append_, run_underlying hu, sizeOf, typeInfo, hi, Builtin.lenOf, Builtin.firstCells, hnc, storeCells, loadCells, loadCellsFrom]
  · obtain ⟨ad, rfl, hc⟩ := hA h0
    have hb1 : (n + m) * i0.bytes ≤ 140737488355328 := by
      have := Nat.mul_le_mul_left (n + m) hby
      simp only [bound] at hb
      omega
    obtain ⟨v', w', q1, q2, q3, _, q4⟩ := run_append_own_at (P := P) w 0 s ty e i0 z size i0.bytes hu hi hz hsz rfl hzs hpos v n xs hown ad m c news hl hc h1 (by simp only [bound] at hb; simp only [maxLen]; omega) hb1 (Nat.zero_le _)
    exact ⟨v', w', q1, q2, q3, q4⟩

theorem seg_lo {xs news : List Value} {size n j : Nat} (hx : xs.length = n * size) (hj : j < n) : ((xs ++ news).drop (j * size)).take size = (xs.drop (j * size)).take size := by
  have hle : j * size + size ≤ n * size := by
    have := Nat.mul_le_mul_right size (show j + 1 ≤ n by omega)
    rw [Nat.add_mul] at this
    omega
  rw [List.drop_append_of_le_length (by omega), List.take_append_of_le_length (by simp; omega)]

theorem seg_hi {xs news : List Value} {size n j : Nat} (hx : xs.length = n * size) (hj : n ≤ j) : ((xs ++ news).drop (j * size)).take size = (news.drop ((j - n) * size)).take size := by
  have e0 : j * size = n * size + (j - n) * size := by rw [← Nat.add_mul]; congr 1; omega
  rw [List.drop_append, List.drop_eq_nil_of_le (by rw [hx, e0]; omega), List.nil_append, hx, e0, Nat.add_sub_cancel_left]

theorem append_core (h : Objs Γ val fp st w) {s ty e : TypeId} {t : Ty} {i0 : TypeInfo} {z : Value} (hu : P.underlying s = some (.slice e)) (hi : P.info? e = some i0) (hz : i0.zero = some z) (hsz : i0.size = t.size) (hzs : z.cells.size = t.size) (hby : i0.bytes ≤ 256)
    {vx : Value} {l l' : List t.den} {xs : List Value} {FX : Nat → Prop} {Fx : Nat → Nat → Prop} {nx : List Nat} (x1 : w.ownsRow 0 e t.size vx l.length xs) (x2 : RowF vx l.length FX Fx) (x3 : ∀ j (_ : j < l.length), Deep w val t (fun _ => none) 0 l[j] ((xs.drop (j * t.size)).take t.size) (Fx j))
    (x4 : ∀ b, FX b → ∃ y ∈ nx, b ∈ fp y) (x5 : ∀ y ∈ nx, ∃ e t l kd, lk st y = some (.sl e t l kd)) {y0 : Nat} {e1 : TypeId} {kn : Bool} (hy : lk st y0 = some (.sl e1 t l' (.deep kn .no))) (hyn : y0 ∉ nx) {d : Nat} (hd : lk (kill st (nx ++ [y0])) d = none) (hb : l.length + l'.length ≤ bound) :
    ∃ v' w' val' fp', (Builtin.append_ #[s, s] ty #[vx, val y0]).run P w = .ok v' w' ∧ Step Γ val val' fp fp' st ((d, .sl e t (l ++ l') (.deep true .no)) :: kill st (nx ++ [y0])) w w' ∧ val' d = v' ∧ ∃ A n c, v' = .slice A n c := by
  classical
  obtain ⟨_, e2, ys, Fy, _, y1, y2, y3⟩ := h.rep y0 _ hy
  have hpos := t.size_pos
  have hone : ∀ u ∈ ys, u.oneCell' = true := by
    intro u hu
    obtain ⟨i, hi, rfl⟩ := List.mem_iff_getElem.1 hu
    have hi' : i < l'.length * t.size := by have := y1.1; omega
    have hj : i / t.size < l'.length := (Nat.div_lt_iff_lt_mul hpos).2 hi'
    have hm : i % t.size < t.size := Nat.mod_lt _ hpos
    have e1 : i / t.size * t.size + i % t.size = i := by rw [Nat.mul_comm]; exact Nat.div_add_mod _ _
    refine (y3 _ hj).one _ (List.mem_iff_getElem?.2 ⟨i % t.size, ?_⟩)
    rw [take_drop_get hm, e1, List.getElem?_eq_getElem hi]
  obtain ⟨A, cap, hvy⟩ := own_shape y1
  have hA : 0 < l'.length → ∃ ad, A = some ad ∧ ∀ j u, ys[j]? = some u → w.cell? (ad.add j) = some u := fun hl => by
    rcases y1.2 with ⟨_, q2⟩ | ⟨g, cap', cur, q1, _⟩
    · omega
    · rw [q1] at hvy
      simp only [Value.slice.injEq] at hvy
      obtain ⟨rfl, _⟩ := hvy
      exact ⟨_, rfl, y1.cells (g := g) (by rw [q1]; rfl)⟩
  obtain ⟨v', w', q1, q2, q3, q4⟩ := run_append' (ty := ty) (c := cap) hu hi hz hsz hzs hpos hby x1 y1.1 hone hA hb
  have hns : ∀ y ∈ nx ++ [y0], ∃ e t l kd, lk st y = some (.sl e t l kd) := fun y hy' => by
    rcases List.mem_append.1 hy' with hy' | hy'
    · exact x5 y hy'
    · rw [List.mem_singleton.1 hy']; exact ⟨_, _, _, _, hy⟩
  have lt1 : ∀ b, FX b → b < w.heap.size := fun b hb => by
    obtain ⟨y, hy', hby'⟩ := x4 b hb
    obtain ⟨_, _, _, _, ho⟩ := x5 y hy'
    exact (h.own y _ ho b hby').1
  have lt2 : ∀ b ∈ fp y0, b < w.heap.size := fun b hb => (h.own y0 _ hy b hb).1
  have apart : ∀ b, FX b → b ∉ fp y0 := fun b hb hby' => by
    obtain ⟨y, hy', hb'⟩ := x4 b hb
    obtain ⟨_, _, _, _, ho⟩ := x5 y hy'
    exact h.apart y y0 _ _ (fun e0 => hyn (e0 ▸ hy')) ho hy b hb' hby'
  have hFx : ∀ j b, j < l.length → Fx j b → FX b ∧ vx.ownBlock ≠ some b := fun j b hj hb => ⟨(x2.all b).2 (.inr ⟨j, hj, hb⟩), fun ho => x2.own b j hj ho hb⟩
  have hFy : ∀ j b, j < l'.length → Fy j b → b ∈ fp y0 := fun j b hj hb => (y2.all b).2 (.inr ⟨j, hj, hb⟩)
  have hkeep : ∀ b, b < w.heap.size → vx.ownBlock ≠ some b → w'.heap[b]? = w.heap[b]? := fun b hb hne => q3.block b hb (fun e0 => hne e0.symm)
  have hy0x : ∀ b ∈ fp y0, vx.ownBlock ≠ some b := fun b hb ho => apart b ((x2.all b).2 (.inl ho)) hb
  have hnb : ∀ b, v'.ownBlock = some b → b < w'.heap.size ∧ (b < w.heap.size → vx.ownBlock = some b) := fun b hb => by
    refine ⟨(q2.lt b hb).2, fun hlt => ?_⟩
    rcases q4 with q4 | q4
    · rw [← q4]; exact hb
    · rw [q4] at hb; simp at hb; omega
  let Fs : Nat → Nat → Prop := fun j b => if j < l.length then Fx j b else Fy (j - l.length) b
  have hFs1 : ∀ j b, j < l.length → (Fs j b ↔ Fx j b) := fun j b hj => by simp [Fs, hj]
  have hFs2 : ∀ j b, ¬ j < l.length → (Fs j b ↔ Fy (j - l.length) b) := fun j b hj => by simp [Fs, hj]
  have hlen : (l ++ l').length = l.length + l'.length := List.length_append
  have hFs : ∀ j b, j < (l ++ l').length → Fs j b → b < w.heap.size ∧ vx.ownBlock ≠ some b ∧ ∃ y ∈ nx ++ [y0], b ∈ fp y := fun j b hj hb => by
    by_cases hjl : j < l.length
    · obtain ⟨k1, k2⟩ := hFx j b hjl ((hFs1 j b hjl).1 hb)
      obtain ⟨y, hy', hby'⟩ := x4 b k1
      exact ⟨lt1 b k1, k2, y, by simp [hy'], hby'⟩
    · have k1 := hFy (j - l.length) b (by omega) ((hFs2 j b hjl).1 hb)
      exact ⟨lt2 b k1, hy0x b k1, y0, by simp, k1⟩
  obtain ⟨val', fp', hstep, hv⟩ := gather_step (w' := w') h (d := d) (ns := nx ++ [y0]) hd hns (ob := .sl e t (l ++ l') (.deep true .no)) (v := v')
    (F := (v'.ownBlock.toList ++ (nx ++ [y0]).flatMap fp).filter (fun b => decide (v'.ownBlock = some b ∨ ∃ j, j < (l ++ l').length ∧ Fs j b))) q3.os q3.tape q3.output q3.size (fun b hb hn => hkeep b hb (fun ho => by
      obtain ⟨y, hy', hby'⟩ := x4 b ((x2.all b).2 (.inl ho))
      exact hn y (by simp [hy']) hby')) (fun b hb => by
      simp only [List.mem_filter, decide_eq_true_eq] at hb
      rcases hb.2 with ho | ⟨j, hj, hb⟩
      · obtain ⟨k1, k2⟩ := hnb b ho
        refine ⟨k1, fun hlt => ?_⟩
        obtain ⟨y, hy', hby'⟩ := x4 b ((x2.all b).2 (.inl (k2 hlt)))
        exact ⟨y, by simp [hy'], hby'⟩
      · obtain ⟨k1, _, k3⟩ := hFs j b hj hb
        exact ⟨Nat.lt_of_lt_of_le k1 q3.size, fun _ => k3⟩) (fun N val'' st'' => by
      refine ⟨trivial, e, xs ++ ys, Fs, fun _ => rfl, by rw [hlen]; exact q2, ⟨fun b => ?_, fun b j hj ho hb => ?_, fun j k b hj hk hjk hb hb' => ?_⟩, fun j hj => ?_⟩
      · simp only [List.mem_filter, List.mem_append, decide_eq_true_eq]
        refine ⟨fun hb => hb.2, fun hb => ⟨?_, hb⟩⟩
        rcases hb with hb | ⟨j, hj, hb⟩
        · exact .inl (by simp [hb])
        · obtain ⟨_, _, y, hy', hby'⟩ := hFs j b hj hb
          exact .inr (List.mem_flatMap.2 ⟨y, hy', hby'⟩)
      · obtain ⟨k1, k2, _⟩ := hFs j b hj hb
        exact k2 ((hnb b ho).2 k1)
      · by_cases hjl : j < l.length <;> by_cases hkl : k < l.length
        · exact x2.apart j k b hjl hkl hjk ((hFs1 j b hjl).1 hb) ((hFs1 k b hkl).1 hb')
        · exact apart b (hFx j b hjl ((hFs1 j b hjl).1 hb)).1 (hFy _ b (by omega) ((hFs2 k b hkl).1 hb'))
        · exact apart b (hFx k b hkl ((hFs1 k b hkl).1 hb')).1 (hFy _ b (by omega) ((hFs2 j b hjl).1 hb))
        · exact y2.apart (j - l.length) (k - l.length) b (by omega) (by omega) (by omega) ((hFs2 j b hjl).1 hb) ((hFs2 k b hkl).1 hb')
      · have hk : ∀ b, Fs j b → w'.heap[b]? = w.heap[b]? := fun b hb => by
          obtain ⟨k1, k2, _⟩ := hFs j b hj hb
          exact hkeep b k1 k2
        by_cases hjl : j < l.length
        · rw [seg_lo x1.1 hjl, List.getElem_append_left hjl]
          exact ((x3 j hjl).kept (fun b hb => hk b ((hFs1 j b hjl).2 hb)) (fun _ _ _ hp => by cases hp)).congr (fun b => hFs1 j b hjl)
        · rw [seg_hi x1.1 (by omega), List.getElem_append_right (by omega)]
          have hj' : j - l.length < l'.length := by omega
          exact ((y3 _ hj').kept (fun b hb => hk b ((hFs2 j b hjl).2 hb)) (fun _ _ _ hp => by cases hp)).congr (fun b => hFs2 j b hjl))
  have hsl : ∃ A n c, v' = .slice A n c := by rcases q2.2 with ⟨e1, _⟩ | ⟨g, c, cur, e1, _⟩ <;> exact ⟨_, _, _, e1⟩
  exact ⟨v', w', val', fp', by rw [hvy]; exact q1, hstep, hv, hsl⟩

/-- Append in place, whatever type the block bears. -/
theorem run_room_e {s ty e e1 : TypeId} {i0 : TypeInfo} (hu : P.underlying s = some (.slice e)) (hi : P.info? e = some i0) {g n cap : Nat} {cur : Array Value} (hg : w.heap[g]? = some (.cells cur e1 (0, 0))) {ad : Addr} {m c : Nat} {news : List Value}
    (hl : news.length = m * i0.size) (hn : ∀ j u, news[j]? = some u → w.cell? (ad.add j) = some u) (h1 : ∀ u ∈ news, u.oneCell' = true) (hr : n + m ≤ cap) (hf : n * i0.size + news.length ≤ cur.size) :
    (Builtin.append_ #[s, s] ty #[.slice (some ⟨g, 0, none⟩) n cap, .slice (some ad) m c]).run P w =
      .ok (.slice (some ⟨g, 0, none⟩) (n + m) cap) (w.setRow g (cur.toList.take (n * i0.size) ++ news ++ cur.toList.drop (n * i0.size + news.length)).toArray) := by
  have q1 := run_firstCells_some (P := P) w i0.size m ad m c news hl hn
  have q2 := run_storeCells_at P g (n * i0.size) e1 news 0 cur w hg (by simpa using hf) h1
  rw [Nat.add_zero] at q2
  simp [Builtin.append_, run_underlying hu, sizeOf, typeInfo, hi, Builtin.lenOf, hr, q1, Addr.add_lit, q2]

theorem run_append_e {s ty e e1 : TypeId} {i0 : TypeInfo} {z : Value} {size : Nat} (hu : P.underlying s = some (.slice e)) (hi : P.info? e = some i0) (hz : i0.zero = some z) (hsz : i0.size = size) (hzs : z.cells.size = size) (hpos : 0 < size) (hby : i0.bytes ≤ 256)
    {v : Value} {n : Nat} {xs : List Value} (hown : w.ownsRow 0 e1 size v n xs) {A : Option Addr} {m c : Nat} {news : List Value} (hl : news.length = m * size) (h1 : ∀ u ∈ news, u.oneCell' = true)
    (hA : 0 < m → ∃ ad, A = some ad ∧ ∀ j u, news[j]? = some u → w.cell? (ad.add j) = some u) (hb : n + m ≤ bound) :
    ∃ v' w' e2, (Builtin.append_ #[s, s] ty #[v, .slice A m c]).run P w = .ok v' w' ∧ w'.ownsRow 0 e2 size v' (n + m) (xs ++ news) ∧ w.grownBy w' v.ownBlock ∧ (v'.ownBlock = v.ownBlock ∨ v'.ownBlock = some w.heap.size) := by
  have hbd : n + m ≤ 4294967296 := hb
  have hbm : (n + m) * i0.bytes ≤ 140737488355328 := by
    have := Nat.mul_le_mul_left (n + m) hby
    omega
  have hml : n + m ≤ maxLen := by simp only [maxLen]; omega
  rcases hown.2 with ⟨rfl, rfl⟩ | ⟨g, cap, cur, rfl, hbg, hg, hnc, hcm, hcs, htake⟩
  · have hx : xs = [] := List.eq_nil_of_length_eq_zero (by simpa using hown.1)
    subst hx
    obtain ⟨v', w', q1, q2, q3, q4⟩ := run_append' (ty := ty) (c := c) hu hi hz hsz hzs hpos hby (World.ownsRow_nil w 0 e size) hl h1 hA hb
    exact ⟨v', w', e, q1, q2, q3, q4⟩
  · subst hsz
    rcases Nat.eq_zero_or_pos m with h0 | h0
    · subst h0
      have hn : news = [] := List.eq_nil_of_length_eq_zero (by simpa using hl)
      subst hn
      refine ⟨_, w, e1, ?_, by simpa using hown, World.grownBy.refl w _, .inl rfl⟩
      cases A with
      | none => simp [Builtin.append_, run_underlying hu, sizeOf, typeInfo, hi, Builtin.lenOf, Builtin.firstCells, hnc, storeCells]
      | some ad => simp [Builtin.append_, run_underlying hu, sizeOf, typeInfo, hi, Builtin.lenOf, Builtin.firstCells, hnc, storeCells, loadCells, loadCellsFrom]
    obtain ⟨ad, rfl, hc⟩ := hA h0
    have hlen : (xs ++ news).length = (n + m) * i0.size := by rw [List.length_append, hown.1, hl, Nat.add_mul]
    by_cases hroom : n + m ≤ cap
    · have hfit : n * i0.size + news.length ≤ cur.size := by rw [hl, hcs, ← Nat.add_mul]; exact Nat.mul_le_mul_right _ hroom
      refine ⟨_, _, e1, run_room_e (ty := ty) (c := c) hu hi hg hl hc h1 hroom hfit, ⟨hlen, .inr ⟨g, cap, _, rfl, hbg, setRow_heap w g cur _ e1 _ hg, hroom, hcm, ?_, ?_⟩⟩, ⟨rfl, rfl, rfl, by simp, fun k _ hk => setRow_other w g k _ (fun e => hk (by simp [Value.ownBlock, e]))⟩, .inl rfl⟩
      · simp only [List.size_toArray, List.length_append, List.length_take, List.length_drop, Array.length_toList]
        omega
      · rw [htake, ← hlen]
        exact List.take_left
    · have hr := run_append_grow (P := P) w s ty e i0 z hu hi hz ⟨g, 0, none⟩ n cap xs hown.1 (hown.cells (g := g) rfl) ad m c news hl hc (by omega) (by simp only [maxLen] at hml; omega) (growslice_fits (by omega) hbm)
      have hge := grownCap_ge w (n + m) cap e
      refine ⟨_, _, e, hr, ⟨hlen, .inr ⟨w.heap.size, _, _, rfl, Nat.zero_le _, heap_alloc_new w.drew _, hge, grownCap_le_maxLen w (n + m) cap e hml, ?_, ?_⟩⟩, ⟨rfl, rfl, rfl, by simp, fun b hb' _ => Below.heap_alloc w.drew _ b hb'⟩, .inr rfl⟩
      · simp only [Array.size_append, List.size_toArray, size_zeroCells, hzs, hown.1, hl, ← Nat.add_mul]
        congr 1
        omega
      · simp only [Array.toList_append, List.append_assoc]
        rw [← List.append_assoc, ← hlen]
        exact List.take_left

/-- Append onto a row out of a row of rows, its elements being flat. -/
theorem append_flat (h : Objs Γ val fp st w) {s ty e : TypeId} {t : Ty} {i0 : TypeInfo} {z : Value} (hu : P.underlying s = some (.slice e)) (hi : P.info? e = some i0) (hz : i0.zero = some z) (hsz : i0.size = t.size) (hzs : z.cells.size = t.size) (hby : i0.bytes ≤ 256) (hf : flatTy t = true)
    {x' : Nat} {e1 : TypeId} {kn : Bool} {l l' : List t.den} (hx : lk st x' = some (.sl e1 t l (.deep kn .no))) {N : Nat → Prop} {A : Option Addr} {c : Nat} {news : List Value} (n2 : news.length = l'.length * t.size) (n3 : ∀ u ∈ news, u.oneCell' = true)
    (n4 : ∀ j (hj : j < l'.length), Imm w N t l'[j] ((news.drop (j * t.size)).take t.size)) (n5 : 0 < l'.length → ∃ ad, A = some ad ∧ ∀ j u, news[j]? = some u → w.cell? (ad.add j) = some u)
    {d : Nat} (hd : lk (kill st [x']) d = none) (hb : l.length + l'.length ≤ bound) :
    ∃ v' w' val' fp', (Builtin.append_ #[s, s] ty #[val x', .slice A l'.length c]).run P w = .ok v' w' ∧ Step Γ val val' fp fp' st ((d, .sl 0 t (l ++ l') (.deep false .no)) :: kill st [x']) w w' ∧ val' d = v' ∧ ∃ A n c, v' = .slice A n c := by
  obtain ⟨_, e2, xs, Fx, _, x1, x2, x3⟩ := h.rep x' _ hx
  obtain ⟨v', w', e3, q1, q2, q3, q4⟩ := run_append_e (ty := ty) (c := c) hu hi hz hsz hzs t.size_pos hby x1 n2 n3 n5 hb
  have hFx : ∀ j b, j < l.length → ¬ Fx j b := fun j b hj hb => deep_flat_none hf (x3 j hj) b hb
  have hbx : ∀ b, (val x').ownBlock = some b → b ∈ fp x' := fun b hb => (x2.all b).2 (.inl hb)
  obtain ⟨val', fp', hstep, hv⟩ := gather_step (w' := w') h (d := d) (ns := [x']) hd (fun y hy => by rw [List.mem_singleton.1 hy]; exact ⟨_, _, _, _, hx⟩) (ob := .sl 0 t (l ++ l') (.deep false .no)) (v := v') (F := v'.ownBlock.toList) q3.os q3.tape q3.output q3.size
    (fun b hb hn => q3.block b hb (fun e0 => hn x' (by simp) (hbx b e0.symm))) (fun b hb => by
      have hb : v'.ownBlock = some b := by simpa using hb
      refine ⟨(q2.lt b hb).2, fun hlt => ⟨x', by simp, ?_⟩⟩
      rcases q4 with q4 | q4
      · rw [q4] at hb; exact hbx b hb
      · rw [q4] at hb; simp at hb; omega) (fun N' val'' st'' => by
      refine ⟨trivial, ⟨e3, xs ++ news, fun _ _ => False, (fun hk => by cases hk), by rw [List.length_append]; exact q2, ⟨fun b => by simp, fun _ _ _ _ hb => hb, fun _ _ _ _ _ _ hb => hb.elim⟩, fun j hj => ?_⟩⟩
      by_cases hjl : j < l.length
      · rw [seg_lo x1.1 hjl, List.getElem_append_left hjl]
        exact ((x3 j hjl).kept (fun b hb => absurd hb (hFx j b hjl)) (fun _ _ _ hp => by cases hp)).congr (fun b => ⟨fun hb => hb.elim, fun hb => absurd hb (hFx j b hjl)⟩)
      · have hj' : j - l.length < l'.length := by simp at hj; omega
        rw [seg_hi x1.1 (by omega), List.getElem_append_right (by omega)]
        exact Deep.kept (w := w) (val := val'') (fun _ hb => hb.elim) (fun _ _ _ hp => by cases hp) (flat_deep hf (n4 _ hj')))
  have hsl : ∃ A n c, v' = .slice A n c := by rcases q2.2 with ⟨e1, _⟩ | ⟨g, c, cur, e1, _⟩ <;> exact ⟨_, _, _, e1⟩
  exact ⟨v', w', val', fp', q1, hstep, hv, hsl⟩

theorem deepOf_spec (h : Objs Γ val fp st w) {t : Ty} {x : AV} {y0 : Nat} {l' : List t.den} {v : Value} (hd : deepOf st t x = some (y0, l')) (hx : AvRep w (NoGo Γ.X st fp) val st x v) : ∃ e kn, lk st y0 = some (.sl e t l' (.deep kn .no)) ∧ v = val y0 := by
  unfold deepOf at hd
  split at hd
  · rename_i y
    split at hd
    · rename_i e t' l kn hl
      split at hd
      · rename_i l0 hl0
        cases hd
        obtain ⟨e1, e2⟩ := castL_spec hl0
        subst e1
        obtain rfl : l' = l := e2
        exact ⟨e, kn, hl, (own_rep h hx hl).1⟩
      · cases hd
    · cases hd
  · cases hd

theorem append_deep (hT : TysOk P C.y) (h : Sim Γ val fp ρ st a w) {x y : Operand} {s e : TypeId} (ho : o.op = .call { callee := .builtin .append, args := #[x, y], argTypes := #[s, s] }) (hel : lk C.y.el s = some e) {t : Ty} (ht : lk C.y.ty e = some t)
    (he : effK (evAppendD st o.dst e t (ev1 ρ x) (ev1 ρ y)) k) (hK : Fol Γ val fp st a w o k K) : o.wp P a w K Q := by
  have hx := ev1_rep h x
  have hy := ev1_rep h y
  have hu := hT.el s e hel
  obtain ⟨i0, z, dd, hi, hsz, hz, hzc, hby, _, _, hf⟩ := hT.ty e t ht
  have hzs : z.cells.size = t.size := by
    have h2 := (dflt_rep (w := w) (N := fun _ => False) hf).length
    rw [← hzc] at h2
    simpa using h2
  unfold evAppendD at he
  split at he
  · rename_i h1
    rw [h1] at hx
    split at he
    · rename_i y0 l' hd0
      obtain ⟨e1, kn, hl, hv⟩ := deepOf_spec h.toObjs hd0 hy
      obtain ⟨d, hd, hn, hb, hk⟩ := effK_req he
      obtain ⟨v', w', val', fp', q1, q2, q3, A', n', c', hsl⟩ := append_core (P := P) (ty := o.type) (l := []) (nx := []) (FX := fun _ => False) (Fx := fun _ _ => False) h.toObjs hu hi hz hsz hzs hby (World.ownsRow_nil w 0 e t.size) ⟨fun b => by simp [Value.ownBlock], fun _ _ _ _ hb => hb, fun _ _ _ _ _ _ hb => hb.elim⟩ (fun j hj => absurd hj (by simp)) (fun _ hb => hb.elim) (fun _ hy => by cases hy) hl (by simp) (d := d) hn (by simpa using hb)
      refine wp_builtin ho (s := Builtin.append_ #[s, s] o.type #[a.eval x, a.eval y]) (fun cs => by simp [builtin]) (v := v') (w' := w') ?_ (hK _ _ _ _ _ _ hk q2 (av_own q3 hsl))
      rw [show a.eval x = _ from hx, hv]; exact q1
    · exact he.elim
  · rename_i x' _ h1
    rw [h1] at hx
    split at he
    · rename_i st1 hcl
      obtain ⟨fp1, S1⟩ := close_step h.toObjs hcl
      have hx1 := AvRep.kept S1.kept S1.stays hx
      have hy1 := AvRep.kept S1.kept S1.stays hy
      split at he
      · rename_i e' t' l y0 l' hl0 hd0
        split at he
        · rename_i hee
          obtain rfl := beq_lk.1 hee
          split at he
          · exact he.elim
          · rename_i hne
            split at he
            · rename_i l0 hc0
              obtain ⟨e1, e2⟩ := castL_spec hc0
              subst e1
              obtain rfl : l0 = l := e2
              obtain ⟨e1, kn, hl, hv⟩ := deepOf_spec S1.objs hd0 hy1
              obtain ⟨d, hd, hn, hb, hk⟩ := effK_req he
              obtain ⟨hvx, _, e2, xs, Fs, r1, r2, r3, r4⟩ := own_rep S1.objs hx1 hl0
              obtain rfl := r1 rfl
              have hxy : y0 ∉ [x'] := fun hm => by
                rw [List.mem_singleton] at hm
                rw [hm, Nat.beq_refl] at hne
                cases hne
              obtain ⟨v', w', val', fp', q1, q2, q3, A', n', c', hsl⟩ := append_core (P := P) (ty := o.type) (nx := [x']) S1.objs hu hi hz hsz hzs hby r2 r3 (fun j hj => r4 j hj) (fun b hb => ⟨x', by simp, hb⟩) (fun y hy => by rw [List.mem_singleton.1 hy]; exact ⟨_, _, _, _, hl0⟩) hl hxy (d := d) hn hb
              refine wp_builtin ho (s := Builtin.append_ #[s, s] o.type #[a.eval x, a.eval y]) (fun cs => by simp [builtin]) (v := v') (w' := w') ?_ (hK _ _ _ _ _ _ hk (S1.trans q2) (av_own q3 hsl))
              rw [hvx, hv]; exact q1
            · exact he.elim
        · exact he.elim
      · exact he.elim
    · exact he.elim
  · exact he.elim

theorem sound_append (hT : TysOk P C.y) (h : Sim Γ val fp ρ st a w) {x y : Operand} {tys : Array TypeId} (ho : o.op = .call { callee := .builtin .append, args := #[x, y], argTypes := tys }) (he : effK (evAppend C st o.dst tys.toList (ev1 ρ x) (ev1 ρ y)) k) (hK : Fol Γ val fp st a w o k K) : o.wp P a w K Q := by
  have hx := ev1_rep h x
  have hy := ev1_rep h y
  unfold evAppend at he
  split at he
  · rename_i s s' hs
    have htys : tys = #[s, s'] := by cases tys; simpa using hs
    subst htys
    split at he
    · rename_i hss
      obtain rfl := beq_lk.1 hss
      split at he
      · rename_i e hel
        split at he
        · rename_i t ht
          split at he
          · exact append_deep hT h ho hel ht he hK
          split at he
          · rename_i l' hl'
            have hu := hT.el s e hel
            obtain ⟨i0, z, dd, hi, hsz, hz, hzc, hby, _, _, hf⟩ := hT.ty e t ht
            have hzs : z.cells.size = t.size := by
              have h2 := (dflt_rep (w := w) (N := fun _ => False) hf).length
              rw [← hzc] at h2
              simpa using h2
            obtain ⟨A, cap, news, n1, n2, n3, n4, n5⟩ := list_cells h.toObjs hl' hy
            split at he
            · rename_i h1
              rw [h1] at hx
              obtain ⟨d, hd, hn, hb, hk⟩ := effK_req he
              obtain ⟨v', w', q1, q2, q3, q4⟩ := run_append' (ty := o.type) (c := cap) hu hi hz hsz hzs t.size_pos hby (World.ownsRow_nil w 0 e t.size) n2 n3 n5 (by simpa using hb)
              have hblk : ∀ b, b < w.heap.size → w'.heap[b]? = w.heap[b]? := fun b hb' => q3.block b hb' (by simp [Value.ownBlock])
              have hfresh : ∀ b ∈ v'.ownBlock.toList, w.heap.size ≤ b ∧ b < w'.heap.size := by
                intro b hb'
                rcases q4 with q4 | q4
                · rw [q4] at hb'; simp [Value.ownBlock] at hb'
                · have := (q2.lt b (by simpa using hb')).2
                  rw [q4] at hb'
                  simp at hb'
                  omega
              simp only [Nat.zero_add, List.nil_append] at q2
              obtain ⟨val', fp', hstep, hv⟩ := new_step h.toObjs hn (ob := .sl e t l' .shallow) (v := v') (F := v'.ownBlock.toList) q3.os q3.tape q3.output q3.size hblk hfresh
                (fun hk' _ => ⟨news, q2, rfl, fun j hj => (n4 j hj).kept hk'⟩)
              have hsl : ∃ A n c, v' = .slice A n c := by rcases q2.2 with ⟨e1, _⟩ | ⟨g, c, cur, e1, _⟩ <;> exact ⟨_, _, _, e1⟩
              obtain ⟨A', n', c', hsl⟩ := hsl
              refine wp_builtin ho (s := Builtin.append_ #[s, s] o.type #[a.eval x, a.eval y]) (fun cs => by simp [builtin]) (v := v') (w' := w') ?_ (hK _ _ _ _ _ _ hk hstep (av_own hv hsl))
              rw [show a.eval x = _ from hx, n1]; exact q1
            · rename_i x' _ h1
              rw [h1] at hx
              split at he
              · rename_i e' t' l hl
                split at he
                · rename_i hee
                  obtain rfl := beq_lk.1 hee
                  split at he
                  · rename_i l0 hl0
                    obtain ⟨e1, e2⟩ := castL_spec hl0
                    subst e1
                    obtain rfl : l0 = l := e2
                    obtain ⟨d, hd, hn, hb, hk⟩ := effK_req he
                    obtain ⟨hv0, xs, s1, s2, s3⟩ := own_rep h.toObjs hx hl
                    obtain ⟨v', w', q1, q2, q3, q4⟩ := run_append' (ty := o.type) (c := cap) hu hi hz hsz hzs t'.size_pos hby s1 n2 n3 n5 hb
                    have hlkd : ∀ y, lk (sput st x' Ob.dead) y = if y = x' then some .dead else lk st y := fun y => by rw [lk_sput, hl]; rfl
                    have hdx : d ≠ x' := fun e0 => by rw [hlkd, if_pos e0] at hn; cases hn
                    have hdn : lk st d = none := by rw [hlkd, if_neg hdx] at hn; exact hn
                    have hlk : ∀ y, lk ((d, Ob.sl e t' (l0 ++ l') .shallow) :: sput st x' Ob.dead) y = if y = d then some (.sl e t' (l0 ++ l') .shallow) else if y = x' then some .dead else lk st y := fun y => by rw [lk_cons, hlkd]
                    have which : ∀ {y : Nat} {ob : Ob}, lk ((d, Ob.sl e t' (l0 ++ l') .shallow) :: sput st x' Ob.dead) y = some ob → (lk st y = none ∨ y = x') → y = d ∨ y = x' := fun {y ob} hy' hn' => by
                      rcases hn' with hn' | hn'
                      · rw [hlk] at hy'
                        by_cases e0 : y = d
                        · exact .inl e0
                        · rw [if_neg e0] at hy'
                          by_cases e1 : y = x'
                          · exact .inr e1
                          · rw [if_neg e1, hn'] at hy'; cases hy'
                      · exact .inr hn'
                    have hstep : Step Γ val (fun y => if y = d then v' else val y) fp (fun y => if y = d then v'.ownBlock.toList else if y = x' then [] else fp y) st ((d, Ob.sl e t' (l0 ++ l') .shallow) :: sput st x' Ob.dead) w w' := by
                      refine h.toObjs.step (fun y => y = x') q3.os q3.tape q3.output q3.size (fun b hb' hnb => q3.block b hb' (fun e0 => hnb x' _ rfl hl (by rw [s2, ← e0]; simp))) (fun y ob hy' hnn => ?_) (fun y ob hy' hnn => ?_) (fun y ob hy' hnn b hb' => ?_) (fun y z o1 o2 hne hy' hz' hnn hnn' b hb' => ?_) (fun hkept hstay y ob hy' hnn => ?_)
                      · have hnn : ¬ y = x' := hnn
                        have hyd : y ≠ d := fun e0 => by rw [e0, hdn] at hy'; cases hy'
                        rw [hlk, if_neg hyd, if_neg hnn]
                        exact ⟨hy', by simp [hyd], by simp [hyd, hnn]⟩
                      · have hnn : y = x' := hnn
                        subst hnn
                        rw [hl] at hy'
                        obtain rfl := Option.some.inj hy'
                        exact ⟨.dead, by rw [hlk, if_neg hdx.symm, if_pos rfl], (show Compat (.sl _ _ _ _) .dead from trivial), by simp [hdx.symm]⟩
                      · rcases which hy' hnn with rfl | rfl
                        · simp at hb'
                          have hlt := (q2.lt b hb').2
                          refine ⟨hlt, fun hbl => ⟨x', _, rfl, hl, ?_⟩⟩
                          rcases q4 with q4 | q4
                          · rw [s2, ← q4]; simpa using hb'
                          · rw [q4] at hb'; simp at hb'; omega
                        · simp [hdx.symm] at hb'
                      · rcases which hy' hnn with rfl | rfl
                        · rcases which hz' hnn' with rfl | rfl
                          · exact absurd rfl hne
                          · simp [hdx.symm]
                        · simp [hdx.symm] at hb'
                      · rcases which hy' hnn with rfl | rfl
                        · rw [hlk, if_pos rfl] at hy'
                          obtain rfl := Option.some.inj hy'
                          simp only [if_true]
                          refine ⟨xs ++ news, by rw [List.length_append]; exact q2, rfl, ?_⟩
                          exact seg_append s1.1 (fun j hj => (s3 j hj).kept hkept) (fun j hj => (n4 j hj).kept hkept)
                        · rw [hlk, if_neg hdx.symm, if_pos rfl] at hy'
                          obtain rfl := Option.some.inj hy'
                          show _ = _
                          simp [hdx.symm]
                    have hsl : ∃ A n c, v' = .slice A n c := by rcases q2.2 with ⟨e1, _⟩ | ⟨g, c, cur, e1, _⟩ <;> exact ⟨_, _, _, e1⟩
                    obtain ⟨A', n', c', hsl⟩ := hsl
                    refine wp_builtin ho (s := Builtin.append_ #[s, s] o.type #[a.eval x, a.eval y]) (fun cs => by simp [builtin]) (v := v') (w' := w') ?_ (hK _ _ _ _ _ _ hk hstep (av_own (by simp) hsl))
                    rw [hv0, n1]; exact q1
                  · exact he.elim
                · exact he.elim
              · rename_i e' t' l kn hl
                split at he
                · rename_i hf
                  split at he
                  · rename_i l0 hl0
                    obtain ⟨e1, e2⟩ := castL_spec hl0
                    subst e1
                    obtain rfl : l0 = l := e2
                    obtain ⟨d, hd, hn, hb, hk⟩ := effK_req he
                    obtain ⟨hv0, _⟩ := own_rep h.toObjs hx hl
                    obtain ⟨v', w', val', fp', q1, q2, q3, A', n', c', hsl⟩ := append_flat (P := P) (ty := o.type) (c := cap) h.toObjs hu hi hz hsz hzs hby hf hl n2 n3 n4 n5 (d := d) hn hb
                    refine wp_builtin ho (s := Builtin.append_ #[s, s] o.type #[a.eval x, a.eval y]) (fun cs => by simp [builtin]) (v := v') (w' := w') ?_ (hK _ _ _ _ _ _ hk q2 (av_own q3 hsl))
                    rw [hv0, n1]; exact q1
                  · exact he.elim
                · exact he.elim
              · exact he.elim
            · exact he.elim
          · exact he.elim
        · exact he.elim
      · exact he.elim
    · exact he.elim
  · exact he.elim

end
end Go.AE
