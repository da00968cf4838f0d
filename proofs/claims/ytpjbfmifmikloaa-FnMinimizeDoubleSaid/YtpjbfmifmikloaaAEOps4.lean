/-
  Operations that make memory or write to it.
-/
import Derived.Test.YtpjbfmifmikloaaAEOps3
namespace Go.AE
open Go Go.RowKit

theorem lk_sput {α : Type _} (x : Nat) (v : α) : ∀ (st : List (Nat × α)) (k : Nat), lk (sput st x v) k = if k = x then (lk st x).map (fun _ => v) else lk st k
  | [], k => by simp [sput, lk]
  | (a, b) :: r, k => by
    unfold sput
    cases h : Nat.beq a x
    · have hne : a ≠ x := fun e => by rw [beq_lk.2 e] at h; cases h
      dsimp only
      rw [lk_cons, lk_sput x v r k, lk_cons, lk_cons]
      by_cases h1 : k = a
      · rw [if_pos h1, if_neg (fun e => hne (h1.symm.trans e)), if_pos h1]
      · rw [if_neg h1, if_neg h1]
        by_cases h2 : k = x
        · rw [if_pos h2, if_pos h2, if_neg (fun e => hne e.symm)]
        · rw [if_neg h2, if_neg h2]
    · have he : a = x := beq_lk.1 h
      subst he
      dsimp only
      rw [lk_cons, lk_cons, lk_cons, if_pos rfl]
      by_cases h1 : k = a
      · rw [if_pos h1, if_pos h1]; rfl
      · rw [if_neg h1, if_neg h1, if_neg h1]

section
variable {P : Program} {C : Cfg} {Γ : Ctx} {val val' val'' : Nat → Value} {fp fp' fp'' : Nat → List Nat} {ρ : Env} {st st' st'' : St} {a : Act} {w w' w'' : World} {o : Oper} {k : AV → St → Prop} {K : Act → World → Prop} {Q : Exit → Act → World → Prop}

theorem Kept.trans {N N' N'' : Nat → Prop} (h : Kept w w' N N') (k : Kept w' w'' N' N'') : Kept w w'' N N'' :=
  ⟨Nat.le_trans h.size k.size, fun b hb hn => (k.block b (Nat.lt_of_lt_of_le hb h.size) (fun hn' => hn (h.more b hb hn'))).trans (h.block b hb hn),
    fun b hb hn => h.more b hb (k.more b (Nat.lt_of_lt_of_le hb h.size) hn)⟩

theorem Stays.trans (h : Stays val val' st st') (k : Stays val' val'' st' st'') : Stays val val'' st st'' := fun y o hy => by
  obtain ⟨o', h1, h2, h3⟩ := h y o hy
  obtain ⟨o'', k1, k2, k3⟩ := k y o' h1
  exact ⟨o'', k1, h2.trans k2, k3.trans h3⟩

theorem Step.trans (h : Step Γ val val' fp fp' st st' w w') (k : Step Γ val' val'' fp' fp'' st' st'' w' w'') : Step Γ val val'' fp fp'' st st'' w w'' :=
  ⟨k.objs, h.kept.trans k.kept, h.stays.trans k.stays⟩

/-- An owned row, read only from now on. -/
theorem shallow_imm {N N' : Nat → Prop} {e : TypeId} {t : Ty} {l : List t.den} {v : Value} {F : List Nat} (h : ObRep w N val st (.sl e t l .shallow) v F) (hF : ∀ b ∈ F, ¬ N' b) (hk : ∀ {t : Ty} {d : t.den} {cs : List Value}, Imm w N t d cs → Imm w N' t d cs) :
    Imm w N' (.sl t) l [v] ∧ (0 < l.length → ∃ g n cap, v = .slice (some ⟨g, 0, none⟩) n cap) := by
  obtain ⟨xs, h1, h2, h3⟩ := h
  have h1' := h1
  rcases h1.2 with ⟨rfl, h0⟩ | ⟨g, cap, cur, rfl, _, hg, hc, hm, _⟩
  · exact ⟨⟨none, 0, by rw [h0], by omega, Nat.zero_le _, fun hl => by omega⟩, fun hl => by omega⟩
  · refine ⟨⟨_, cap, rfl, hc, hm, fun hl => ⟨g, 0, rfl, hF g (by rw [h2]; simp [Value.ownBlock]), (Array.getElem?_eq_some_iff.1 hg).1, fun j hj => ⟨(xs.drop (j * t.size)).take t.size, fun c hc' => ?_, hk (h3 j hj)⟩⟩⟩, fun _ => ⟨g, _, cap, rfl⟩⟩
    rw [take_drop_get hc', Nat.zero_add]
    refine h1'.cellAt _ ?_
    have : (j + 1) * t.size ≤ l.length * t.size := Nat.mul_le_mul_right _ (by omega)
    rw [Nat.add_mul] at this
    omega

/-- An owned row of rows, read only from now on. -/
theorem deep_imm {N N' : Nat → Prop} {e : TypeId} {t : Ty} {l : List t.den} {v : Value} {F : List Nat} {kn : Bool} (h : ObRep w N val st (.sl e t l (.deep kn .no)) v F) (hF : ∀ b ∈ F, ¬ N' b) :
    Imm w N' (.sl t) l [v] ∧ (0 < l.length → ∃ g n cap, v = .slice (some ⟨g, 0, none⟩) n cap) := by
  obtain ⟨_, e', xs, Fs, _, h2, h3, h4⟩ := h
  exact row_imm h2 (fun b hb => hF b ((h3.all b).2 (.inl hb))) (fun j hj => (h4 j hj).imm (fun b hb => hF b ((h3.all b).2 (.inr ⟨j, hj, hb⟩))))

theorem freeze1 (h : Objs Γ val fp st w) {x : Nat} {e : TypeId} {t : Ty} {l : List t.den} {kd : Kind} (hx : lk st x = some (.sl e t l kd)) (hkd : openK kd = false) :
    ∃ fp', Step Γ val val fp fp' st (sput st x (.sl e t l .frozen)) w w := by
  have hl : ∀ y, lk (sput st x (.sl e t l .frozen)) y = if y = x then some (.sl e t l .frozen) else lk st y := fun y => by rw [lk_sput, hx]; rfl
  refine ⟨fun y => if y = x then [] else fp y, h.step (fun y => y = x) rfl rfl rfl (Nat.le_refl _) (fun _ _ _ => rfl) (fun y o hy hn => ?_) (fun y o hy hn => ?_) (fun y o hy hn b hb => ?_) (fun y z o o' hne hy hz hn hn' b hb => ?_) (fun hkept hstay y o hy hn => ?_)⟩
  · have hn : ¬ y = x := hn
    rw [hl, if_neg hn]; exact ⟨hy, rfl, by simp [hn]⟩
  · have hn : y = x := hn
    subst hn
    rw [hx] at hy
    obtain rfl := Option.some.inj hy
    exact ⟨.sl e t l .frozen, by rw [hl, if_pos rfl], And.intro rfl (And.intro rfl rfl), rfl⟩
  · have hyx : y = x := by
      rcases hn with hn | hn
      · rw [hl] at hy
        by_cases e : y = x
        · exact e
        · rw [if_neg e, hn] at hy; cases hy
      · exact hn
    simp [hyx] at hb
  · have hyx : y = x := by
      rcases hn with hn | hn
      · rw [hl] at hy
        by_cases e : y = x
        · exact e
        · rw [if_neg e, hn] at hy; cases hy
      · exact hn
    simp [hyx] at hb
  · have hyx : y = x := by
      rcases hn with hn | hn
      · rw [hl] at hy
        by_cases e : y = x
        · exact e
        · rw [if_neg e, hn] at hy; cases hy
      · exact hn
    subst hyx
    rw [hl, if_pos rfl] at hy
    obtain rfl := Option.some.inj hy
    have hr := h.rep y _ hx
    refine ⟨by simp, ?_⟩
    have away : ∀ b ∈ fp y, ¬ NoGo Γ.X (sput st y (.sl e t l .frozen)) (fun z => if z = y then [] else fp z) b := fun b hb hn' => by
      rcases hn' with hX | ⟨z, oz, hz, hbz⟩
      · exact (h.own y _ hx b hb).2.1 hX
      · rw [hl] at hz
        by_cases e : z = y
        · simp [e] at hbz
        · rw [if_neg e] at hz
          simp [e] at hbz
          exact h.apart y z _ oz (fun e' => e e'.symm) hx hz b hb hbz
    cases kd with
    | deep kn hh =>
      cases hh with
      | no => exact deep_imm hr away
      | _ => cases hkd
    | frozen => exact ⟨Imm.kept (t := .sl t) hkept hr.2.1, hr.2.2⟩
    | shallow => exact shallow_imm hr away (fun hi => hi.kept hkept)

theorem freeze_step : ∀ (ns : List Nat) {fp : Nat → List Nat} {st : St}, Objs Γ val fp st w → ∃ fp', Step Γ val val fp fp' st (freeze st ns) w w
  | [], fp, _, h => ⟨fp, Step.refl h⟩
  | x :: r, _, st, h => by
    unfold freeze
    split
    · rename_i e t l kd hx
      split
      · exact freeze_step r h
      · rename_i hk
        obtain ⟨fp1, h1⟩ := freeze1 h hx hk
        obtain ⟨fp2, h2⟩ := freeze_step r h1.objs
        exact ⟨fp2, h1.trans h2⟩
    · exact freeze_step r h

/-- A new object, in a block that was not there. -/
theorem new_step (h : Objs Γ val fp st w) {d : Nat} (hd : lk st d = none) {ob : Ob} {v : Value} {F : List Nat} (hos : w'.os = w.os) (htape : w'.tape = w.tape) (hout : w'.output = w.output) (hs : w.heap.size ≤ w'.heap.size)
    (hblk : ∀ b, b < w.heap.size → w'.heap[b]? = w.heap[b]?) (hF : ∀ b ∈ F, w.heap.size ≤ b ∧ b < w'.heap.size)
    (hrep : ∀ {N' : Nat → Prop} {val' : Nat → Value}, Kept w w' (NoGo Γ.X st fp) N' → Stays val val' st ((d, ob) :: st) → ObRep w' N' val' ((d, ob) :: st) ob v F) :
    ∃ val' fp', Step Γ val val' fp fp' st ((d, ob) :: st) w w' ∧ val' d = v := by
  refine ⟨fun y => if y = d then v else val y, fun y => if y = d then F else fp y, h.step (fun _ => False) hos htape hout hs (fun b hb _ => hblk b hb) (fun y o hy _ => ?_) (fun _ _ _ hf => hf.elim) (fun y o hy hn b hb => ?_) (fun y z o o' hne hy hz hn hn' b hb => ?_) (fun hkept hstay y o hy hn => ?_), by simp⟩
  · have hne : y ≠ d := fun e => by rw [e, hd] at hy; cases hy
    rw [lk_cons, if_neg hne]
    exact ⟨hy, by simp [hne], by simp [hne]⟩
  · have hyd : y = d := by
      rcases hn with hn | hn
      · rw [lk_cons] at hy
        by_cases e : y = d
        · exact e
        · rw [if_neg e, hn] at hy; cases hy
      · exact hn.elim
    simp [hyd] at hb
    obtain ⟨h1, h2⟩ := hF b hb
    exact ⟨h2, fun hlt => by omega⟩
  · have e1 : ∀ {y : Nat} {o : Ob}, lk ((d, ob) :: st) y = some o → (lk st y = none ∨ False) → y = d := fun {y o} hy hn => by
      rcases hn with hn | hn
      · rw [lk_cons] at hy
        by_cases e : y = d
        · exact e
        · rw [if_neg e, hn] at hy; cases hy
      · exact hn.elim
    exact absurd ((e1 hy hn).trans (e1 hz hn').symm) hne
  · have hyd : y = d := by
      rcases hn with hn | hn
      · rw [lk_cons] at hy
        by_cases e : y = d
        · exact e
        · rw [if_neg e, hn] at hy; cases hy
      · exact hn.elim
    subst hyd
    rw [lk_cons, if_pos rfl] at hy
    obtain rfl := Option.some.inj hy
    have := hrep hkept hstay
    simpa using this

theorem newOb_spec {d : Option Nat} {ob : Ob} {f : Nat → AV} {v : AV} (h : newOb st d ob f = .ret v st') : ∃ n, d = some n ∧ lk st n = none ∧ v = f n ∧ st' = (n, ob) :: st := by
  unfold newOb at h
  split at h
  · split at h
    · rename_i n _ hn
      cases h
      exact ⟨n, rfl, hn, rfl, rfl⟩
    · cases h
  · cases h

theorem effK_newOb {d : Option Nat} {ob : Ob} {f : Nat → AV} (h : effK (newOb st d ob f) k) : ∃ n, d = some n ∧ lk st n = none ∧ k (f n) ((n, ob) :: st) := by
  unfold newOb at h
  split at h
  · split at h
    · rename_i n _ hn
      exact ⟨n, rfl, hn, h⟩
    · exact h.elim
  · exact h.elim

theorem cv_one {N : Nat → Prop} {x : CV} {v : Value} (hg : good x = true) (h : CvRep w N val st x v) : v.oneCell' = true := by
  cases x with
  | int k n => rw [h.1]; rfl
  | bool b => rw [show v = _ from h]; rfl
  | kb b => rw [show v = _ from h]; rfl
  | str s => rw [show v = _ from h]; rfl
  | nil => rw [show v = _ from h]; rfl
  | imm t l => obtain ⟨A, cap, hv, _⟩ := h; simp at hv; rw [hv]; rfl
  | own x => obtain ⟨⟨A, n, c, rfl⟩, _⟩ := h; rfl
  | iptr t d c => obtain ⟨b, o, es, rfl, _⟩ := h; rfl
  | eptr x i c => obtain ⟨⟨p, rfl⟩, _⟩ := h; rfl
  | ptr x c => obtain ⟨cs, g, _, _, rfl⟩ := h; rfl
  | view x i => obtain ⟨⟨A, n, c, rfl⟩, _⟩ := h; rfl
  | fn f cap => obtain ⟨vs, rfl, _⟩ := h; rfl
  | skip => cases hg
  | undef => cases hg

theorem goods_spec {l l' : List CV} (h : goods l = some l') : l' = l ∧ ∀ x ∈ l, good x = true := by
  unfold goods at h
  split at h
  · rename_i h1
    exact ⟨by simpa using h.symm, by simpa using h1⟩
  · cases h

theorem all2_one {N : Nat → Prop} : ∀ {l : List CV} {vs : List Value}, (∀ x ∈ l, good x = true) → All2 (CvRep w N val st) l vs → ∀ v ∈ vs, v.oneCell' = true
  | [], [], _, _, _, h => by cases h
  | x :: l, v :: vs, hg, ⟨h1, h2⟩, u, hu => by
    cases hu with
    | head => exact cv_one (hg x (by simp)) h1
    | tail _ hu => exact all2_one (fun y hy => hg y (by simp [hy])) h2 u hu
  | [], _ :: _, _, h, _, _ => h.elim
  | _ :: _, [], _, h, _, _ => h.elim

/-- The cells of a value that may lie in memory. -/
theorem cells_rep {N : Nat → Prop} {x : AV} {cs : List CV} {v : Value} (hc : cellsOf x = some cs) (h : AvRep w N val st x v) : All2 (CvRep w N val st) cs v.cells.toList ∧ (∀ u ∈ v.cells.toList, u.oneCell' = true) ∧ ∀ y ∈ cs, good y = true := by
  cases x with
  | c x =>
    obtain ⟨rfl, hg⟩ := goods_spec hc
    have h1 := cv_one (hg x (by simp)) h
    have hv : v.cells = #[v] := by cases v <;> first | rfl | (simp [Value.oneCell'] at h1)
    rw [hv]
    exact ⟨⟨h, trivial⟩, by simpa using h1, hg⟩
  | agg l =>
    obtain ⟨rfl, hg⟩ := goods_spec hc
    obtain ⟨vs, rfl, hr⟩ := h
    exact ⟨hr, all2_one hg hr, hg⟩
  | tup l => cases hc

theorem zero_in : ∀ {k : IntKind}, same k k = true → inR k 0
  | .i64, _ => by simp [inR]
  | .u8, _ => by simp [inR]
  | .u64, _ => by simp [inR]

theorem zero_rep {N : Nat → Prop} : ∀ {t : Ty}, fine t = true → All2 (CvRep w N val st) (zeroCV t) (zeroVals t)
  | .int k, h => ⟨⟨rfl, zero_in h⟩, trivial⟩
  | .bool, _ => ⟨rfl, trivial⟩
  | .str, _ => ⟨rfl, trivial⟩
  | .sl t, _ => ⟨rfl, trivial⟩
  | .pair a b, h => by
    simp only [fine, Bool.and_eq_true] at h
    exact (zero_rep h.1).append (zero_rep h.2)

theorem dflt_rep {N : Nat → Prop} : ∀ {t : Ty}, fine t = true → Imm w N t t.dflt (zeroVals t)
  | .int k, h => And.intro rfl (zero_in h)
  | .bool, _ => rfl
  | .str, _ => rfl
  | .sl t, _ => ⟨none, 0, rfl, Nat.le_refl _, Nat.zero_le _, fun h => absurd h (by simp [Ty.dflt])⟩
  | .pair a b, h => by
    simp only [fine, Bool.and_eq_true] at h
    exact ⟨_, _, rfl, dflt_rep h.1, dflt_rep h.2⟩

/-! ### New variables -/

theorem sound_new (h : Sim Γ val fp ρ st a w) {n : Nat} (hn : lk st n = none) {cs : List CV} {cur : Array Value} {e : TypeId} {s : Sem Value} (hex : execOp a.eval o = (do pure (.value (← s))))
    (hr : s.run P w = .ok (.pointer (some ⟨w.heap.size, 0, none⟩)) (w.alloc (.cells cur e))) (hrep : All2 (CvRep w (NoGo Γ.X st fp) val st) cs cur.toList)
    (he : k (.c (.ptr n 0)) ((n, .rc cs) :: st)) (hK : Fol Γ val fp st a w o k K) : o.wp P a w K Q := by
  obtain ⟨val', fp', hstep, hv⟩ := new_step (w' := w.alloc (.cells cur e)) h.toObjs hn (ob := .rc cs) (v := .pointer (some ⟨w.heap.size, 0, none⟩)) (F := [w.heap.size]) rfl rfl rfl (by simp) (fun b hb => Below.heap_alloc w _ b hb) (by simp)
    (fun hk hs => ⟨w.heap.size, cur, e, rfl, rfl, heap_alloc_new w _, hrep.mono (CvRep.kept hk hs)⟩)
  exact wp_val hex hr (hK _ _ _ _ _ _ he hstep ⟨cs, w.heap.size, by rw [lk_cons, if_pos rfl], hv, rfl⟩)

theorem sound_alloc (hT : TysOk P C.y) (h : Sim Γ val fp ρ st a w) {ty : TypeId} (ho : o.op = .alloc ty) (he : effK (evOp C ρ st o) k) (hK : Fol Γ val fp st a w o k K) : o.wp P a w K Q := by
  unfold evOp at he
  simp only [ho] at he
  split at he
  · rename_i t ht
    obtain ⟨n, hd, hn, hk⟩ := effK_newOb he
    obtain ⟨i, z, d, hi, hsz, hz, hzc, _, _, _, hf⟩ := hT.ty ty t ht
    refine sound_new h hn (s := Instr.alloc ty true (.tuple #[])) (by simp only [execOp, ho]) (cur := z.cells) (e := ty) ?_ (by rw [hzc]; exact zero_rep hf) hk hK
    simp [Instr.alloc, zeroValue, typeInfo, hi, hz, newVar, newRow]
  · exact he.elim

theorem sound_box (h : Sim Γ val fp ρ st a w) {ty : TypeId} {x : Operand} (ho : o.op = .box ty x) (he : effK (evOp C ρ st o) k) (hK : Fol Γ val fp st a w o k K) : o.wp P a w K Q := by
  have hx := ev1_rep h x
  unfold evOp at he
  simp only [ho] at he
  split at he
  · rename_i t cs ht hcs
    obtain ⟨n, hd, hn, hk⟩ := effK_newOb he
    obtain ⟨h1, _, _⟩ := cells_rep hcs hx
    refine sound_new h hn (s := Instr.box ty (a.eval x)) (by simp only [execOp, ho]) (cur := (a.eval x).cells) (e := ty) ?_ h1 hk hK
    simp [Instr.box, newVar, newRow]
  · exact he.elim

end
end Go.AE
