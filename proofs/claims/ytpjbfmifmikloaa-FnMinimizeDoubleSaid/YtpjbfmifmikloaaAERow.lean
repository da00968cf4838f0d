/-
  From a row's arguments to the evaluator's data, and from a contract to the row's post.
-/
import Derived.Test.YtpjbfmifmikloaaAETab
import Derived.ProofKit
import Derived.Deep.Slices
namespace Go.AE
open Go Go.RowKit Go.ChangeShapes Go.WideShapes

/-- The type number id has the shape t; the fields fs, from cell off on, have the shape t. -/
def FitsM (P : Program) : Ty → (TypeId → Prop) × (List Field → Nat → Prop)
  | .int k => (fun id => P.underlying id = some (.int k) ∧ same k k = true, fun fs off => ∃ f, fs = [f] ∧ f.offset = off ∧ P.cellsOf f.type = 1 ∧ P.underlying f.type = some (.int k) ∧ same k k = true)
  | .bool => (fun id => P.underlying id = some .bool, fun fs off => ∃ f, fs = [f] ∧ f.offset = off ∧ P.cellsOf f.type = 1 ∧ P.underlying f.type = some .bool)
  | .str => (fun id => P.underlying id = some .string, fun fs off => ∃ f, fs = [f] ∧ f.offset = off ∧ P.cellsOf f.type = 1 ∧ P.underlying f.type = some .string)
  | .sl t => (fun id => ∃ e, P.underlying id = some (.slice e) ∧ P.cellsOf e = t.size ∧ (FitsM P t).1 e,
      fun fs off => ∃ f, fs = [f] ∧ f.offset = off ∧ P.cellsOf f.type = 1 ∧ ∃ e, P.underlying f.type = some (.slice e) ∧ P.cellsOf e = t.size ∧ (FitsM P t).1 e)
  | .pair a b => (fun id => ∃ fs, P.underlying id = some (.struct fs) ∧ P.cellsOf id = a.size + b.size ∧ ∃ f r, fs.toList = f :: r ∧ f.offset = 0 ∧ P.cellsOf f.type = a.size ∧ (FitsM P a).1 f.type ∧ (FitsM P b).2 r a.size,
      fun fs off => (∃ f r, fs = f :: r ∧ f.offset = off ∧ P.cellsOf f.type = a.size ∧ (FitsM P a).1 f.type ∧ (FitsM P b).2 r (off + a.size)) ∨
        (∃ f, fs = [f] ∧ f.offset = off ∧ P.cellsOf f.type = a.size + b.size ∧ ∃ gs, P.underlying f.type = some (.struct gs) ∧ P.cellsOf f.type = a.size + b.size ∧ ∃ g r, gs.toList = g :: r ∧ g.offset = 0 ∧ P.cellsOf g.type = a.size ∧ (FitsM P a).1 g.type ∧ (FitsM P b).2 r a.size))

def Fits (P : Program) (t : Ty) (id : TypeId) : Prop := (FitsM P t).1 id

def avOf : (t : Ty) → t.den → AV
  | .int k, n => .c (.int k n)
  | .bool, b => .c (.bool b)
  | .str, s => .c (.str s)
  | .sl t, l => .c (.imm t l)
  | .pair a b, d => .agg (toCV (.pair a b) d)

section
variable {H : Type} {enc : TypeId × Value → H} {P : Program} {w : World} {base : Nat} {spare : Nat → Bool} {held : Bool}

theorem wf_in {k : IntKind} {n : Int} (hk : same k k = true) (h : (Lit.int k n).wf = true) : inR k n := by
  cases k <;> simp [same] at hk <;> simp [Lit.wf, IntKind.min, IntKind.max, IntKind.signed, IntKind.bits] at h <;> simp only [inR] <;> omega

theorem add_add {b o x y : Nat} : ((⟨b, o, none⟩ : Addr).add x).add y = ⟨b, o + x + y, none⟩ := by
  unfold Addr.add
  by_cases hx : x = 0
  · subst hx
    by_cases hy : y = 0
    · subst hy; simp
    · simp [hy]
  · by_cases hy : y = 0
    · subst hy; simp [hx]
    · simp [hx, hy]

theorem cell_lt {a : Addr} {v : Value} (h : w.cell? a = some v) : a.block < w.heap.size := by
  unfold World.cell? at h
  split at h
  · rename_i hc
    exact (Array.getElem?_eq_some_iff.1 hc).1
  · cases h

/-- What the fields of a struct hold. -/
def FieldsAt (enc : TypeId × Value → H) (P : Program) (w : World) (base : Nat) (spare : Nat → Bool) (held : Bool) (n : Nat) (cs : List Value) (fs : List Field) : Prop :=
  ∀ f ∈ fs, ∃ y, DataW.trod enc P w base spare held n f.type ((cs.drop f.offset).take (P.cellsOf f.type)) = some y

theorem one_imm {t : Ty} {n : Nat} {cs : List Value} {f : Field} {off : Nat} (ho : f.offset = off) (hc : P.cellsOf f.type = t.size) (hat : FieldsAt enc P w base spare held n cs [f])
    (hi : ∀ {id : TypeId} {fuel : Nat} {cs : List Value} {x : DataW H × List MemPlace}, Fits P t id → DataW.trod enc P w base spare held fuel id cs = some x → ∃ d : t.den, Imm w (fun _ => False) t d cs) (hf : Fits P t f.type) :
    ∃ d : t.den, Imm w (fun _ => False) t d ((cs.drop off).take t.size) := by
  obtain ⟨y, hy⟩ := hat f (by simp)
  rw [ho, hc] at hy
  exact hi hf hy

theorem pair_imm {a b : Ty} {n : Nat} {cs : List Value} {f : Field} {r : List Field} {off : Nat} (ho : f.offset = off) (hc : P.cellsOf f.type = a.size) (hat : FieldsAt enc P w base spare held n cs (f :: r))
    (ha : ∀ {id : TypeId} {fuel : Nat} {cs : List Value} {x : DataW H × List MemPlace}, Fits P a id → DataW.trod enc P w base spare held fuel id cs = some x → ∃ d : a.den, Imm w (fun _ => False) a d cs)
    (hb : ∀ {fs : List Field} {off n : Nat} {cs : List Value}, (FitsM P b).2 fs off → FieldsAt enc P w base spare held n cs fs → ∃ d : b.den, Imm w (fun _ => False) b d ((cs.drop off).take b.size))
    (h1 : Fits P a f.type) (h2 : (FitsM P b).2 r (off + a.size)) : ∃ d : (Ty.pair a b).den, Imm w (fun _ => False) (.pair a b) d ((cs.drop off).take (a.size + b.size)) := by
  obtain ⟨d0, i0⟩ := one_imm ho hc (fun g hg => hat g (by rw [List.mem_singleton.1 hg]; simp)) ha h1
  obtain ⟨d1, i1⟩ := hb h2 (fun g hg => hat g (List.mem_cons_of_mem _ hg))
  refine ⟨(d0, d1), _, _, ?_, i0, i1⟩
  rw [← List.drop_drop, ← List.take_add]

theorem trod_both : ∀ (t : Ty), (∀ {id : TypeId} {fuel : Nat} {cs : List Value} {x : DataW H × List MemPlace}, Fits P t id → DataW.trod enc P w base spare held fuel id cs = some x → ∃ d : t.den, Imm w (fun _ => False) t d cs) ∧
    (∀ {fs : List Field} {off n : Nat} {cs : List Value}, (FitsM P t).2 fs off → FieldsAt enc P w base spare held n cs fs → ∃ d : t.den, Imm w (fun _ => False) t d ((cs.drop off).take t.size))
  | .int k => by
    have h1 : ∀ {id : TypeId} {fuel : Nat} {cs : List Value} {x : DataW H × List MemPlace}, Fits P (.int k) id → DataW.trod enc P w base spare held fuel id cs = some x → ∃ d : (Ty.int k).den, Imm w (fun _ => False) (.int k) d cs := by
      intro id fuel cs x hf h
      obtain ⟨n, h1, _, h3⟩ := DataW.trod_int hf.1 h
      exact ⟨n, h1, wf_in hf.2 h3⟩
    refine ⟨h1, ?_⟩
    rintro fs off n cs ⟨f, rfl, q1, q2, q3⟩ hat
    exact one_imm q1 q2 hat h1 q3
  | .bool => by
    have h1 : ∀ {id : TypeId} {fuel : Nat} {cs : List Value} {x : DataW H × List MemPlace}, Fits P .bool id → DataW.trod enc P w base spare held fuel id cs = some x → ∃ d : (Ty.bool).den, Imm w (fun _ => False) .bool d cs := by
      intro id fuel cs x hf h
      obtain ⟨b, h1, _⟩ := DataW.trod_bool hf h
      exact ⟨b, h1⟩
    refine ⟨h1, ?_⟩
    rintro fs off n cs ⟨f, rfl, q1, q2, q3⟩ hat
    exact one_imm q1 q2 hat h1 q3
  | .str => by
    have h1 : ∀ {id : TypeId} {fuel : Nat} {cs : List Value} {x : DataW H × List MemPlace}, Fits P .str id → DataW.trod enc P w base spare held fuel id cs = some x → ∃ d : (Ty.str).den, Imm w (fun _ => False) .str d cs := by
      intro id fuel cs x hf h
      obtain ⟨s, h1, _⟩ := DataW.trod_string hf h
      exact ⟨s.data.toList, by rw [h1]; rfl⟩
    refine ⟨h1, ?_⟩
    rintro fs off n cs ⟨f, rfl, q1, q2, q3⟩ hat
    exact one_imm q1 q2 hat h1 q3
  | .pair a b => by
    obtain ⟨ha, _⟩ := trod_both a
    obtain ⟨_, hb⟩ := trod_both b
    have h1 : ∀ {id : TypeId} {fuel : Nat} {cs : List Value} {x : DataW H × List MemPlace}, Fits P (.pair a b) id → DataW.trod enc P w base spare held fuel id cs = some x → ∃ d : (Ty.pair a b).den, Imm w (fun _ => False) (.pair a b) d cs := by
      intro id fuel cs x hf h
      obtain ⟨fs, q1, q2, f, r, q3, q4, q5, q6, q7⟩ := hf
      obtain ⟨xs, n, _, _, hl, hlen, hx⟩ := DataW.trod_struct q1 h
      have hat : FieldsAt enc P w base spare held n cs (f :: r) := by
        rw [← q3]
        intro g hg
        obtain ⟨i, hi, rfl⟩ := List.mem_iff_getElem.1 hg
        have hi' : i < fs.size := by simpa using hi
        have := hx i fs[i] (Array.getElem?_eq_getElem hi')
        rw [List.getElem?_eq_getElem (by omega)] at this
        exact ⟨_, by simpa using this⟩
      have := pair_imm (off := 0) q4 q5 hat ha hb q6 (by rw [Nat.zero_add]; exact q7)
      rwa [List.drop_zero, List.take_of_length_le (by omega)] at this
    refine ⟨h1, ?_⟩
    rintro fs off n cs (⟨f, r, rfl, q1, q2, q3, q4⟩ | ⟨f, rfl, q1, q2, q3⟩) hat
    · exact pair_imm q1 q2 hat ha hb q3 q4
    · exact one_imm q1 q2 hat h1 q3
  | .sl t => by
    obtain ⟨ih, _⟩ := trod_both t
    have h1 : ∀ {id : TypeId} {fuel : Nat} {cs : List Value} {x : DataW H × List MemPlace}, Fits P (.sl t) id → DataW.trod enc P w base spare held fuel id cs = some x → ∃ d : (Ty.sl t).den, Imm w (fun _ => False) (.sl t) d cs := by
      intro id fuel cs x hf h
      obtain ⟨e, h1, h2, h3⟩ := hf
      rcases Go.Deep.open_slice h1 h with ⟨rfl, _⟩ | ⟨a, len, cap, m, n, D, Pl, rfl, hb, hl, hm, hmm, _, hx⟩
      · exact ⟨[], none, 0, rfl, Nat.le_refl _, Nat.zero_le _, fun h => absurd h (by simp)⟩
      · have hle : len ≤ m := by rw [hmm]; split <;> omega
        have : Inhabited t.den := ⟨t.dflt⟩
        have hex : ∀ i, i < len → ∃ d : t.den, ∃ es, w.cells? base (a.add (i * P.cellsOf e)) (P.cellsOf e) = some es ∧ Imm w (fun _ => False) t d es := fun i hi => by
          obtain ⟨es, q1, q2⟩ := hx i (by omega)
          obtain ⟨d, q3⟩ := ih h3 q2
          exact ⟨d, es, q1, q3⟩
        obtain ⟨f, hf⟩ := Go.Deep.choose_lt hex
        refine ⟨(List.range len).map f, some a, cap, by simp, by simpa using hl, hm, fun hpos => ?_⟩
        have hpos : 0 < len := by simpa using hpos
        have hts := t.size_pos
        obtain ⟨es, q1, q2⟩ := hf 0 hpos
        obtain ⟨_, r2, r3⟩ := World.cells?_some q1
        have r4 := r3 0 (by omega)
        rw [List.getElem?_eq_getElem (show 0 < es.length by omega)] at r4
        have hsp := World.cell?_spot r4
        have hlt := cell_lt r4
        obtain ⟨bk, off, spot⟩ := a
        have hsp' : spot = none := by simpa [Addr.add] using hsp
        subst hsp'
        have hlt' : bk < w.heap.size := by simpa [Addr.add] using hlt
        refine ⟨bk, off, rfl, fun h => h, hlt', fun j hj => ?_⟩
        have hj' : j < len := by simpa using hj
        obtain ⟨es, q1, q2⟩ := hf j hj'
        obtain ⟨_, r2, r3⟩ := World.cells?_some q1
        refine ⟨es, fun c hc => ?_, by simpa using q2⟩
        have := r3 c (by omega)
        rw [add_add, h2] at this
        exact this
    refine ⟨h1, ?_⟩
    rintro fs off n cs ⟨f, rfl, q1, q2, q3⟩ hat
    exact one_imm q1 q2 hat h1 q3

theorem trod_imm (t : Ty) {id : TypeId} {fuel : Nat} {cs : List Value} {x : DataW H × List MemPlace} (hf : Fits P t id) (h : DataW.trod enc P w base spare held fuel id cs = some x) : ∃ d : t.den, Imm w (fun _ => False) t d cs := (trod_both t).1 hf h

/-- What is known of data that lie in memory: their ranges. -/
def okD : (t : Ty) → t.den → Prop
  | .int k, n => inR k n
  | .bool, _ => True
  | .str, _ => True
  | .sl t, l => l.length ≤ maxLen ∧ ∀ x ∈ l, okD t x
  | .pair a b, d => okD a d.1 ∧ okD b d.2

theorem Imm.okD {w : World} {N : Nat → Prop} : ∀ {t : Ty} {d : t.den} {cs : List Value}, Imm w N t d cs → AE.okD t d
  | .int _, _, _, h => h.2
  | .bool, _, _, _ => trivial
  | .str, _, _, _ => trivial
  | .sl t, l, _, h => by
    obtain ⟨a, cap, _, h1, h2, h3⟩ := h
    refine ⟨by omega, fun x hx => ?_⟩
    obtain ⟨j, hj, rfl⟩ := List.mem_iff_getElem.1 hx
    obtain ⟨b, o, _, _, _, he⟩ := h3 (by omega)
    obtain ⟨es, _, q⟩ := he j hj
    exact Imm.okD q
  | .pair a b, d, _, h => by
    obtain ⟨c1, c2, _, h1, h2⟩ := h
    exact ⟨h1.okD, h2.okD⟩

theorem arg_rep {t : Ty} {id : TypeId} {v : Value} {d : DataW H} {ps : List MemPlace} {r : Reach} {b0 : Nat} {val : Nat → Value} (hf : Fits P t id) (hval : Value.okWide P w r b0 id v) (hd : DataW.Trod enc P w base spare held id v d ps) :
    ∃ x : t.den, AvRep w (fun _ => False) val [] (avOf t x) v ∧ AE.okD t x := by
  obtain ⟨fuel, h⟩ := hd
  obtain ⟨x, hx⟩ := trod_imm t hf h
  refine ⟨x, ?_, hx.okD⟩
  cases t with
  | int k =>
    obtain ⟨n, rfl⟩ := okWide_int hf.1 hval
    have h1 := hx.1
    simp only [Value.cells, List.cons.injEq, and_true] at h1
    exact And.intro h1 hx.2
  | bool =>
    obtain ⟨n, rfl⟩ := okWide_bool hf hval
    have h1 : (Value.bool n).cells.toList = [.bool x] := hx
    simp only [Value.cells, List.cons.injEq, and_true] at h1
    exact h1
  | str =>
    obtain ⟨n, rfl⟩ := okWide_string hf hval
    have h1 : (Value.string n).cells.toList = [.string ⟨x.toArray⟩] := hx
    simp only [Value.cells, List.cons.injEq, and_true] at h1
    exact h1
  | sl t =>
    obtain ⟨e, h1, _⟩ := hf
    obtain ⟨a, len, cap, rfl⟩ := okWide_slice h1 hval
    exact hx
  | pair a b =>
    obtain ⟨fs, h1, _⟩ := hf
    obtain ⟨cs, rfl, _⟩ := okWide_struct h1 hval
    exact ⟨cs, rfl, toCV_rep hx⟩

def avS (p : Sigma Ty.den) : AV := avOf p.1 p.2

def FitsAll (P : Program) : List Ty → List TypeId → Prop
  | [], [] => True
  | t :: ts, id :: ids => Fits P t id ∧ FitsAll P ts ids
  | _, _ => False

theorem args_rep {r : Reach} {b0 : Nat} {val : Nat → Value} : ∀ {ts : List Ty} {ids : List TypeId} {vs : List Value} {ds : List (DataW H)} {ps : List MemPlace}, FitsAll P ts ids →
    (∀ (j : Nat) t v, ids[j]? = some t → vs[j]? = some v → Value.okWide P w r b0 t v) → DataW.TrodAll enc P w base spare held ids vs ds ps →
    ∃ l : List (Sigma Ty.den), l.map (·.1) = ts ∧ All2 (AvRep w (fun _ => False) val []) (l.map avS) vs ∧ ∀ p ∈ l, AE.okD p.1 p.2
  | [], [], [], [], _, _, _, _ => ⟨[], rfl, trivial, fun p h => by cases h⟩
  | t :: ts, id :: ids, v :: vs, d :: ds, _, ⟨hf, hfs⟩, hval, ⟨p, q, h1, h2, _⟩ => by
    obtain ⟨x, hx, ho⟩ := arg_rep (val := val) hf (hval 0 id v rfl rfl) h1
    obtain ⟨l, k1, k2, k3⟩ := args_rep hfs (fun j t v a b => hval (j + 1) t v (by simpa using a) (by simpa using b)) h2
    exact ⟨⟨t, x⟩ :: l, by simp [k1], ⟨hx, k2⟩, fun p hp => by
      rcases List.mem_cons.1 hp with rfl | hp
      · exact ho
      · exact k3 p hp⟩
  | _, _ :: _, [], _, _, _, _, h => by simp [DataW.TrodAll] at h
  | _, _ :: _, _ :: _, [], _, _, _, h => by simp [DataW.TrodAll] at h
  | _, [], _ :: _, _, _, _, _, h => by simp [DataW.TrodAll] at h
  | _, [], [], _ :: _, _, _, _, h => by simp [DataW.TrodAll] at h
  | [], _ :: _, _ :: _, _ :: _, _, h, _, _ => h.elim
  | _ :: _, [], [], [], _, h, _, _ => h.elim

theorem nogo_none {fp : Nat → List Nat} : NoGo (fun _ => False) [] fp = fun _ => False := by
  funext b
  refine propext ⟨fun h => ?_, fun h => h.elim⟩
  rcases h with h | ⟨x, o, h, _⟩
  · exact h
  · cases h

/-- A CONTRACT THAT SAYS 'true' FOR ALL ARGUMENTS, AS A CALL's LAW. -/
theorem row_calls {f : FuncId} {con : Con} {ts : List Ty} {ids : List TypeId} (hE : Entry P f con) (hcon : ∀ l : List (Sigma Ty.den), l.map (·.1) = ts → (∀ p ∈ l, AE.okD p.1 p.2) → effK (con (l.map avS) []) (fun av _ => av = .c (.bool true))) (hfits : FitsAll P ts ids)
    {W : World} {r : Reach} {b0 : Nat} {args : Array Value} {ds : List (DataW H)} {p : List MemPlace} (hval : ∀ (j : Nat) t v, ids[j]? = some t → args[j]? = some v → Value.okWide P W r b0 t v)
    (hA : DataW.TrodAll enc P W base spare held ids args.toList ds p) : Calls P f args W fun e W' => e = .returned (.bool true) ∧ Below W.heap.size W W' := by
  obtain ⟨l, h1, h2, h3⟩ := args_rep (val := fun _ => undef) hfits (fun j t v a b => hval j t v a (by simpa using b)) hA
  have ho : Objs ⟨W, fun _ => False, Foot [] (fun _ => []), 0⟩ (fun _ => undef) (fun _ => []) [] W :=
    ⟨⟨rfl, rfl, rfl, Nat.le_refl _, fun _ _ _ => rfl⟩, fun _ _ h => (by cases h), fun _ _ h => (by cases h), fun _ _ _ _ _ h => (by cases h), fun _ h => h.elim⟩
  refine (hE.ok (l.map avS) [] (fun av st => av = .c (.bool true)) (hcon l h1 h3) (fun _ => False) 0 (fun _ => undef) (fun _ => []) W args ho (by rw [nogo_none]; exact h2)).mono ?_
  rintro e W' ⟨v, av, st', val', fp', rfl, rfl, hO, _, hv⟩
  have hv' : v = .bool true := hv
  refine ⟨by rw [hv'], ⟨hO.fr.os, hO.fr.tape, hO.fr.output, hO.fr.size, fun k hk => hO.fr.block k hk ?_⟩⟩
  rintro ⟨x, o, h, _⟩
  cases h

theorem trodAll_stays (hl : laidOutB P = true) {W W' : World} {sp : Nat → Bool} (hb : Below W.heap.size W W') : ∀ {ids : List TypeId} {vs : List Value} {ds : List (DataW H)} {ps : List MemPlace},
    ids.all (fun t => P.readableRec t && decide (t < P.types.size)) = true → DataW.TrodAll enc P W 0 (fun _ => true) true ids vs ds ps → (∀ p ∈ ps, p.block < W.heap.size) → (∀ p ∈ ps, sp p.block = true) →
    DataW.TrodAll enc P W' 0 sp true ids vs ds ps
  | [], [], [], _, _, h, _, _ => h
  | t :: ts, v :: vs, d :: ds, _, hr, ⟨p, q, h1, h2, e⟩, hlt, hsp => by
    subst e
    simp only [List.all_cons, Bool.and_eq_true, decide_eq_true_eq] at hr
    exact ⟨p, q, WideElems.Trod_stays hl hr.1.1 hr.1.2 h1 (fun x hx => hb.same (hlt x (by simp [hx]))) (fun x hx => hsp x (by simp [hx])),
      trodAll_stays hl hb hr.2 h2 (fun x hx => hlt x (by simp [hx])) (fun x hx => hsp x (by simp [hx])), rfl⟩
  | _ :: _, [], _, _, _, h, _, _ => by simp [DataW.TrodAll] at h
  | _ :: _, _ :: _, [], _, _, h, _, _ => by simp [DataW.TrodAll] at h
  | [], _ :: _, _, _, _, h, _, _ => by simp [DataW.TrodAll] at h
  | [], [], _ :: _, _, _, h, _, _ => by simp [DataW.TrodAll] at h

/-- THE ROW's POST: true, and every argument reads as before. -/
theorem row_post {fn : Func} {s : ChangeSpec} {W W' : World} {args : Array Value} {ds gs : List (DataW H)} {before : List MemPlace} {tb : TypeId} (hl : laidOutB P = true) (hread : fn.params.toList.all (fun t => P.readableRec t && decide (t < P.types.size)) = true)
    (hvars : s.vars = []) (hrt : fn.resultTypes = #[tb]) (htb : P.underlying tb = some .bool) (hfn : ∀ ds : List (DataW H), ds.length = fn.params.size → s.fn H ds = { results := [.lit (.bool true)], args := ds })
    (hW : DataW.Whole enc P fn.params.toList s.vars false W args.toList ds gs before) (hb : Below W.heap.size W W') : s.post enc P fn false true false false W args (.bool true) W' := by
  have hW' := hW
  obtain ⟨p, q, hA, hV, e, _, _⟩ := hW
  rw [hvars] at hV
  obtain ⟨rfl, rfl⟩ := trodVars_none hV
  have hlen : ∀ {ids : List TypeId} {vs : List Value} {ds : List (DataW H)} {ps : List MemPlace}, DataW.TrodAll enc P W 0 (fun _ => true) true ids vs ds ps → ds.length = ids.length := by
    intro ids
    induction ids with
    | nil => intro vs ds ps h; cases vs <;> cases ds <;> simp_all [DataW.TrodAll]
    | cons t ts ih =>
      intro vs ds ps h
      cases vs with
      | nil => simp [DataW.TrodAll] at h
      | cons v vs => cases ds with
        | nil => simp [DataW.TrodAll] at h
        | cons d ds =>
          obtain ⟨_, _, _, h2, _⟩ := h
          simp [ih h2]
  have hfn' := hfn (ds ++ []) (by rw [List.append_nil, hlen hA]; simp)
  have hlt := fun x hx => hW'.lt x hx
  rw [List.append_nil] at e
  subst e
  refine ⟨ds, [], before, [], before, [], hW', ?_, ?_, ?_, hb.frame _, fun h => by cases h⟩
  · rw [hfn', hrt]
    exact trodAll_mk1 (shut_bool htb true)
  · rw [hfn', List.append_nil]
    exact trodAll_stays hl hb hread hA hlt (fun x hx => by simpa using hlt x hx)
  · rw [hfn', hvars]
    rfl

end
end Go.AE
