/-
  Reads of memory.
-/
import Derived.Test.YtkipgkpekkjebaaAEOps2
namespace Go.AE
open Go

section
variable {P : Program} {C : Cfg} {Γ : Ctx} {val : Nat → Value} {fp : Nat → List Nat} {ρ : Env} {st : St} {a : Act} {w : World} {o : Oper} {k : AV → St → Prop} {K : Act → World → Prop} {Q : Exit → Act → World → Prop}

theorem getD_at {α : Type} {l : List α} {i : Nat} {d : α} (h : i < l.length) : l.getD i d = l[i] := by
  rw [List.getD_eq_getElem?_getD, List.getElem?_eq_getElem h, Option.getD_some]

theorem run_indexAt' (hT : TysOk P C.y) {s e : TypeId} {te : Ty} (h1 : lk C.y.el s = some e) (h2 : lk C.y.ty e = some te) {b o n cap : Nat} {i : Int} (h0 : 0 ≤ i) (hi : i < n) :
    (Instr.indexAt s (.slice (some ⟨b, o, none⟩) n cap) (.int .i64 i)).run P w = .ok (.pointer (some ⟨b, o + i.toNat * te.size, none⟩)) w := by
  have hu := hT.el s e h1
  obtain ⟨j, z, d, hj, hsz, _⟩ := hT.ty e te h2
  simp [Instr.indexAt, asIntOf, run_underlying hu, h0, hi, sizeOf, typeInfo, hj, hsz, Addr.add_lit]

theorem sound_indexAddr (hT : TysOk P C.y) (h : Sim Γ val fp ρ st a w) {t : TypeId} {x i : Operand} (ho : o.op = .indexAddr t x i) (he : effK (evOp C ρ st o) k) (hK : FolS Γ val fp st a w o k K) : o.wp P a w K Q := by
  have hx := ev1_rep h x
  have hi := ev1_rep h i
  unfold evOp at he
  simp only [ho] at he
  unfold evIndexAddr at he
  have hex : execOp a.eval o = (do pure (.value (← Instr.indexAt t (a.eval x) (a.eval i)))) := by simp only [execOp, ho]
  have imm : ∀ {e : TypeId} {te t' : Ty} {l : List t'.den} {n : Int}, lk C.y.el t = some e → lk C.y.ty e = some te → te.size = t'.size → Imm w (NoGo Γ.X st fp) (.sl t') l [a.eval x] → a.eval i = .int .i64 n →
      (0 ≤ n ∧ n < l.length) ∧ k (.c (.iptr t' (l.getD n.toNat t'.dflt) 0)) st → o.wp P a w K Q := by
    intro e te t' l n h1 h2 h3 h4 h5 ⟨⟨h6, h7⟩, h8⟩
    have hn : n.toNat < l.length := by omega
    obtain ⟨b, o', cap, es, q1, q2, q3, q4, q5⟩ := imm_at h4 hn
    refine wp_val hex (v := .pointer (some ⟨b, o' + n.toNat * te.size, none⟩)) ?_ (hK.same h.toObjs h8 ?_)
    · rw [q1, h5]; exact run_indexAt' hT h1 h2 h6 h7
    · rw [h3]
      exact Exists.intro b ⟨o' + n.toNat * t'.size, es, by simp, q2, q3, q4, by rw [getD_at hn]; exact q5⟩
  split at he
  · rename_i e hel
    split at he
    · rename_i te hte
      split at he
      · rename_i t' l n h1 h2
        rw [h1] at hx; rw [h2] at hi
        split at he
        · rename_i hsz
          exact imm hel hte (beq_lk.1 hsz) hx hi.1 he
        · exact he.elim
      · rename_i x' n h1 h2
        rw [h1] at hx; rw [h2] at hi
        split at he
        · rename_i e' t' l hl
          split at he
          · rename_i hsz
            have hsz := beq_lk.1 hsz
            obtain ⟨hv, hr⟩ := own_rep h.toObjs hx hl
            obtain ⟨xs, hown, _⟩ := hr
            obtain ⟨⟨h6, h7⟩, h8⟩ := he
            rcases hown.2 with ⟨_, hz⟩ | ⟨g, cap, cur, hg, _⟩
            · omega
            · refine wp_val hex (v := .pointer (some ⟨g, 0 + n.toNat * te.size, none⟩)) ?_ (hK.same h.toObjs h8 ?_)
              · rw [hv, hg, hi.1]; exact run_indexAt' hT hel hte h6 h7
              · refine And.intro ⟨_, rfl⟩ ⟨_, hl, fun e2 t2 l2 k2 h2 => ?_⟩
                cases h2
                exact ⟨h6, h7, g, l.length, cap, hg, by rw [hsz]; simp⟩
          · exact he.elim
        · rename_i e' t' l hl
          split at he
          · rename_i hsz
            obtain ⟨hv, hr⟩ := own_rep h.toObjs hx hl
            exact imm hel hte (beq_lk.1 hsz) (by rw [hv]; exact hr.2.1) hi.1 he
          · exact he.elim
        · exact he.elim
      · exact he.elim
    · exact he.elim
  · exact he.elim

theorem All2.cut {α : Type} {R : CV → α → Prop} (n c : Nat) {l : List CV} {m : List α} (h : All2 R l m) : All2 R (cut n c l) ((m.drop c).take n) := (h.drop c).take n

theorem take_drop_get {l : List Value} {c n i : Nat} (hi : i < n) : ((l.drop c).take n)[i]? = l[c + i]? := by
  rw [List.getElem?_take, if_pos hi, List.getElem?_drop]

theorem ld_k {N : Nat → Prop} {av : AV} {r : Value} (h : effK (ld av st) k) (hv : AvRep w N val st av r) : k av st := by
  unfold ld at h
  split at h
  · exact h hv.2
  · exact h

theorem sound_load (hT : TysOk P C.y) (h : Sim Γ val fp ρ st a w) {ty : TypeId} {x : Operand} (ho : o.op = .load ty x) (he : effK (evOp C ρ st o) k) (hK : FolS Γ val fp st a w o k K) : o.wp P a w K Q := by
  have hx := ev1_rep h x
  unfold evOp at he
  simp only [ho] at he
  unfold evLoad at he
  have hex : execOp a.eval o = (do pure (.value (← Instr.loadAt ty (a.eval x)))) := by simp only [execOp, ho]
  -- the cells that lie from place o' of block b on
  have go : ∀ {t : Ty} {ag : Bool} {b o' : Nat} {cs : List CV} {vs : List Value} {av : AV}, lk C.y.ty ty = some t → lk C.y.ag ty = some ag → a.eval x = .pointer (some ⟨b, o', none⟩) → asAV t.size ag cs = some av →
      All2 (CvRep w (NoGo Γ.X st fp) val st) cs vs → (∀ i, i < t.size → w.cell? ⟨b, o' + i, none⟩ = vs[i]?) → effK (ld av st) k → o.wp P a w K Q := by
    intro t ag b o' cs vs av h1 h2 h3 h4 h5 h6 h7
    obtain ⟨v, h8, h9⟩ := run_loadAt' hT h1 h2 h4 h5 h6
    exact wp_val hex (by rw [h3]; exact h8) (hK.same h.toObjs (ld_k h7 h9) h9)
  split at he
  · rename_i t ag ht hag
    split at he
    · rename_i t' d c h1
      rw [h1] at hx
      obtain ⟨b, o', es, q1, q2, q3, q4, q5⟩ := hx
      split at he
      · rename_i av hav
        have hrep := toCV_rep (val := val) (st := st) q5
        have hcl : (cut t.size c (toCV t' d)).length = t.size := (asAV_spec hav).1
        refine go ht hag q1 hav (hrep.cut t.size c) (fun i hi => ?_) he
        have hlen := hrep.length
        have hle : c + i < t'.size := by
          have h2 : (cut t.size c (toCV t' d)).length = min t.size ((toCV t' d).length - c) := by simp [cut]
          have := q5.length
          omega
        rw [take_drop_get hi, ← q4 (c + i) hle, Nat.add_assoc]
      · exact he.elim
    · rename_i x' c h1
      rw [h1] at hx
      obtain ⟨cs0, g, q1, q2, q3⟩ := hx
      split at he
      · rename_i cs hcs
        rw [q1] at hcs
        obtain rfl := Ob.rc.inj (Option.some.inj hcs)
        obtain ⟨g', cur, e, r1, r2, r3, r4⟩ := h.rep x' _ q1
        rw [q2] at r1
        obtain rfl : g = g' := by simpa using r1
        split at he
        · rename_i av hav
          refine go ht hag q3 hav (r4.cut t.size c) (fun i hi => ?_) he
          rw [take_drop_get hi, cell_of_row w g (c + i) cur e (0, 0) r3]
          simp
        · exact he.elim
      · exact he.elim
    · rename_i x' i c h1
      rw [h1] at hx
      obtain ⟨_, ob, q1, q2⟩ := hx
      split at he
      · rename_i e t' l hl
        rw [q1] at hl
        obtain rfl := Option.some.inj hl
        obtain ⟨r1, r2, g, n, cap, r3, r4⟩ := q2 e t' l _ rfl
        have hn : i.toNat < l.length := by omega
        obtain ⟨xs, s1, s2, s3⟩ := h.rep x' _ q1
        rw [r3] at s1
        have hnl : n = l.length := by
          rcases s1.2 with ⟨h0, _⟩ | ⟨g', cap', cur, h0, _⟩
          · simp at h0
          · simp at h0; exact h0.2.1
        subst hnl
        split at he
        · rename_i av hav
          have him := s3 i.toNat hn
          rw [getD_at hn] at hav
          have hrep := toCV_rep (val := val) (st := st) him
          have hcl : (cut t.size c (toCV t' l[i.toNat])).length = t.size := (asAV_spec hav).1
          have hlen := hrep.length
          have him' := him.length
          refine go ht hag r4 hav (hrep.cut t.size c) (fun j hj => ?_) he
          have hle : c + j < t'.size := by
            have h2 : (cut t.size c (toCV t' l[i.toNat])).length = min t.size ((toCV t' l[i.toNat]).length - c) := by simp [cut]
            omega
          rw [take_drop_get hj, take_drop_get hle, Nat.add_assoc]
          refine s1.cellAt _ ?_
          have : (i.toNat + 1) * t'.size ≤ l.length * t'.size := Nat.mul_le_mul_right _ (by omega)
          rw [Nat.add_mul] at this
          omega
        · exact he.elim
      · exact he.elim
    · exact he.elim
  · exact he.elim

theorem caps_rep (h : Sim Γ val fp ρ st a w) : ∀ {l : List Operand} {ns : List Nat}, l.mapM (fun x => match ev1 ρ x with | .c (.ptr x 0) => some x | _ => none) = some ns → fnCaps val st ns (l.map a.eval)
  | [], ns, h1 => by simp at h1; subst h1; trivial
  | x :: l, ns, h1 => by
    rw [List.mapM_cons] at h1
    have hx := ev1_rep h x
    split at h1
    · rename_i y hy
      rw [hy] at hx
      simp only [Option.bind_eq_bind, Option.bind_some, Option.bind_eq_some_iff, Option.pure_def, Option.some.injEq] at h1
      obtain ⟨ns', h2, rfl⟩ := h1
      obtain ⟨cs, g, q1, q2, q3⟩ := hx
      exact ⟨⟨cs, g, q1, q2, q3⟩, caps_rep h h2⟩
    · simp at h1

theorem sound_makeFunc (h : Sim Γ val fp ρ st a w) {f : FuncId} {first cap : Array Operand} (ho : o.op = .makeFunc (.func f) first cap) (he : effK (evOp C ρ st o) k) (hK : FolS Γ val fp st a w o k K) : o.wp P a w K Q := by
  unfold evOp at he
  simp only [ho] at he
  split at he
  · rename_i ns h1 h2
    have hc := caps_rep h h2
    have hf : first = #[] := by cases first; simpa using h1
    refine wp_val (s := Instr.makeFunc (.func f) (first.map a.eval) (cap.map a.eval)) (by simp only [execOp, ho]) (v := .func (.func f) #[] (cap.map a.eval)) ?_ (hK.same h.toObjs he ⟨_, rfl, by simpa using hc⟩)
    subst hf
    simp [Instr.makeFunc]
  · exact he.elim

/-! ### Builtins that only look -/

theorem wp_builtin {b : Builtin} {args : Array Operand} {tys : Array TypeId} {v : Value} {w' : World} (ho : o.op = .call { callee := .builtin b, args := args, argTypes := tys }) {s : Sem Value}
    (hs : ∀ cs, builtin b tys o.type cs (args.map a.eval) = (do pure (.value (← s)))) (hr : s.run P w = .ok v w') (hK : K (a.put o.dst v) w') : o.wp P a w K Q := by
  unfold Oper.wp execOp
  simp only [ho, resolve, invoke, Sem.run_bind, Sem.run_pure, Result.andThen_ok, hs, hr]
  exact hK

theorem sound_len (hT : TysOk P C.y) (h : Sim Γ val fp ρ st a w) {x : Operand} {tys : Array TypeId} (ho : o.op = .call { callee := .builtin .len, args := #[x], argTypes := tys }) (he : effK (evLen C st tys.toList (ev1 ρ x)) k) (hK : FolS Γ val fp st a w o k K) : o.wp P a w K Q := by
  have hx := ev1_rep h x
  unfold evLen at he
  split at he
  · rename_i s hs
    have htys : tys = #[s] := by cases tys; simpa using hs
    subst htys
    split at he
    · rename_i e hel
      have hu := hT.el s e hel
      have go : ∀ {n cap : Nat} {A : Option Addr}, a.eval x = .slice A n cap → n ≤ maxLen → k (.c (.int .i64 n)) st → o.wp P a w K Q := by
        intro n cap A h1 h2 h3
        refine wp_builtin ho (s := Builtin.len_ #[s] o.type #[a.eval x]) (fun cs => by simp [builtin]) (v := .int .i64 n) ?_ (hK.same h.toObjs h3 (mk_int (len_in h2) rfl))
        rw [h1]
        simp [Builtin.len_, run_underlying hu, goInt]
      split at he
      · rename_i h1
        rw [h1] at hx
        exact go (n := 0) hx (Nat.zero_le _) he
      · rename_i t l h1
        rw [h1] at hx
        obtain ⟨A, cap, hv, h2, h3⟩ := imm_len hx
        exact go hv (by omega) he
      · rename_i x' h1
        rw [h1] at hx
        split at he
        · rename_i e' t' l hl
          obtain ⟨hv, hr⟩ := own_rep h.toObjs hx hl
          obtain ⟨A, cap, hv', h2, h3⟩ := ob_len hr
          exact go (hv.trans hv') (by omega) he
        · rename_i e' t' l hl
          obtain ⟨hv, hr⟩ := own_rep h.toObjs hx hl
          obtain ⟨A, cap, hv', h2, h3⟩ := ob_len hr
          exact go (hv.trans hv') (by omega) he
        · exact he.elim
      · exact he.elim
    · exact he.elim
  · exact he.elim

end
end Go.AE
