/-
  Reads of memory.
-/
import Derived.Test.YtpjbfmifmikloaaAEOps2
namespace Go.AE
open Go

section
variable {P : Program} {C : Cfg} {Γ : Ctx} {val : Nat → Value} {fp : Nat → List Nat} {ρ : Env} {st : St} {a : Act} {w : World} {o : Oper} {k : AV → St → Prop} {K : Act → World → Prop} {Q : Exit → Act → World → Prop}

theorem getD_at {α : Type} {l : List α} {i : Nat} {d : α} (h : i < l.length) : l.getD i d = l[i] := by
  rw [List.getD_eq_getElem?_getD, List.getElem?_eq_getElem h, Option.getD_some]

theorem run_indexAt' (hT : TysOk P C.y) {s e : TypeId} {te : Ty} (h1 : lk C.y.el s = some e) (h2 : lk C.y.ty e = some te) {b o n cap : Nat} {i : Int} (h0 : 0 ≤ i) (hi : i < n) :
    (Instr.indexAt s (.slice (some ⟨b, o, none⟩) n cap) (.int .i64 i)).run P w = .ok (.pointer (some ⟨b, o + i.toNat * te.size, none⟩)) w := by
  have hu := hT.el s e h1
  obtain ⟨j, z, d, hj, hsz, _⟩ := hT.ty e te h2
  simp [Instr.indexAt, asIntOf, run_underlying hu, h0, hi, sizeOf, typeInfo, hj, hsz, Addr.add_lit]

theorem y_indexAddr (hT : TysOk P C.y) (h : Sim Γ val fp ρ st a w) {t : TypeId} {x i : Operand} (ho : o.op = .indexAddr t x i) (he : effK (evOp C ρ st o) k) (hK : FolS Γ val fp st a w o k K) : OpT P o a w K := by
  have hx := ev1_rep h x
  have hi := ev1_rep h i
  unfold evOp at he
  simp only [ho] at he
  unfold evIndexAddr at he
  have hex : execOp a.eval o = (do pure (.value (← Instr.indexAt t (a.eval x) (a.eval i)))) := by simp only [execOp, ho]
  have imm : ∀ {e : TypeId} {te t' : Ty} {l : List t'.den} {n : Int}, lk C.y.el t = some e → lk C.y.ty e = some te → te.size = t'.size → Imm w (NoGo Γ.X st fp) (.sl t') l [a.eval x] → a.eval i = .int .i64 n →
      (0 ≤ n ∧ n < l.length) ∧ k (.c (.iptr t' (l.getD n.toNat t'.dflt) 0)) st → OpT P o a w K := by
    intro e te t' l n h1 h2 h3 h4 h5 ⟨⟨h6, h7⟩, h8⟩
    have hn : n.toNat < l.length := by omega
    obtain ⟨b, o', cap, es, q1, q2, q3, q4, q5⟩ := imm_at h4 hn
    refine y_val hex (v := .pointer (some ⟨b, o' + n.toNat * te.size, none⟩)) (fun w1 _ => ?_) (hK.same h.toObjs h8 ?_)
    · rw [q1, h5]; exact run_indexAt' hT h1 h2 h6 h7
    · rw [h3]
      exact Exists.intro b ⟨o' + n.toNat * t'.size, es, by simp, q2, q3, q4, by rw [getD_at hn]; exact q5⟩
  split at he
  · rename_i e hel
    split at he
    · rename_i te hte
      split at he
      · rename_i t' l n h1 h2
        rw [h1] at hx; rw [h2] at hi
        split at he
        · rename_i hsz
          exact imm hel hte (beq_lk.1 hsz) hx hi.1 he
        · exact he.elim
      · rename_i x' n h1 h2
        rw [h1] at hx; rw [h2] at hi
        split at he
        · rename_i e' t' l hl
          split at he
          · rename_i hsz
            have hsz := beq_lk.1 hsz
            obtain ⟨hv, hr⟩ := own_rep h.toObjs hx hl
            obtain ⟨xs, hown, _⟩ := hr
            obtain ⟨⟨h6, h7⟩, h8⟩ := he
            rcases hown.2 with ⟨_, hz⟩ | ⟨g, cap, cur, hg, _⟩
            · omega
            · refine y_val hex (v := .pointer (some ⟨g, 0 + n.toNat * te.size, none⟩)) (fun w1 _ => ?_) (hK.same h.toObjs h8 ?_)
              · rw [hv, hg, hi.1]; exact run_indexAt' hT hel hte h6 h7
              · refine And.intro ⟨_, rfl⟩ ⟨_, hl, fun e2 t2 l2 k2 h2 => ?_⟩
                cases h2
                exact ⟨h6, h7, g, l.length, cap, hg, by rw [hsz]; simp⟩
          · exact he.elim
        · rename_i e' t' l hl
          split at he
          · rename_i hsz
            obtain ⟨hv, hr⟩ := own_rep h.toObjs hx hl
            exact imm hel hte (beq_lk.1 hsz) (by rw [hv]; exact hr.2.1) hi.1 he
          · exact he.elim
        · rename_i e' t' l kn hh hl
          split at he
          · rename_i hsz
            have hsz := beq_lk.1 hsz
            obtain ⟨hv, hr⟩ := own_rep h.toObjs hx hl
            obtain ⟨_, _, xs, Fs, _, hown, _⟩ := hr
            obtain ⟨⟨h6, h7⟩, h8⟩ := he
            rcases hown.2 with ⟨_, hz⟩ | ⟨g, cap, cur, hg, _⟩
            · omega
            · refine y_val hex (v := .pointer (some ⟨g, 0 + n.toNat * te.size, none⟩)) (fun w1 _ => ?_) (hK.same h.toObjs h8 ?_)
              · rw [hv, hg, hi.1]; exact run_indexAt' hT hel hte h6 h7
              · refine And.intro ⟨_, rfl⟩ ⟨_, hl, fun e2 t2 l2 k2 h2 => ?_⟩
                cases h2
                exact ⟨h6, h7, g, l.length, cap, hg, by rw [hsz]; simp⟩
          · exact he.elim
        · exact he.elim
      · exact he.elim
    · exact he.elim
  · exact he.elim

theorem All2.cut {α : Type} {R : CV → α → Prop} (n c : Nat) {l : List CV} {m : List α} (h : All2 R l m) : All2 R (cut n c l) ((m.drop c).take n) := (h.drop c).take n

theorem take_drop_get {l : List Value} {c n i : Nat} (hi : i < n) : ((l.drop c).take n)[i]? = l[c + i]? := by
  rw [List.getElem?_take, if_pos hi, List.getElem?_drop]

theorem ld_k {N : Nat → Prop} {av : AV} {r : Value} (h : effK (ld av st) k) (hv : AvRep w N val st av r) : k av st := by
  unfold ld at h
  split at h
  · exact h hv.2
  · exact h

theorem caps_rep (h : Sim Γ val fp ρ st a w) : ∀ {l : List Operand} {ns : List Nat}, l.mapM (fun x => match ev1 ρ x with | .c (.ptr x 0) => some x | _ => none) = some ns → fnCaps val st ns (l.map a.eval)
  | [], ns, h1 => by simp at h1; subst h1; trivial
  | x :: l, ns, h1 => by
    rw [List.mapM_cons] at h1
    have hx := ev1_rep h x
    split at h1
    · rename_i y hy
      rw [hy] at hx
      simp only [Option.bind_eq_bind, Option.bind_some, Option.bind_eq_some_iff, Option.pure_def, Option.some.injEq] at h1
      obtain ⟨ns', h2, rfl⟩ := h1
      obtain ⟨cs, g, q1, q2, q3⟩ := hx
      exact ⟨⟨cs, g, q1, q2, q3⟩, caps_rep h h2⟩
    · simp at h1

theorem sound_makeFunc (h : Sim Γ val fp ρ st a w) {f : FuncId} {first cap : Array Operand} (ho : o.op = .makeFunc (.func f) first cap) (he : effK (evOp C ρ st o) k) (hK : FolS Γ val fp st a w o k K) : o.wp P a w K Q := by
  unfold evOp at he
  simp only [ho] at he
  split at he
  · rename_i ns h1 h2
    have hc := caps_rep h h2
    have hf : first = #[] := by cases first; simpa using h1
    refine wp_val (s := Instr.makeFunc (.func f) (first.map a.eval) (cap.map a.eval)) (by simp only [execOp, ho]) (v := .func (.func f) #[] (cap.map a.eval)) ?_ (hK.same h.toObjs he ⟨_, rfl, by simpa using hc⟩)
    subst hf
    simp [Instr.makeFunc]
  · exact he.elim

/-! ### Builtins that only look -/

theorem wp_builtin {b : Builtin} {args : Array Operand} {tys : Array TypeId} {v : Value} {w' : World} (ho : o.op = .call { callee := .builtin b, args := args, argTypes := tys }) {s : Sem Value}
    (hs : ∀ cs, builtin b tys o.type cs (args.map a.eval) = (do pure (.value (← s)))) (hr : s.run P w = .ok v w') (hK : K (a.put o.dst v) w') : o.wp P a w K Q := by
  unfold Oper.wp execOp
  simp only [ho, resolve, invoke, Sem.run_bind, Sem.run_pure, Result.andThen_ok, hs, hr]
  exact hK

theorem y_builtin {b : Builtin} {args : Array Operand} {tys : Array TypeId} {v : Value} (ho : o.op = .call { callee := .builtin b, args := args, argTypes := tys }) {s : Sem Value}
    (hs : ∀ cs, builtin b tys o.type cs (args.map a.eval) = (do pure (.value (← s)))) (hr : ∀ w1, s.run P w1 = .ok v w1) (hK : K (a.put o.dst v) w) : OpT P o a w K := by
  refine ⟨v, fun w1 _ => ?_, hK⟩
  unfold execOp
  simp only [ho, resolve, invoke, Sem.run_bind, Sem.run_pure, Result.andThen_ok, hs, hr]

theorem y_len (hT : TysOk P C.y) (h : Sim Γ val fp ρ st a w) {x : Operand} {tys : Array TypeId} (ho : o.op = .call { callee := .builtin .len, args := #[x], argTypes := tys }) (he : effK (evLen C st tys.toList (ev1 ρ x)) k) (hK : FolS Γ val fp st a w o k K) : OpT P o a w K := by
  have hx := ev1_rep h x
  unfold evLen at he
  split at he
  · rename_i s hs
    have htys : tys = #[s] := by cases tys; simpa using hs
    subst htys
    split at he
    · rename_i e hel
      have hu := hT.el s e hel
      have go : ∀ {n cap : Nat} {A : Option Addr}, a.eval x = .slice A n cap → n ≤ maxLen → k (.c (.int .i64 n)) st → OpT P o a w K := by
        intro n cap A h1 h2 h3
        refine y_builtin ho (s := Builtin.len_ #[s] o.type #[a.eval x]) (fun cs => by simp [builtin]) (v := .int .i64 n) (fun w1 => ?_) (hK.same h.toObjs h3 (mk_int (len_in h2) rfl))
        rw [h1]
        simp [Builtin.len_, run_underlying hu, goInt]
      split at he
      · rename_i h1
        rw [h1] at hx
        exact go (n := 0) hx (Nat.zero_le _) he
      · rename_i t l h1
        rw [h1] at hx
        obtain ⟨A, cap, hv, h2, h3⟩ := imm_len hx
        exact go hv (by omega) he
      · rename_i x' h1
        rw [h1] at hx
        split at he
        · rename_i e' t' l hl
          obtain ⟨hv, hr⟩ := own_rep h.toObjs hx hl
          obtain ⟨A, cap, hv', h2, h3⟩ := ob_len hr
          exact go (hv.trans hv') (by omega) he
        · rename_i e' t' l hl
          obtain ⟨hv, hr⟩ := own_rep h.toObjs hx hl
          obtain ⟨A, cap, hv', h2, h3⟩ := ob_len hr
          exact go (hv.trans hv') (by omega) he
        · rename_i e' t' l kn hh hl
          obtain ⟨hv, hr⟩ := own_rep h.toObjs hx hl
          obtain ⟨A, cap, hv', h2, h3⟩ := ob_len hr
          exact go (hv.trans hv') (by omega) he
        · exact he.elim
      · exact he.elim
    · exact he.elim
  · exact he.elim

end
end Go.AE
