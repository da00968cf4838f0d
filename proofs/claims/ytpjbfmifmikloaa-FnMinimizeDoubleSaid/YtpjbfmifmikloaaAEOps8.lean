/-
  A call of a function that the table has a contract for.
-/
import Derived.Test.YtpjbfmifmikloaaAEBack
namespace Go.AE
open Go Go.RowKit

/-- The table of contracts, each kept by the program. -/
def TabOk (P : Program) (C : Cfg) : Prop :=
  ∀ f con, lk C.tab f = some con → ConOk P f con ∧ ∃ fn c, P.funcs[f]? = some fn ∧ (fn.name == "runtime.NumGoroutine") = false ∧ fn.body = some c

section
variable {P : Program} {C : Cfg} {Γ : Ctx} {val val' val'' : Nat → Value} {fp fp' fp'' : Nat → List Nat} {ρ : Env} {st st' st'' : St} {a : Act} {w w' w'' : World} {o : Oper} {k : AV → St → Prop} {K : Act → World → Prop} {Q : Exit → Act → World → Prop}

theorem callFunc_enter {f : FuncId} {fn : Func} {c : Code} (hf : P.funcs[f]? = some fn) (hname : (fn.name == "runtime.NumGoroutine") = false) (hb : fn.body = some c) (args : Array Value) (w : World) :
    (callFunc f args).run P w = .ok (.enter f args) w := by
  have h1 : fn.name ≠ "runtime.NumGoroutine" := by simpa using hname
  simp [callFunc, hf, h1, hb]

theorem effMap_k {e : Eff} {f : AV → St → Eff} (h : effK (effMap e f) k) : effK e fun v st' => effK (f v st') k := by
  induction e with
  | fail => exact h
  | ret v st' => exact h
  | req p v st' =>
    have h : effK (match f v st' with
      | .ret v st => .req p v st
      | _ => .fail) k := h
    split at h
    · rename_i v2 st2 h2
      refine And.intro h.1 ?_
      show effK (f v st') k
      rw [h2]
      exact h.2
    · exact h.elim
  | br b v1 v2 st' => exact h.elim
  | nilt p st' => exact h.elim
  | niln p st' => exact h.elim
  | ite b e1 e2 h1 h2 => exact And.intro (fun hb => h1 (h.1 hb)) (fun hb => h2 (h.2 hb))
  | any α g ih => exact fun x => ih x (h x)
  | need p e ih => exact And.intro h.1 (ih h.2)
  | hyp p v st' => exact h.elim
  | opt α o g ih => exact h.elim fun x hx => ⟨x, hx.1, ih x hx.2⟩

theorem noTup_spec : ∀ {l : List AV}, noTup l = true → ∀ x ∈ l, ∀ r, x ≠ .tup r
  | y :: l, h, x, hx, r => by
    cases y with
    | tup _ => cases h
    | c y =>
      rcases List.mem_cons.1 hx with rfl | hx
      · exact fun e => by cases e
      · exact noTup_spec (l := l) h x hx r
    | agg y =>
      rcases List.mem_cons.1 hx with rfl | hx
      · exact fun e => by cases e
      · exact noTup_spec (l := l) h x hx r

theorem lendsA_tup {ns : List Nat} {l : List AV} (h : ∀ x ∈ l, lendsA ns st x = false) : ∀ x ∈ l, ∀ r, x ≠ .tup r := fun x hx r e => by
  have := h x hx
  rw [e] at this
  cases this

theorem caps_ptr {N : Nat → Prop} : ∀ {cap : List Nat} {vs : List Value}, fnCaps val st cap vs → All2 (AvRep w N val st) (cap.map fun x => .c (.ptr x 0)) vs
  | [], [], _ => trivial
  | _ :: _, _ :: _, ⟨⟨cs, g, h1, h2, h3⟩, hr⟩ => ⟨⟨cs, g, h1, h2, h3⟩, caps_ptr hr⟩
  | [], _ :: _, h => h.elim
  | _ :: _, [], h => h.elim

theorem ev1s_rep (h : Sim Γ val fp ρ st a w) : ∀ l : List Operand, All2 (AvRep w (NoGo Γ.X st fp) val st) (l.map (ev1 ρ)) (l.map a.eval)
  | [] => trivial
  | x :: l => ⟨ev1_rep h x, ev1s_rep h l⟩

theorem fNs_eq {α : Sort _} : ∀ (l : List Nat) (k : List Nat → α), fNs l k = k l
  | [], _ => rfl
  | x :: r, k => fNs_eq r fun r' => k (x :: r')

theorem fC_eq {α : Sort _} (x : CV) (k : CV → α) : fC x k = k x := by
  cases x <;> first | rfl | exact fNs_eq _ _

theorem fCs_eq {α : Sort _} : ∀ (l : List CV) (k : List CV → α), fCs l k = k l
  | [], _ => rfl
  | x :: r, k => (fCs_eq r fun r' => fC x fun x' => k (x' :: r')).trans (fC_eq x _)

theorem fA1_eq {α : Sort _} (x : AV) (k : AV → α) : fA1 x k = k x := by
  cases x with
  | c x => exact fC_eq x fun x => k (.c x)
  | agg l => exact fCs_eq l fun l => k (.agg l)
  | tup l => rfl

theorem fAs_eq {α : Sort _} : ∀ (l : List AV) (k : List AV → α), fAs l k = k l
  | [], _ => rfl
  | x :: r, k => (fAs_eq r fun r' => fA1 x fun x' => k (x' :: r')).trans (fA1_eq x _)

theorem fA_eq {α : Sort _} (x : AV) (k : AV → α) : fA x k = k x := by
  cases x with
  | c x => exact fC_eq x fun x => k (.c x)
  | agg l => exact fCs_eq l fun l => k (.agg l)
  | tup l => exact fAs_eq l fun l => k (.tup l)

theorem fO_eq {α : Sort _} (o : Ob) (k : Ob → α) : fO o k = k o := by
  cases o with
  | sl e t l kd => cases kd with
    | deep b hh => cases hh <;> rfl
    | shallow => rfl
    | frozen => rfl
  | rc cs => exact fCs_eq cs _
  | dead => rfl

theorem fSt_eq {α : Sort _} : ∀ (st : St) (k : St → α), fSt st k = k st
  | [], _ => rfl
  | (n, o) :: r, k => (fSt_eq r fun r' => fO o fun o' => k ((n, o') :: r')).trans (fO_eq o _)

theorem sound_evCall (hC : TabOk P C) (h : Objs Γ val fp st w) {f : FuncId} {tys : List TypeId} {args : List AV} {vs : Array Value} (ht : ∀ x ∈ args, ∀ r, x ≠ .tup r)
    (hv : All2 (AvRep w (NoGo Γ.X st fp) val st) args vs.toList) (he : effK (evCall C st o.dst f tys args) k) (hK : Fol Γ val fp st a w o k K) :
    ∃ fn c, P.funcs[f]? = some fn ∧ (fn.name == "runtime.NumGoroutine") = false ∧ fn.body = some c ∧
      Calls P f vs w fun e w' => ∃ v, e = .returned v ∧ K (a.put o.dst v) w' := by
  unfold evCall at he
  split at he
  · rename_i con hcon
    obtain ⟨hok, fn, c, h1, h2, h3⟩ := hC f con hcon
    refine ⟨fn, c, h1, h2, h3, ?_⟩
    rw [fNs_eq] at he
    dsimp only at he
    generalize hns : names (lk C.hand f) st args = ns at he
    generalize C.good.any (Nat.beq f) = gd at he
    split at he
    · exact he.elim
    rename_i st0 hcl
    obtain ⟨fpc, Sc⟩ := closeAll_step h hcl
    have h := Sc.objs
    have hv : All2 (AvRep w (NoGo Γ.X st0 fpc) val st0) args vs.toList := hv.mono fun r => AvRep.kept Sc.kept Sc.stays r
    have hK : Fol Γ val fpc st0 a w o k K := fun av st' v val' fp' w' q1 q2 q3 => hK av st' v val' fp' w' q1 (Sc.trans q2) q3
    clear Sc hcl hns
    rw [fSt_eq] at he
    revert fpc
    intro fp h hv hK
    generalize st0 = st at h hv hK he
    obtain ⟨fp0, S0⟩ : ∃ fp0, Step Γ val val fp fp0 st (forCall gd st ns args) w w := by
      unfold forCall
      split
      · exact freeze_step _ h
      · exact ⟨fp, Step.refl h⟩
    have h := S0.objs
    have hv : All2 (AvRep w (NoGo Γ.X (forCall gd st ns args) fp0) val (forCall gd st ns args)) args vs.toList := hv.mono fun r => AvRep.kept S0.kept S0.stays r
    have hK : Fol Γ val fp0 (forCall gd st ns args) a w o k K := fun av st' v val' fp' w' q1 q2 q3 => hK av st' v val' fp' w' q1 (S0.trans q2) q3
    clear S0
    generalize forCall gd st ns args = st at h hv hK he
    revert fp0
    intro fp h hv hK
    split at he
    · rename_i hb
      simp only [Bool.and_eq_true] at hb
      obtain ⟨hb, hop⟩ := hb
      have hop : ∀ x ∈ ns, openIn st x = false := by
        simp only [Bool.not_eq_true', List.any_eq_false] at hop
        exact fun x hx => by simpa using hop x hx
      have hnd := nodupB_spec hb.1
      have hin := allIn_spec hb.2
      have he := effMap_k he
      generalize hlent : (args.any (lendsA ns st) || ns.any (lendsO ns st)) = lent at he
      have hl1 : lent = false → ∀ x ∈ args, lendsA ns st x = false := fun e x hx => by
        rw [e, Bool.or_eq_false_iff, List.any_eq_false] at hlent
        simpa using hlent.1 x hx
      have hl2 : lent = false → ∀ x ∈ ns, lendsO ns st x = false := fun e x hx => by
        rw [e, Bool.or_eq_false_iff, List.any_eq_false, List.any_eq_false] at hlent
        simpa using hlent.2 x hx
      have hobj := lend_objs (lent := lent) h 0 hnd hl2 hop
      have hargs := lendArgs_rep (C := C) (ts := tys) (ns := ns) (lent := lent) h hl1 ht hv
      refine (hok _ _ _ he _ _ _ _ _ _ hobj hargs).mono ?_
      rintro e w' ⟨v, av, sc, valc, fpc, rfl, hk, ho, hst, hav⟩
      refine ⟨v, rfl, ?_⟩
      split at hk
      · exact hk.elim
      · rename_i hno
        split at hk
        · rename_i st'' hback
          have B : Back Γ val valc fp fpc ns (match o.dst with | some d => d | none => 0) 0 lent st sc st'' w w' := ⟨h, hnd, hin, ho, hst, hback⟩
          rw [Bool.or_eq_false_iff] at hno
          obtain ⟨hno, hno2⟩ := hno
          have hno2 : ∀ p ∈ sc, openO p.2 = false := by
            rw [List.any_eq_false] at hno2
            exact fun p hp => by simpa using hno2 p hp
          have hno' : lent = true → hasImmA av = false ∧ ∀ p ∈ sc, hasImmO p.2 = false := fun e => by
            subst e
            simp only [Bool.true_and, Bool.or_eq_false_iff, List.any_eq_false] at hno
            exact ⟨hno.1, fun p hp => by simpa using hno.2 p hp⟩
          have hlk : ∀ {l : St} {i : Nat} {oi : Ob}, lk l i = some oi → (i, oi) ∈ l := by
            intro l
            induction l with
            | nil => intro i oi h; cases h
            | cons p r ih =>
              intro i oi h
              obtain ⟨j, oj⟩ := p
              rw [lk_cons] at h
              split at h
              · rename_i e; cases h; subst e; exact List.mem_cons_self
              · exact List.mem_cons_of_mem _ (ih h)
          obtain ⟨S, hr⟩ := B.step (fun e i oi hi => (hno' e).2 _ (hlk hi)) (fun i oi hi => hno2 _ (hlk hi))
          exact hK _ _ _ _ _ _ hk S (hr av v (fun e => (hno' e).1) hav)
        · exact hk.elim
    · exact he.elim
  · exact he.elim

theorem sound_call (hC : TabOk P C) (h : Sim Γ val fp ρ st a w) {f : Operand} {args : Array Operand} {tys : Array TypeId} (ho : o.op = .call { callee := .value f, args := args, argTypes := tys }) (he : effK (evOp C ρ st o) k)
    (hK : Fol Γ val fp st a w o k K) : o.wp P a w K Q := by
  have hf := ev1_rep h f
  unfold evOp at he
  simp only [ho] at he
  split at he
  · rename_i f0 cap hf0
    rw [hf0] at hf
    obtain ⟨vs, hv, hcap⟩ := hf
    split at he
    · rename_i hnt
      have hargs : All2 (AvRep w (NoGo Γ.X st fp) val st) (args.toList.map (ev1 ρ) ++ cap.map fun x => .c (.ptr x 0)) ((args.map a.eval ++ vs : Array Value)).toList := by
        rw [Array.toList_append, Array.toList_map]
        exact (ev1s_rep h _).append (caps_ptr hcap)
      obtain ⟨fn, c, h1, h2, h3, hcall⟩ := sound_evCall (vs := args.map a.eval ++ vs) hC h.toObjs (noTup_spec hnt) hargs he hK
      unfold Oper.wp execOp
      simp only [ho, resolve, Deferred.ofValue, hv, Sem.run_bind, Sem.run_pure, Result.andThen_ok, invoke, Array.empty_append, callFunc_enter h1 h2 h3]
      refine Calls.mono hcall ?_
      rintro e w' ⟨v, rfl, e2⟩
      exact e2
    · exact he.elim
  · exact he.elim

end
end Go.AE
