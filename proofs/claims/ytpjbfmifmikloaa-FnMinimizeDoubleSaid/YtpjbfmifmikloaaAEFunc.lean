/-
  A function keeps its contract if its body does; tables of contracts; what one state may be taken for.
-/
import Derived.Test.YtpjbfmifmikloaaAECode
namespace Go.AE
open Go Go.RowKit

def nth : List AV → Nat → AV
  | [], _ => .c .undef
  | x :: _, 0 => x
  | _ :: r, i + 1 => nth r i

def isTup : AV → Bool
  | .tup _ => true
  | _ => false

/-- A result that lies in a cell. -/
def resCell (C : Cfg) (st : St) (v : AV) (t : TypeId) : Option AV :=
  match v with
  | .c (.ptr x 0) => match lk st x with
    | some (.rc cs) => match lk C.y.ty t, lk C.y.ag t with
      | some ty, some ag => asAV ty.size ag (cut ty.size 0 cs)
      | _, _ => none
    | _ => none
  | _ => none

def resTmps (C : Cfg) (st : St) (ρ : Env) : List ResultVar → Option (List AV)
  | [] => some []
  | .tmp t :: r => match isTup (ρ t) with
    | true => none
    | false => match resTmps C st ρ r with | some l => some (ρ t :: l) | none => none
  | .cell a t :: r => match resCell C st (ρ a) t with
    | some v => match resTmps C st ρ r with | some l => some (v :: l) | none => none
    | none => none

def resOf (C : Cfg) (st : St) (l : List ResultVar) (ρ : Env) : Option AV :=
  match l with
  | [.tmp t] => some (ρ t)
  | [.cell a t] => resCell C st (ρ a) t
  | l => match resTmps C st ρ l with | some l => some (.tup l) | none => none

def wkC : CV → CV
  | .kb b => .bool b
  | x => x
def wk1 : AV → AV
  | .c x => .c (wkC x)
  | x => x
def wkA : AV → AV
  | .c x => .c (wkC x)
  | .agg l => .agg l
  | .tup l => .tup (l.map wk1)

def OutOk (C : Cfg) (res : List ResultVar) (k : AV → St → Prop) (ρ : Env) (st : St) : Prop :=
  match resOf C st res ρ with | some av => k (wkA av) st | none => False

def isEnd : Ex → Bool
  | .exit _ => false
  | _ => true

/-- A function's end. -/
structure Ends (C : Cfg) (res : List ResultVar) (k : AV → St → Prop) (e : Ex) (ρ : Env) (st : St) : Prop where
  fin : isEnd e = true
  out : ∃ ρ' st', Leads C ρ st ρ' st' ∧ OutOk C res k ρ' st'

def below (h : Nat) : St → Bool
  | [] => true
  | (i, _) :: r => match Nat.blt i h with | true => below h r | false => false

/-- What a function's body must do for its contract. -/
def Keeps (P : Program) (C : Cfg) (fn : Func) (c : Code) (con : Con) : Prop :=
  ∀ (args : List AV) (st : St) (k : AV → St → Prop), effK (con args st) k → Nat.ble args.length C.n = true ∧ below C.h st = true ∧ evC P C c (Ends C fn.results.toList k) (nth args) st

section
variable {P : Program} {C : Cfg} {Γ : Ctx} {val val' val'' val0 : Nat → Value} {fp fp' fp'' : Nat → List Nat} {ρ ρ' : Env} {st st' st'' st0 : St} {a : Act} {w w' w'' : World} {o : Oper} {k : AV → St → Prop} {K : Act → World → Prop} {Q : Exit → Act → World → Prop}

theorem below_spec {h : Nat} : ∀ {st : St}, below h st = true → ∀ x o, lk st x = some o → x < h
  | (i, o') :: r, hb, x, o, hx => by
    unfold below at hb
    split at hb
    · rename_i hi
      rw [lk_cons] at hx
      split at hx
      · rename_i e; rw [e]; exact of_eq_true_blt hi
      · exact below_spec hb x o hx
    · cases hb

theorem nth_rep {N : Nat → Prop} : ∀ {args : List AV} {vs : List Value}, All2 (AvRep w N val st) args vs → ∀ t, AvRep w N val st (nth args t) (vs.getD t undef)
  | [], [], _, t => trivial
  | _ :: _, _ :: _, ⟨h, _⟩, 0 => h
  | x :: r, v :: vs, ⟨_, h⟩, t + 1 => by
    have := nth_rep h t
    show AvRep w N val st (nth r t) ((v :: vs).getD (t + 1) undef)
    simpa using this
  | [], _ :: _, h, _ => h.elim
  | _ :: _, [], h, _ => h.elim

theorem nth_past : ∀ {args : List AV} {t : Nat}, args.length ≤ t → nth args t = .c .undef
  | [], _, _ => rfl
  | _ :: r, t + 1, h => nth_past (args := r) (by simpa using h)
  | _ :: _, 0, h => by simp at h

theorem av1_of {N : Nat → Prop} {x : AV} {v : Value} (ht : isTup x = false) (h : AvRep w N val st x v) : Av1 w N val st x v := by
  cases x with
  | c x => exact h
  | agg l => exact h
  | tup l => cases ht

theorem run_loadVar' (hT : TysOk P C.y) {ty : TypeId} {t : Ty} {ag : Bool} (h1 : lk C.y.ty ty = some t) (h2 : lk C.y.ag ty = some ag) {b o : Nat} {vs : List Value} {cs : List CV} {N : Nat → Prop} {av : AV}
    (hav : asAV t.size ag cs = some av) (hr : All2 (CvRep w N val st) cs vs) (hc : ∀ i, i < t.size → w.cell? ⟨b, o + i, none⟩ = vs[i]?) :
    ∃ v, (loadVar ty ⟨b, o, none⟩).run P w = .ok v w ∧ AvRep w N val st av v := by
  obtain ⟨i, z, d, hi, hsz, _, _, _, hu, _⟩ := hT.ty ty t h1
  obtain ⟨d', hu', hag⟩ := hT.ag ty ag h2
  rw [hu] at hu'
  obtain rfl := Option.some.inj hu'
  obtain ⟨hl, hcase⟩ := asAV_spec hav
  have hlen : vs.length = t.size := by rw [← hr.length]; exact hl
  have hisagg : (isAgg ty).run P w = .ok ag w := by
    unfold isAgg
    simp only [Sem.run_bind, run_underlying hu, Result.andThen_ok]
    cases d <;> simp at hag <;> subst hag <;> rfl
  have hsize : (sizeOf ty).run P w = .ok t.size w := by simp [sizeOf, typeInfo, hi, hsz]
  rcases hcase with ⟨rfl, rfl⟩ | ⟨rfl, x, rfl, rfl⟩
  · have hload := run_loadCells_list (P := P) w ⟨b, o, none⟩ vs (fun j v hj => by
      have hj' : j < vs.length := (List.getElem?_eq_some_iff.1 hj).1
      rw [Addr.add_lit, hc j (by omega)]; exact hj)
    rw [hlen] at hload
    refine ⟨.agg vs.toArray, ?_, vs.toArray, rfl, by simpa using hr⟩
    simp [loadVar, hisagg, hsize, hload]
  · match vs, hr with
    | [v], hr =>
      have h0 := hc 0 (t.size_pos)
      refine ⟨v, ?_, hr.1⟩
      simp at h0
      simp [loadVar, hisagg, h0]

theorem resCell_spec (hT : TysOk P C.y) (ho : Objs Γ val fp st w) {v : AV} {u : Value} {t : TypeId} {av : AV} (hu : AvRep w (NoGo Γ.X st fp) val st v u) (h : resCell C st v t = some av) :
    ∃ r, (do loadVar t (← asAddr u) : Sem Value).run P w = .ok r w ∧ AvRep w (NoGo Γ.X st fp) val st av r ∧ isTup av = false := by
  unfold resCell at h
  split at h
  · rename_i x
    split at h
    · rename_i cs hx
      split at h
      · rename_i ty ag h1 h2
        obtain ⟨cs0, g, q1, q2, q3⟩ := hu
        rw [hx] at q1
        cases q1
        obtain ⟨g', cur, e, r1, r2, r3, r4⟩ := ho.rep x _ hx
        rw [q2] at r1
        obtain rfl : g = g' := by simpa using r1
        obtain ⟨r, k1, k2⟩ := run_loadVar' (P := P) (b := g) (o := 0) hT h1 h2 h (r4.cut ty.size 0) (fun i hi => by
          rw [take_drop_get hi, cell_of_row w g (0 + i) cur e (0, 0) r3]
          simp)
        refine ⟨r, ?_, k2, ?_⟩
        · rw [q3]
          simp [asAddr, k1]
        · obtain ⟨_, hc⟩ := asAV_spec h
          rcases hc with ⟨_, rfl⟩ | ⟨_, _, _, rfl⟩ <;> rfl
      · cases h
    · cases h
  · cases h

theorem resTmps_spec (hT : TysOk P C.y) (ho : Objs Γ val fp st w) {tmps : Array Value} (h : ∀ t, AvRep w (NoGo Γ.X st fp) val st (ρ t) (tmps.getD t undef)) : ∀ {l : List ResultVar} {avs : List AV}, resTmps C st ρ l = some avs →
    ∃ vs : List Value, (l.mapM (m := Sem) fun | .tmp t => pure (tmps.getD t undef) | .cell a t => do loadVar t (← asAddr (tmps.getD a undef))).run P w = .ok vs w ∧ All2 (Av1 w (NoGo Γ.X st fp) val st) avs vs
  | [], avs, e => by cases e; exact ⟨[], by simp, trivial⟩
  | .tmp t :: r, avs, e => by
    unfold resTmps at e
    split at e
    · cases e
    · rename_i ht
      split at e
      · rename_i l hl
        cases e
        obtain ⟨vs, h1, h2⟩ := resTmps_spec hT ho h hl
        refine ⟨tmps.getD t undef :: vs, ?_, av1_of ht (h t), h2⟩
        rw [List.mapM_cons]
        simp only [Sem.run_bind, Sem.run_pure, Result.andThen_ok]
        rw [h1]
        rfl
      · cases e
  | .cell a t :: r, avs, e => by
    unfold resTmps at e
    split at e
    · rename_i v hv
      split at e
      · rename_i l hl
        cases e
        obtain ⟨vs, h1, h2⟩ := resTmps_spec hT ho h hl
        obtain ⟨u, k1, k2, k3⟩ := resCell_spec hT ho (h a) hv
        refine ⟨u :: vs, ?_, av1_of k3 k2, h2⟩
        rw [List.mapM_cons]
        simp only [Sem.run_bind, Sem.run_pure, Result.andThen_ok] at k1 h1 ⊢
        rw [k1]
        simp only [Result.andThen_ok]
        rw [h1]
        rfl
      · cases e
    · cases e

theorem results_rep (hT : TysOk P C.y) (ho : Objs Γ val fp st w) {tmps : Array Value} {fn : Func} {av : AV} (h : ∀ t, AvRep w (NoGo Γ.X st fp) val st (ρ t) (tmps.getD t undef)) (hr : resOf C st fn.results.toList ρ = some av) :
    ∃ v, (results fn tmps).run P w = .ok v w ∧ AvRep w (NoGo Γ.X st fp) val st av v := by
  have key : ∀ {vs : List Value}, (fn.results.toList.mapM (m := Sem) fun | .tmp t => pure (tmps.getD t undef) | .cell a t => do loadVar t (← asAddr (tmps.getD a undef))).run P w = .ok vs w →
      (results fn tmps).run P w = .ok (if h : vs.length = 1 then vs[0] else .tuple vs.toArray) w := fun {vs} hvs => by
    unfold results
    rw [Array.mapM_eq_mapM_toList]
    simp only [Sem.run_bind, bind_assoc, map_eq_pure_bind]
    erw [hvs]
    simp [List.size_toArray]
  unfold resOf at hr
  split at hr
  · rename_i t hl
    cases hr
    refine ⟨tmps.getD t undef, ?_, h t⟩
    rw [key (vs := [tmps.getD t undef]) (by rw [hl]; simp)]
    simp
  · rename_i a t hl
    obtain ⟨u, k1, k2, k3⟩ := resCell_spec hT ho (h a) hr
    refine ⟨u, ?_, k2⟩
    rw [key (vs := [u]) (by
      rw [hl, List.mapM_cons]
      simp only [Sem.run_bind, Sem.run_pure, Result.andThen_ok] at k1 ⊢
      rw [k1]
      rfl)]
    simp
  · rename_i hne hne2
    split at hr
    · rename_i l hl
      cases hr
      obtain ⟨vs, h1, h2⟩ := resTmps_spec (P := P) hT ho h hl
      refine ⟨.tuple vs.toArray, ?_, vs.toArray, rfl, by simpa using h2⟩
      rw [key h1]
      have hlen := h2.length
      have : vs.length ≠ 1 := fun e => by
        rw [e] at hlen
        have hl' : ∀ {L : List ResultVar} {l : List AV}, resTmps C st ρ L = some l → L.length = l.length := by
          intro L
          induction L with
          | nil => intro l e; cases e; rfl
          | cons x r ih =>
            intro l e
            cases x with
            | cell _ _ =>
              unfold resTmps at e
              split at e
              · split at e
                · rename_i l2 hl2; cases e; simp [ih hl2]
                · cases e
              · cases e
            | tmp t =>
              unfold resTmps at e
              split at e
              · cases e
              · split at e
                · rename_i l2 hl2; cases e; simp [ih hl2]
                · cases e
        have h3 := hl' hl
        rw [hlen] at h3
        match hq : fn.results.toList, h3 with
        | [.tmp t], _ => exact hne t hq
        | [.cell a t], _ => exact hne2 a t hq
      rw [dif_neg this]
    · cases hr

theorem wkC_rep {N : Nat → Prop} {x : CV} {v : Value} (h : CvRep w N val st x v) : CvRep w N val st (wkC x) v := by
  cases x <;> exact h

theorem wk1_rep {N : Nat → Prop} {x : AV} {v : Value} (h : Av1 w N val st x v) : Av1 w N val st (wk1 x) v := by
  cases x with
  | c x => exact wkC_rep h
  | agg l => exact h
  | tup l => exact h

theorem wkA_rep {N : Nat → Prop} {x : AV} {v : Value} (h : AvRep w N val st x v) : AvRep w N val st (wkA x) v := by
  cases x with
  | c x => exact wkC_rep h
  | agg l => exact h
  | tup l =>
    obtain ⟨vs, h1, h2⟩ := h
    refine ⟨vs, h1, ?_⟩
    generalize vs.toList = m at h2
    induction l generalizing m with
    | nil => exact h2
    | cons x r ih =>
      cases m with
      | nil => exact h2.elim
      | cons v m => exact ⟨wk1_rep h2.1, ih m h2.2⟩

/-- A FUNCTION KEEPS ITS CONTRACT. -/
theorem con_of_body (hM : P.follows .mixedOrders = true) (hT : TysOk P C.y) (hC : TabOk P C) {f : FuncId} {fn : Func} {c : Code} {con : Con} (hf : P.funcs[f]? = some fn) (hb : fn.body = some c) (hnt : fn.ntmps = C.n)
    (h : Keeps P C fn c con) : ConOk P f con := by
  intro args st k he X n val fp w vs hO hA
  obtain ⟨h1, h2, h3⟩ := h args st k he
  have hlen : args.length ≤ C.n := by simpa using h1
  have hsz : vs.size = args.length := by have := hA.length; simp [this]
  refine calls_of_wp hf hb ?_
  have hsim : Sim ⟨w, X, Foot st fp, C.n⟩ val fp (nth args) st { tmps := vs ++ Array.replicate (fn.ntmps - vs.size) undef, defers := [] } w := by
    refine { toObjs := ⟨hO.fr, hO.rep, hO.own, hO.apart, hO.low⟩, defers := rfl, size := by simp only [Array.size_append, Array.size_replicate, hnt]; omega, env := fun t => ?_ }
    have := nth_rep hA t
    by_cases ht : t < vs.size
    · have e : (vs ++ Array.replicate (fn.ntmps - vs.size) undef).getD t undef = vs.toList.getD t undef := by
        simp [Array.getD_eq_getD_getElem?, Array.getElem?_append, ht]
      rw [e]; exact this
    · rw [nth_past (by omega)]; trivial
  refine code_sound hM hT hC c _ _ _ h3 ⟨w, X, Foot st fp, C.n⟩ val st val fp _ w _ rfl (below_spec h2) hsim (Stays.refl _ _) ?_
  intro e ρ' st' val' fp' a' w' hk hs hst
  obtain ⟨hfin, ρ2, st2, hl, hout⟩ := hk
  obtain ⟨val2, fp2, hs2, hst2⟩ := hl ⟨w, X, Foot st fp, C.n⟩ val st val' fp' a' w' rfl (below_spec h2) hs hst
  unfold OutOk at hout
  split at hout
  · rename_i av hav
    obtain ⟨v, hv1, hv2⟩ := results_rep (P := P) (fn := fn) hT hs2.toObjs hs2.env hav
    have hb : bodyPost P fn (fun e w' => ∃ v av st' val' fp', e = .returned v ∧ k av st' ∧ Objs ⟨w, X, Foot st fp, n⟩ val' fp' st' w' ∧ Stays val val' st st' ∧ AvRep w' (NoGo X st' fp') val' st' av v) .ret a' w' :=
      bodyPost_ret hv1 hs2.defers ⟨v, wkA av, st2, val2, fp2, rfl, hout, ⟨hs2.fr, hs2.rep, hs2.own, hs2.apart, hs2.low⟩, hst2, wkA_rep hv2⟩
    cases e with
    | exit i => cases hfin
    | normal => exact hb
    | ret => exact hb
  · exact hout.elim

end
end Go.AE
