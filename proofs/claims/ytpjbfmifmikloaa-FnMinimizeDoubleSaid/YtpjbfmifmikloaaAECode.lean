/-
  Regions in the text's order and in any order; the evaluator of code, and what it says of the model's code; loops; functions.
-/
import Derived.Test.YtpjbfmifmikloaaAERun
import Derived.OrdersHeld
namespace Go.AE
open Go Go.RowKit

def exOf : Ex → Exit
  | .normal => .normal
  | .exit id => .exit id
  | .ret => .ret

/-- Names of what was handed over lie below C.h. -/
def Handed0 (C : Cfg) (st0 : St) : Prop := ∀ x o, lk st0 x = some o → x < C.h

/-- WHAT THE MODEL'S CODE DOES, as the evaluator sees it: from a state that (ρ, st) stands for it comes to an end that k holds of. -/
def SemC (P : Program) (C : Cfg) (c : Code) (k : Ex → Env → St → Prop) (ρ : Env) (st : St) : Prop :=
  ∀ (Γ : Ctx) (val0 : Nat → Value) (st0 : St) (val : Nat → Value) (fp : Nat → List Nat) (a : Act) (w : World) (Q : Exit → Act → World → Prop),
    Γ.n = C.n → Handed0 C st0 → Sim Γ val fp ρ st a w → Stays val0 val st0 st →
    (∀ e ρ' st' val' fp' a' w', k e ρ' st' → Sim Γ val' fp' ρ' st' a' w' → Stays val0 val' st0 st' → Q (exOf e) a' w') → c.wp P Q a w

def allRead : List Oper → Bool
  | [] => true
  | o :: r => match readO o with | true => allRead r | false => false

theorem allRead_cons {o : Oper} {r : List Oper} (h : allRead (o :: r) = true) : readO o = true ∧ allRead r = true := by
  unfold allRead at h
  split at h
  · rename_i hr; exact ⟨hr, h⟩
  · cases h

def Sched.alts : Sched → List Nat
  | .alt i _ m => i :: m.alts
  | _ => []

/-- Is this schedule all that may come up? -/
def okS (ops : Array Oper) : Sched → Bool → Nat → Array Bool → Bool
  | .done, false, _, listed => (Region.ready .any ops listed).isEmpty
  | .first i r, false, f + 1, listed => (Region.ready .any ops listed).contains i && Region.free .any ops listed i && okS ops r false f (listed.setIfInBounds i true)
  | .alt i r m, false, f + 1, listed => decide (Region.ready .any ops listed = i :: m.alts) && okS ops r false f (listed.setIfInBounds i true) && okS ops m true f listed
  | .alt i r m, true, f, listed => okS ops r false f (listed.setIfInBounds i true) && okS ops m true f listed
  | .stop, true, _, _ => true
  | _, _, _, _ => false

/-- The operations of a region in every order that a schedule holds. -/
noncomputable def evS (C : Cfg) (ops : List Oper) (kk : Env → St → Prop) (s : Sched) : Env → St → Prop :=
  Sched.rec (motive := fun _ => Env → St → Prop)
    (fun ρ st => kk ρ st)
    (fun i _ hr ρ st => match ops[i]? with
      | some o => match firstO ρ o with
        | true => evOne C ops o hr ρ st
        | false => False
      | none => False)
    (fun i _ _ hr hm ρ st => match ops[i]? with
      | some o => evOne C ops o hr ρ st ∧ hm ρ st
      | none => False)
    (fun _ _ => True) s

def lkS (l : List (Nat × Sched)) (i : Nat) : Option Sched := match l with
  | [] => none
  | (j, s) :: r => match Nat.beq j i with | true => some s | false => lkS r i

def blk (id : Nat) (k : Ex → Env → St → Prop) : Ex → Env → St → Prop
  | .exit i, ρ, st => match Nat.beq i id with | true => k .normal ρ st | false => k (.exit i) ρ st
  | .normal, ρ, st => k .normal ρ st
  | .ret, ρ, st => k .ret ρ st

def thn (m : Env → St → Prop) (k : Ex → Env → St → Prop) : Ex → Env → St → Prop
  | .normal, ρ, st => m ρ st
  | .exit i, ρ, st => k (.exit i) ρ st
  | .ret, ρ, st => k .ret ρ st

def know (ρ : Env) (c : Operand) (b : Bool) : Env := match c with | .tmp t => upd ρ t (.c (.kb b)) | _ => ρ

def firstReg : Code → Option Nat
  | .region i _ _ => some i
  | .seq a _ => firstReg a
  | .block _ b => firstReg b
  | .loop b => firstReg b
  | _ => none

def cutHere (l : List Nat) (c : Code) : Bool := match firstReg c with | some i => l.any (Nat.beq i) | none => false

/-- One state stands for no more than another. -/
def Leads (C : Cfg) (ρ : Env) (st : St) (ρ' : Env) (st' : St) : Prop :=
  ∀ (Γ : Ctx) (val0 : Nat → Value) (st0 : St) (val : Nat → Value) (fp : Nat → List Nat) (a : Act) (w : World),
    Γ.n = C.n → Handed0 C st0 → Sim Γ val fp ρ st a w → Stays val0 val st0 st → ∃ val' fp', Sim Γ val' fp' ρ' st' a w ∧ Stays val0 val' st0 st'

/-- THE EVALUATOR OF CODE. At a loop it stops: see loop_rule. -/
noncomputable def evC (P : Program) (C : Cfg) (c : Code) : (Ex → Env → St → Prop) → Env → St → Prop :=
  Code.rec (motive := fun _ => (Ex → Env → St → Prop) → Env → St → Prop)
    (fun k ρ st => k .normal ρ st)
    (fun id ops draw k ρ st => match draw with
      | false => evOps C ops.toList (k .normal) ops.toList ρ st
      | true => match lkS C.sched id with
        | none => (allRead ops.toList && Region.lexB .any ops) = true ∧ evOps C ops.toList (k .normal) ops.toList ρ st
        | some s => (Region.noSelect ops && okS ops s false ops.size (Array.replicate ops.size false)) = true ∧ evS C ops.toList (k .normal) s ρ st)
    (fun a b ha hb k ρ st => match cutHere C.cut b with
      | false => ha (thn (hb k) k) ρ st
      | true => SemC P C (.seq a b) k ρ st)
    (fun c _ _ hx hy k ρ st =>
      match ev1 ρ c with
      | .c (.kb true) => hx k ρ st
      | .c (.kb false) => hy k ρ st
      | .c (.bool b) => (b = true → hx k (know ρ c true) st) ∧ (b = false → hy k (know ρ c false) st)
      | _ => False)
    (fun id _ hb k ρ st => hb (blk id k) ρ st)
    (fun b _ k ρ st => SemC P C (.loop b) k ρ st)
    (fun _ _ _ _ _ _ _ _ _ => False)
    (fun id k ρ st => k (.exit id) ρ st)
    (fun _ _ _ _ _ => False)
    (fun _ _ _ _ => False)
    (fun _ _ _ _ => False)
    (fun k ρ st => k .ret ρ st)
    (fun _ _ _ _ => False) c

section
variable {P : Program} {C : Cfg} {Γ : Ctx} {val val' val'' val0 : Nat → Value} {fp fp' fp'' : Nat → List Nat} {ρ ρ' : Env} {st st' st'' st0 : St} {a : Act} {w w' w'' : World} {o : Oper} {k : AV → St → Prop} {K : Act → World → Prop} {Q : Exit → Act → World → Prop}

theorem dstOf_spec {ops : Array Oper} : ∀ {l : List Oper} {j d : Nat}, dstOf l j = some d → (l[j]?).bind (·.dst) = some d
  | [], _, _, h => by cases h
  | o :: r, 0, d, h => by simpa [dstOf] using h
  | o :: r, j + 1, d, h => by simpa using dstOf_spec (ops := ops) (l := r) (by simpa [dstOf] using h)

theorem yields {ops : Array Oper} {j d : Nat} (h : dstOf ops.toList j = some d) : yielded ops a.tmps j = match a.tmps.getD d undef with | .bool b => some b | _ => none := by
  have h1 := dstOf_spec (ops := ops) h
  rw [Array.getElem?_toList] at h1
  unfold yielded
  rw [h1]
  simp only [Option.bind_some, Array.getD_eq_getD_getElem?]
  cases hv : a.tmps[d]? with
  | none => rfl
  | some v => cases v <;> rfl

theorem wanted_of {ops : Array Oper} {j d : Nat} {want : Bool} (hg : o.guard = some (j, want)) (h : dstOf ops.toList j = some d) : Region.wanted o (yielded ops a.tmps) = (match a.tmps.getD d undef with | .bool b => b == want | _ => false) := by
  unfold Region.wanted
  rw [hg]
  simp only [yields h]
  cases a.tmps.getD d undef <;> first | rfl | (rename_i b; cases b <;> cases want <;> rfl)

theorem xb_spec {b want : Bool} : xb b want = (b == want) := by cases b <;> cases want <;> rfl

/-- What one operation with its guard comes to, whatever the walk. -/
theorem guard_one {ops : Array Oper} {next : Env → St → Prop} (h : Sim Γ val fp ρ st a w) (hn : Γ.n = C.n) (he : evOne C ops.toList o next ρ st) {R : Prop}
    (hwant : ∀ ρ', (∀ x, (∀ b, ev1 ρ x ≠ .c (.bool b)) → ev1 ρ' x = ev1 ρ x) → Sim Γ val fp ρ' st a w → Region.wanted o (yielded ops a.tmps) = true → dstOk Γ.n o.dst = true → effK (evOp C ρ' st o) (fun v st' => next (putE ρ' o.dst v) st') → R)
    (hskip : ∀ ρ', Sim Γ val fp ρ' st a w → Region.wanted o (yielded ops a.tmps) = false → Sim Γ val fp (putE ρ' o.dst (.c .skip)) st (a.put o.dst undef) w → next (putE ρ' o.dst (.c .skip)) st → R) : R := by
  unfold evOne at he
  simp only [fA_eq, fSt_eq] at he
  split at he
  · exact he.elim
  · rename_i hd
    have hd' : dstOk Γ.n o.dst = true := by rw [hn]; exact hd
    split at he
    · rename_i hg
      exact hwant ρ (fun _ _ => rfl) h (by unfold Region.wanted; rw [hg]) hd' he
    · rename_i j want hg
      split at he
      · rename_i d hj
        have hw := wanted_of (a := a) (ops := ops) hg hj
        have hv := h.env d
        split at he
        · rename_i b hb
          rw [hb] at hv
          rw [show a.tmps.getD d undef = .bool b from hv] at hw
          split at he
          · rename_i hx
            rw [xb_spec] at hx
            exact hwant ρ (fun _ _ => rfl) h (by rw [hw]; exact hx) hd' he
          · rename_i hx
            rw [xb_spec] at hx
            exact hskip ρ h (by rw [hw]; exact hx) (h.put hd' (x := .c .skip) (v := undef) rfl) he
        · rename_i b hb
          rw [hb] at hv
          have hv' : a.tmps.getD d undef = .bool b := hv
          rw [hv'] at hw
          by_cases e : b = want
          · refine hwant _ (fun x e => ?_) (h.upd_env (d := d) (x := .c (.kb want)) (show a.tmps.getD d undef = .bool want by rw [hv', e])) (by rw [hw, e]; simp) hd' (he.1 e)
            cases x with
            | tmp t0 =>
              by_cases e2 : t0 = d
              · subst e2
                exact absurd hb (e b)
              · show upd ρ d (.c (.kb want)) t0 = _
                unfold upd
                rw [show Nat.beq t0 d = false from by cases hq : Nat.beq t0 d; · rfl
                                                      · exact absurd (beq_lk.1 hq) e2]
                rfl
            | _ => rfl
          · have e2 : b = !want := by cases b <;> cases want <;> simp_all
            have hs := h.upd_env (d := d) (x := .c (.kb (!want))) (show a.tmps.getD d undef = .bool (!want) by rw [hv', e2])
            exact hskip _ hs (by rw [hw, e2]; cases want <;> rfl) (hs.put hd' (x := .c .skip) (v := undef) rfl) (he.2 e2)
        · rename_i hb
          rw [hb] at hv
          rw [show a.tmps.getD d undef = undef from hv] at hw
          exact hskip ρ h (by rw [hw]; rfl) (h.put hd' (x := .c .skip) (v := undef) rfl) he
        · exact he.elim
      · exact he.elim

theorem guard_split {ops : Array Oper} {r : List Oper} {kk : Env → St → Prop} (h : Sim Γ val fp ρ st a w) (hn : Γ.n = C.n) (he : evOps C ops.toList kk (o :: r) ρ st) {R : Prop}
    (hwant : ∀ ρ', Sim Γ val fp ρ' st a w → Region.wanted o (yielded ops a.tmps) = true → dstOk Γ.n o.dst = true → effK (evOp C ρ' st o) (fun v st' => evOps C ops.toList kk r (putE ρ' o.dst v) st') → R)
    (hskip : ∀ ρ', Sim Γ val fp ρ' st a w → Region.wanted o (yielded ops a.tmps) = false → Sim Γ val fp (putE ρ' o.dst (.c .skip)) st (a.put o.dst undef) w → evOps C ops.toList kk r (putE ρ' o.dst (.c .skip)) st → R) : R :=
  guard_one h hn (next := evOps C ops.toList kk r) he (fun ρ' _ => hwant ρ') hskip

theorem ops_list (hT : TysOk P C.y) (hC : TabOk P C) (hn : Γ.n = C.n) {ops : Array Oper} {kk : Env → St → Prop} : ∀ (l : List Oper) {ρ : Env} {st : St} {val : Nat → Value} {fp : Nat → List Nat} {a : Act} {w : World},
    evOps C ops.toList kk l ρ st → Sim Γ val fp ρ st a w → Stays val0 val st0 st →
    (∀ ρ' st' val' fp' a' w', kk ρ' st' → Sim Γ val' fp' ρ' st' a' w' → Stays val0 val' st0 st' → Q .normal a' w') → wpList P ops Q l a w
  | [], ρ, st, val, fp, a, w, he, h, hs, hk => hk ρ st val fp a w he h hs
  | o :: r, ρ, st, val, fp, a, w, he, h, hs, hk => by
    refine wpList_step fun K hK => ?_
    refine guard_split h hn he (fun ρ' h' hw hd he' => ?_) (fun ρ' h' hw hsim he' => ?_)
    · rw [if_pos hw]
      refine op_sound hT hC h' he' fun av st' v val' fp' w' hk' hstep hav => hK _ _ ?_
      exact ops_list hT hC hn r hk' ((h'.step hstep).put hd hav) (hs.trans hstep.stays) hk
    · rw [if_neg (by rw [hw]; simp)]
      exact hK _ _ (ops_list hT hC hn r he' hsim hs hk)

theorem ops_still (hT : TysOk P C.y) (hn : Γ.n = C.n) {ops : Array Oper} {kk : Env → St → Prop} {R : Act → Prop} : ∀ (l : List Oper) {ρ : Env} {st : St} {val : Nat → Value} {fp : Nat → List Nat} {a : Act}, allRead l = true →
    evOps C ops.toList kk l ρ st → Sim Γ val fp ρ st a w → Stays val0 val st0 st → (∀ ρ' st' val' fp' a', kk ρ' st' → Sim Γ val' fp' ρ' st' a' w → Stays val0 val' st0 st' → R a') → wpStill P ops w R l a
  | [], ρ, st, val, fp, a, _, he, h, hs, hk => hk ρ st val fp a he h hs
  | o :: r, ρ, st, val, fp, a, hr, he, h, hs, hk => by
    obtain ⟨hr1, hr2⟩ := allRead_cons hr
    refine wpStill_step fun K hK => ?_
    refine guard_split h hn he (fun ρ' h' hw hd he' => ?_) (fun ρ' h' hw hsim he' => ?_)
    · rw [if_pos hw]
      refine still_of_wp hr1 (op_still hT h' hr1 he' fun av st' v val' fp' hk' hstep hav => And.intro rfl (hK _ ?_))
      exact ops_still hT hn r hr2 hk' ((h'.step hstep).put hd hav) (hs.trans hstep.stays) hk
    · rw [if_neg (by rw [hw]; simp)]
      exact hK _ (ops_still hT hn r hr2 he' hsim hs hk)

theorem drew_step (h : Objs Γ val fp st w) (hh : w'.heap = w.heap) (hos : w'.os = w.os) (ht : w'.tape = w.tape) (ho : w'.output = w.output) : Step Γ val val fp fp st st w w' :=
  h.step (fun _ => False) hos ht ho (by rw [hh]; exact Nat.le_refl _) (fun b _ _ => by rw [hh]) (fun y o hy _ => ⟨hy, rfl, rfl⟩) (fun _ _ _ hf => hf.elim)
    (fun y o hy hn => by rcases hn with hn | hn; · rw [hy] at hn; cases hn
                         · exact hn.elim)
    (fun y z o o' _ hy _ hn _ => by rcases hn with hn | hn; · rw [hy] at hn; cases hn
                                    · exact hn.elim)
    (fun _ _ y o hy hn => by rcases hn with hn | hn; · rw [hy] at hn; cases hn
                             · exact hn.elim)

theorem wpAnyH_weak {ops : Array Oper} {md : Region.Mode} {S S' : World → Prop} (hS : ∀ w, S w → S' w) : ∀ (f : Nat) (listed : Array Bool) (a : Act) (w : World), wpAnyH P md ops Q S f listed a w → wpAnyH P md ops Q S' f listed a w
  | 0, _, _, _, h => h
  | f + 1, _, _, _, h => ⟨h.1, fun i hi => wpOp_mono (fun a' w' h' => ⟨hS _ h'.1, wpAnyH_weak hS f _ a' w' h'.2⟩) (h.2 i hi)⟩

theorem toList_get {ops : Array Oper} {i : Nat} {o : Oper} (h : ops.toList[i]? = some o) : ops[i]? = some o := by rw [← Array.getElem?_toList]; exact h

theorem sched_sound (hT : TysOk P C.y) (hC : TabOk P C) (hn : Γ.n = C.n) {ops : Array Oper} (hsel : Region.noSelect ops = true) {kk : Env → St → Prop} {G : Act → World → Prop}
    (hfin : ∀ ρ' st' val' fp' a' w', kk ρ' st' → Sim Γ val' fp' ρ' st' a' w' → Stays val0 val' st0 st' → G a' w') (s : Sched) :
    (∀ (f : Nat) (listed : Array Bool) (ρ : Env) (st : St) (val : Nat → Value) (fp : Nat → List Nat) (a : Act) (w : World) (B : List (Nat × Option Obj)), okS ops s false f listed = true → evS C ops.toList kk s ρ st →
      Sim Γ val fp ρ st a w → Stays val0 val st0 st → (∀ p ∈ B, p.1 < w.heap.size ∧ ¬ NoGo Γ.X st fp p.1 ∧ w.heap[p.1]? = p.2) →
      wpAnyH P .any ops (fun e a w => e = .normal ∧ G a w) (fun w1 => ∀ p ∈ B, w1.heap[p.1]? = p.2) f listed a w) ∧
    (∀ (f : Nat) (listed : Array Bool) (ρ : Env) (st : St) (val : Nat → Value) (fp : Nat → List Nat) (a : Act) (w : World) (B : List (Nat × Option Obj)), okS ops s true f listed = true → evS C ops.toList kk s ρ st →
      Sim Γ val fp ρ st a w → Stays val0 val st0 st → (∀ p ∈ B, p.1 < w.heap.size ∧ ¬ NoGo Γ.X st fp p.1 ∧ w.heap[p.1]? = p.2) →
      ∀ i ∈ s.alts, wpOp P ops (fun e a w => e = .normal ∧ G a w) i (fun a' w' => (∀ p ∈ B, w'.heap[p.1]? = p.2) ∧ wpAnyH P .any ops (fun e a w => e = .normal ∧ G a w) (fun w1 => ∀ p ∈ B, w1.heap[p.1]? = p.2) f (listed.setIfInBounds i true) a' w') a w) := by
  induction s with
  | done =>
    refine ⟨fun f listed ρ st val fp a w B hok he h hs hB => ?_, fun f listed ρ st val fp a w B hok => ?_⟩
    · have hr : Region.ready .any ops listed = [] := by simpa [okS] using hok
      have hG := hfin ρ st val fp a w he h hs
      cases f with
      | zero => exact ⟨hr, rfl, hG⟩
      | succ f => exact ⟨fun _ => ⟨rfl, hG⟩, fun i hi => by rw [hr] at hi; cases hi⟩
    · simp [okS] at hok
  | stop =>
    refine ⟨fun f listed ρ st val fp a w B hok => ?_, fun f listed ρ st val fp a w B hok he h hs hB i hi => by cases hi⟩
    simp [okS] at hok
  | first i r ih =>
    refine ⟨fun f listed ρ st val fp a w B hok he h hs hB => ?_, fun f listed ρ st val fp a w B hok => ?_⟩
    · cases f with
      | zero => simp [okS] at hok
      | succ f =>
        simp only [okS, Bool.and_eq_true] at hok
        obtain ⟨⟨hr, hf⟩, hok⟩ := hok
        have he : match ops.toList[i]? with
          | some o => match firstO ρ o with
            | true => evOne C ops.toList o (evS C ops.toList kk r) ρ st
            | false => False
          | none => False := he
        split at he
        · rename_i o ho
          have ho' := toList_get ho
          split at he
          · rename_i hfo
            refine guard_one h hn he (fun ρ' hρ h' hw hd he' => ?_) (fun ρ' h' hw hsim he' => ?_)
            · have hfo' : firstO ρ' o = true := firstO_mono hρ hfo
              obtain ⟨B0, hB0, v, hy, hK⟩ := op_first hT h' hfo' he' (K := fun a' w' => ∀ B' : List (Nat × Option Obj), (∀ p ∈ B', p.1 < w.heap.size ∧ ¬ NoGo Γ.X st fp p.1 ∧ w.heap[p.1]? = p.2) →
                  wpAnyH P .any ops (fun e a w => e = .normal ∧ G a w) (fun w1 => ∀ p ∈ B', w1.heap[p.1]? = p.2) f (listed.setIfInBounds i true) a' w')
                (fun av st' v val' fp' hk hstep hav B' hB' => ih.1 f _ _ _ _ _ _ _ B' hok hk ((h'.step hstep).put hd hav) (hs.trans hstep.stays) (fun p hp => by
                  obtain ⟨q1, q2, q3⟩ := hB' p hp
                  exact ⟨q1, fun hno => q2 (hstep.kept.more _ q1 hno), q3⟩))
              have hB' : ∀ p ∈ B0.map (fun b => (b, w.heap[b]?)) ++ B, p.1 < w.heap.size ∧ ¬ NoGo Γ.X st fp p.1 ∧ w.heap[p.1]? = p.2 := by
                intro p hp
                rcases List.mem_append.1 hp with hp | hp
                · obtain ⟨b, hb, rfl⟩ := List.mem_map.1 hp
                  exact ⟨(hB0 b hb).1, (hB0 b hb).2, rfl⟩
                · exact hB p hp
              have hH := hK _ hB'
              refine wpAnyH_weak (S := fun w1 => ∀ p ∈ B0.map (fun b => (b, w.heap[b]?)) ++ B, w1.heap[p.1]? = p.2) (fun w1 h1 p hp => h1 p (List.mem_append_right _ hp)) _ _ _ _
                (wpAnyH_take ho' hsel hf hr (fun c a w hq => by cases hq.1) (.inl ⟨hw, fun w1 hw1 => hy w1 fun b hb => hw1 (b, w.heap[b]?) (List.mem_append_left _ (List.mem_map.2 ⟨b, hb, rfl⟩))⟩) (fun p hp => (hB' p hp).2.2) hH)
            · exact wpAnyH_take ho' hsel hf hr (fun c a w hq => by cases hq.1) (.inr ⟨hw, rfl⟩) (fun p hp => (hB p hp).2.2) (ih.1 f _ _ _ _ _ _ _ B hok he' hsim hs hB)
          · exact he.elim
        · exact he.elim
    · simp [okS] at hok
  | alt i r m ihr ihm =>
    have main : ∀ (f : Nat) (listed : Array Bool) (ρ : Env) (st : St) (val : Nat → Value) (fp : Nat → List Nat) (a : Act) (w : World) (B : List (Nat × Option Obj)), okS ops (.alt i r m) true f listed = true → evS C ops.toList kk (.alt i r m) ρ st →
      Sim Γ val fp ρ st a w → Stays val0 val st0 st → (∀ p ∈ B, p.1 < w.heap.size ∧ ¬ NoGo Γ.X st fp p.1 ∧ w.heap[p.1]? = p.2) →
      ∀ i' ∈ (Sched.alt i r m).alts, wpOp P ops (fun e a w => e = .normal ∧ G a w) i' (fun a' w' => (∀ p ∈ B, w'.heap[p.1]? = p.2) ∧ wpAnyH P .any ops (fun e a w => e = .normal ∧ G a w) (fun w1 => ∀ p ∈ B, w1.heap[p.1]? = p.2) f (listed.setIfInBounds i' true) a' w') a w := by
      intro f listed ρ st val fp a w B hok he h hs hB i' hi'
      simp only [okS, Bool.and_eq_true] at hok
      have he : match ops.toList[i]? with
        | some o => evOne C ops.toList o (evS C ops.toList kk r) ρ st ∧ evS C ops.toList kk m ρ st
        | none => False := he
      split at he
      · rename_i o ho
        have ho' := toList_get ho
        obtain ⟨he1, he2⟩ := he
        rcases List.mem_cons.1 hi' with rfl | hi'
        · unfold wpOp
          simp only [ho']
          refine guard_one h hn he1 (fun ρ' hρ h' hw hd he' => ?_) (fun ρ' h' hw hsim he' => ?_)
          · rw [if_pos hw]
            refine .inl (op_sound hT hC h' he' fun av st' v val' fp' w' hk' hstep hav => ?_)
            have hB' : ∀ p ∈ B, p.1 < w'.heap.size ∧ ¬ NoGo Γ.X st' fp' p.1 ∧ w'.heap[p.1]? = p.2 := fun p hp => by
              obtain ⟨q1, q2, q3⟩ := hB p hp
              exact ⟨Nat.lt_of_lt_of_le q1 hstep.kept.size, fun hno => q2 (hstep.kept.more _ q1 hno), by rw [hstep.kept.block _ q1 q2, q3]⟩
            exact ⟨fun p hp => (hB' p hp).2.2, ihr.1 f _ _ _ _ _ _ _ B hok.1 hk' ((h'.step hstep).put hd hav) (hs.trans hstep.stays) hB'⟩
          · rw [if_neg (by rw [hw]; simp)]
            exact ⟨fun p hp => (hB p hp).2.2, ihr.1 f _ _ _ _ _ _ _ B hok.1 he' hsim hs hB⟩
        · exact ihm.2 f listed ρ st val fp a w B hok.2 he2 h hs hB i' hi'
      · exact he.elim
    refine ⟨fun f listed ρ st val fp a w B hok he h hs hB => ?_, main⟩
    cases f with
    | zero => simp [okS] at hok
    | succ f =>
      simp only [okS, Bool.and_eq_true, decide_eq_true_eq] at hok
      exact wpAnyH_all hok.1.1 (by simp) (main f listed ρ st val fp a w B (by simp only [okS, Bool.and_eq_true]; exact ⟨hok.1.2, hok.2⟩) he h hs hB)

theorem code_sound (hM : P.follows .mixedOrders = true) (hT : TysOk P C.y) (hC : TabOk P C) : ∀ (c : Code) (k : Ex → Env → St → Prop) (ρ : Env) (st : St), evC P C c k ρ st → SemC P C c k ρ st
  | .skip, k, ρ, st, he => fun Γ val0 st0 val fp a w Q hn h0 h hs hk => wp_skip (hk .normal _ _ _ _ _ _ he h hs)
  | .region id ops false, k, ρ, st, he => fun Γ val0 st0 val fp a w Q hn h0 h hs hk =>
    wp_region_list (ops_list hT hC hn ops.toList he h hs fun ρ' st' val' fp' a' w' h1 h2 h3 => hk .normal ρ' st' val' fp' a' w' h1 h2 h3)
  | .region id ops true, k, ρ, st, he => fun Γ val0 st0 val fp a w Q hn h0 h hs hk => by
    have he : match lkS C.sched id with
      | none => (allRead ops.toList && Region.lexB .any ops) = true ∧ evOps C ops.toList (k .normal) ops.toList ρ st
      | some s => (Region.noSelect ops && okS ops s false ops.size (Array.replicate ops.size false)) = true ∧ evS C ops.toList (k .normal) s ρ st := he
    have hdr : Sim Γ val fp ρ st a { w with drawn := w.drawn + 1 } := h.step (drew_step h.toObjs (w' := { w with drawn := w.drawn + 1 }) rfl rfl rfl rfl)
    split at he
    rotate_left
    · rename_i s _
      obtain ⟨hb, he⟩ := he
      simp only [Bool.and_eq_true] at hb
      refine wp_mono (wp_region_held hM ((sched_sound hT hC hn hb.1 (G := fun a' w' => Q .normal a' w') (kk := k .normal) (fun ρ' st' val' fp' a' w' h1 h2 h3 => hk .normal ρ' st' val' fp' a' w' h1 h2 h3) s).1 _ _ _ _ _ _ _ _ [] hb.2 he hdr hs (fun p hp => by cases hp))) ?_
      intro e a w hq
      rw [hq.1]
      exact hq.2
    obtain ⟨hb, he⟩ := he
    simp only [Bool.and_eq_true] at hb
    refine wp_region_still hM hb.2 (ops_still hT hn ops.toList hb.1 he (h.step (drew_step h.toObjs (w' := { w with drawn := w.drawn + 1 }) rfl rfl rfl rfl)) hs ?_)
    exact fun ρ' st' val' fp' a' h1 h2 h3 => hk .normal ρ' st' val' fp' a' _ h1 h2 h3
  | .seq x y, k, ρ, st, he => fun Γ val0 st0 val fp a w Q hn h0 h hs hk => by
    have he : match cutHere C.cut y with
      | false => evC P C x (thn (evC P C y k) k) ρ st
      | true => SemC P C (.seq x y) k ρ st := he
    split at he
    · refine wp_seq (code_sound hM hT hC x _ ρ st he Γ val0 st0 val fp a w _ hn h0 h hs ?_)
      intro e ρ' st' val' fp' a' w' h1 h2 h3
      cases e with
      | normal => exact code_sound hM hT hC y k ρ' st' h1 Γ val0 st0 val' fp' a' w' Q hn h0 h2 h3 hk
      | exit i => exact hk _ _ _ _ _ _ _ h1 h2 h3
      | ret => exact hk _ _ _ _ _ _ _ h1 h2 h3
    · exact he Γ val0 st0 val fp a w Q hn h0 h hs hk
  | .cond c x y, k, ρ, st, he => fun Γ val0 st0 val fp a w Q hn h0 h hs hk => by
    have hc := ev1_rep h c
    have he : match ev1 ρ c with
      | .c (.kb true) => evC P C x k ρ st
      | .c (.kb false) => evC P C y k ρ st
      | .c (.bool b) => (b = true → evC P C x k (know ρ c true) st) ∧ (b = false → evC P C y k (know ρ c false) st)
      | _ => False := he
    split at he
    · rename_i hb
      rw [hb] at hc
      exact wp_cond_true hc (code_sound hM hT hC x k ρ st he Γ val0 st0 val fp a w Q hn h0 h hs hk)
    · rename_i hb
      rw [hb] at hc
      exact wp_cond_false hc (code_sound hM hT hC y k ρ st he Γ val0 st0 val fp a w Q hn h0 h hs hk)
    · rename_i b hb
      rw [hb] at hc
      have hc' : a.eval c = .bool b := hc
      have hknow : ∀ b', b = b' → Sim Γ val fp (know ρ c b') st a w := fun b' e => by
        cases c with
        | tmp t => exact h.upd_env (d := t) (x := .c (.kb b')) (show a.tmps.getD t undef = .bool b' by rw [← e]; exact hc')
        | _ => exact h
      cases b with
      | true => exact wp_cond_true hc' (code_sound hM hT hC x k _ st (he.1 rfl) Γ val0 st0 val fp a w Q hn h0 (hknow true rfl) hs hk)
      | false => exact wp_cond_false hc' (code_sound hM hT hC y k _ st (he.2 rfl) Γ val0 st0 val fp a w Q hn h0 (hknow false rfl) hs hk)
    · exact he.elim
  | .block id b, k, ρ, st, he => fun Γ val0 st0 val fp a w Q hn h0 h hs hk => by
    refine wp_block (code_sound hM hT hC b _ ρ st he Γ val0 st0 val fp a w _ hn h0 h hs ?_)
    intro e ρ' st' val' fp' a' w' h1 h2 h3
    cases e with
    | normal => exact hk .normal _ _ _ _ _ _ h1 h2 h3
    | ret => exact hk .ret _ _ _ _ _ _ h1 h2 h3
    | exit i =>
      simp only [exOf, Exit.inBlock]
      simp only [blk] at h1
      cases hi : Nat.beq i id with
      | true =>
        rw [hi] at h1
        rw [if_pos (beq_lk.1 hi)]
        exact hk .normal _ _ _ _ _ _ h1 h2 h3
      | false =>
        rw [hi] at h1
        rw [if_neg (fun e => by rw [beq_lk.2 e] at hi; cases hi)]
        exact hk (.exit i) _ _ _ _ _ _ h1 h2 h3
  | .loop b, k, ρ, st, he => he
  | .exit id, k, ρ, st, he => fun Γ val0 st0 val fp a w Q hn h0 h hs hk => wp_exit (hk (.exit id) _ _ _ _ _ _ he h hs)
  | .ret, k, ρ, st, he => fun Γ val0 st0 val fp a w Q hn h0 h hs hk => wp_ret (hk .ret _ _ _ _ _ _ he h hs)
  | .rangeFunc .., _, _, _, he => he.elim
  | .scope _, _, _, _, he => he.elim
  | .label _, _, _, _, he => he.elim
  | .goto _, _, _, _, he => he.elim
  | .refuse _, _, _, _, he => he.elim

theorem Leads.refl (ρ : Env) (st : St) : Leads C ρ st ρ st := fun _ _ _ val fp _ _ _ _ h hs => ⟨val, fp, h, hs⟩
theorem Leads.trans {ρ'' : Env} (h : Leads C ρ st ρ' st') (k : Leads C ρ' st' ρ'' st'') : Leads C ρ st ρ'' st'' := fun Γ val0 st0 val fp a w hn h0 hs hst => by
  obtain ⟨val', fp', h1, h2⟩ := h Γ val0 st0 val fp a w hn h0 hs hst
  exact k Γ val0 st0 val' fp' a w hn h0 h1 h2

theorem SemC.leads {c : Code} {kk : Ex → Env → St → Prop} (h : SemC P C c kk ρ' st') (hl : Leads C ρ st ρ' st') : SemC P C c kk ρ st := fun Γ val0 st0 val fp a w Q hn h0 hs hst hk => by
  obtain ⟨val', fp', h1, h2⟩ := hl Γ val0 st0 val fp a w hn h0 hs hst
  exact h Γ val0 st0 val' fp' a w Q hn h0 h1 h2 hk

theorem SemC.mono {c : Code} {kk kk' : Ex → Env → St → Prop} (h : SemC P C c kk ρ st) (hl : ∀ e ρ st, kk e ρ st → kk' e ρ st) : SemC P C c kk' ρ st := fun Γ val0 st0 val fp a w Q hn h0 hs hst hk =>
  h Γ val0 st0 val fp a w Q hn h0 hs hst fun e ρ' st' val' fp' a' w' h1 h2 h3 => hk e ρ' st' val' fp' a' w' (hl _ _ _ h1) h2 h3

/-- THE LOOP'S RULE: the states at its head, a number that falls. -/
theorem loop_rule (hM : P.follows .mixedOrders = true) (hT : TysOk P C.y) (hC : TabOk P C) {S : Type} (I : S → Env × St) (μ : S → Nat) {b : Code} {kk : Ex → Env → St → Prop} (s0 : S) (h0 : Leads C ρ st (I s0).1 (I s0).2)
    (round : ∀ s, evC P C b (thn (fun ρ' st' => ∃ s', μ s' < μ s ∧ Leads C ρ' st' (I s').1 (I s').2) kk) (I s).1 (I s).2) : SemC P C (.loop b) kk ρ st := by
  refine SemC.leads (ρ' := (I s0).1) (st' := (I s0).2) ?_ h0
  intro Γ val0 st0 val fp a w Q hn hh hs hst hk
  refine wp_loop_ghost (fun n a w => ∃ s val fp, μ s = n ∧ Sim Γ val fp (I s).1 (I s).2 a w ∧ Stays val0 val st0 (I s).2) (μ s0) ⟨s0, val, fp, rfl, hs, hst⟩ ?_
  rintro n a1 w1 ⟨s, val1, fp1, rfl, hs1, hst1⟩
  refine code_sound hM hT hC b _ _ _ (round s) Γ val0 st0 val1 fp1 a1 w1 _ hn hh hs1 hst1 ?_
  intro e ρ' st' val' fp' a' w' h1 h2 h3
  cases e with
  | normal =>
    obtain ⟨s', hlt, hl⟩ := h1
    obtain ⟨val2, fp2, h4, h5⟩ := hl Γ val0 st0 val' fp' a' w' hn hh h2 h3
    exact ⟨μ s', hlt, s', val2, fp2, rfl, h4, h5⟩
  | exit i => exact hk _ _ _ _ _ _ _ h1 h2 h3
  | ret => exact hk _ _ _ _ _ _ _ h1 h2 h3

end
end Go.AE
