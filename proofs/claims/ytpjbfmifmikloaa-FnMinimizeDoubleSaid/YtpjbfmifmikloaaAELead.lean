/-
  What one state may be taken for: slots forgotten, names changed or dropped; nil for an empty row.
-/
import Derived.Test.YtpjbfmifmikloaaAEFunc
namespace Go.AE
open Go Go.RowKit

def envOf (l : List (Nat × AV)) : Env := fun t => match lk l t with | some v => v | none => .c .undef

/-- The slots that are kept hold what they should. -/
def EnvOk (ρ : Env) : List (Nat × AV) → Prop
  | [] => True
  | (t, v) :: r => ρ t = v ∧ EnvOk ρ r

def ren (m : List (Nat × Nat)) (x : Nat) : Nat := match lk m x with | some y => y | none => x

def hasName (st : St) (x : Nat) : Bool := match lk st x with | some _ => true | none => false

def renAll (m : List (Nat × Nat)) (st' : St) : List Nat → List Nat → Prop
  | [], [] => True
  | x :: r, y :: s => (ren m x = y ∧ hasName st' x = true) ∧ renAll m st' r s
  | _, _ => False

/-- A row of no element. -/
def NoRow : Option Ob → Prop
  | some (.sl _ _ [] .shallow) => True
  | some (.sl _ _ [] (.deep _ .no)) => True
  | _ => False

/-- A row's value becomes one that is nil just where the row is empty: it was so, or the row is not empty. -/
def NilTo (st : St) : Bool → Bool → Nat → Prop
  | true, false, y => match lk st y with | some (.sl _ _ l _) => l ≠ [] | _ => False
  | _, _, _ => True

/-- A record that holds a datum and no row of its own. -/
def RecAs (st : St) (t : Ty) (d : t.den) (x : Nat) : Prop := match lk st x with
  | some (.rc cs) => ofCV st t cs = some d ∧ ownsIn cs = []
  | _ => False

/-- The name is not kept. -/
def dropped (m : List (Nat × Nat)) (x : Nat) : St → Bool
  | [] => true
  | (y, _) :: r => match Nat.beq (ren m y) x with | true => false | false => dropped m x r

/-- A cell with the names changed back. -/
def RenC (m : List (Nat × Nat)) (st' st : St) : CV → CV → Prop
  | .undef, _ => True
  | .own x n, .own y n' => (ren m x = y ∧ hasName st' x = true) ∧ NilTo st n n' y
  | .own x _, .nil => lk st (ren m x) = none ∧ NoRow (lk st' x)
  | .ptr x c, .ptr y c' => (ren m x = y ∧ hasName st' x = true) ∧ c = c'
  | .eptr x i c, .eptr y j c' => (ren m x = y ∧ hasName st' x = true) ∧ i = j ∧ c = c'
  | .fn f cap, .fn g cap' => f = g ∧ renAll m st' cap cap'
  | .int k n, y => y = .int k n
  | .bool b, y => y = .bool b ∨ y = .kb b
  | .kb b, y => y = .kb b
  | .str s, y => y = .str s
  | .nil, y => y = .nil
  | .imm t l, y => y = .imm t l ∨ (y = .nil ∧ l = []) ∨ ∃ x n e, y = .own x n ∧ lk st x = some (.sl e t l .frozen)
  | .iptr t d c, y => y = .iptr t d c ∨ ∃ x, y = .ptr x c ∧ RecAs st t d x ∧ dropped m x st' = true
  | .skip, y => y = .skip
  | _, _ => False

def RenL (m : List (Nat × Nat)) (st' st : St) : List CV → List CV → Prop
  | [], [] => True
  | x :: r, y :: s => RenC m st' st x y ∧ RenL m st' st r s
  | _, _ => False

def RenA (m : List (Nat × Nat)) (st' st : St) : AV → AV → Prop
  | .c .undef, _ => True
  | .c x, .c y => RenC m st' st x y
  | .agg l, .agg l' => RenL m st' st l l'
  | _, _ => False

def RenE (m : List (Nat × Nat)) (st' st : St) (ρ : Env) : List (Nat × AV) → Prop
  | [] => True
  | (t, v) :: r => RenA m st' st v (ρ t) ∧ RenE m st' st ρ r

def RenO (m : List (Nat × Nat)) (st' st : St) : Ob → Ob → Prop
  | .rc cs, .rc cs' => RenL m st' st cs cs'
  | .rc _, _ => False
  | .sl e t l kd, o' => o' = .sl e t l kd ∧ openK kd = false
  | .dead, .rc _ => False
  | .dead, _ => True

/-- The objects that are not gone. -/
def alive : St → St
  | [] => []
  | (x, o) :: r => match o with | .dead => alive r | _ => (x, o) :: alive r

def RenS (m : List (Nat × Nat)) (st' st : St) : St → Prop
  | [] => True
  | (x, o') :: r => (match lk st (ren m x) with | some o => RenO m st' st o' o | none => NoRow (some o')) ∧ RenS m st' st r

def fixed (m : List (Nat × Nat)) (st' : St) (h : Nat) : St → Bool
  | [] => true
  | (x, _) :: r => match Nat.blt x h with
    | true => match Nat.beq (ren m x) x && hasName st' x with | true => fixed m st' h r | false => false
    | false => fixed m st' h r

section
variable {P : Program} {C : Cfg} {Γ : Ctx} {val val' val'' val0 : Nat → Value} {fp fp' fp'' : Nat → List Nat} {ρ ρ' : Env} {st st' st'' st0 : St} {a : Act} {w w' w'' : World} {o : Oper} {k : AV → St → Prop} {K : Act → World → Prop} {Q : Exit → Act → World → Prop}

theorem hasName_spec {x : Nat} (h : hasName st x = true) : ∃ o, lk st x = some o := by
  unfold hasName at h
  split at h
  · rename_i o ho; exact ⟨o, ho⟩
  · cases h

theorem EnvOk.at_ : ∀ {l : List (Nat × AV)} {t : Nat} {v : AV}, EnvOk ρ l → lk l t = some v → ρ t = v
  | (t', v') :: r, t, v, ⟨h1, h2⟩, hl => by
    rw [lk_cons] at hl
    split at hl
    · rename_i e; cases hl; rw [e]; exact h1
    · exact h2.at_ hl

theorem leads_env {l : List (Nat × AV)} (h : EnvOk ρ l) : Leads C ρ st (envOf l) st := fun Γ val0 st0 val fp a w _ _ hs hst => by
  refine ⟨val, fp, ?_, hst⟩
  refine { toObjs := hs.toObjs, defers := hs.defers, size := hs.size, env := fun t => ?_ }
  unfold envOf
  cases hl : lk l t with
  | none => trivial
  | some v =>
    have := hs.env t
    rw [h.at_ hl] at this
    exact this

theorem leads_to {l : List (Nat × AV)} (h : EnvOk ρ l) (hs : st = st') : Leads C ρ st (envOf l) st' := hs ▸ leads_env h

theorem cast_k {α : Sort _} {x y : α} (f : α → Prop) (h : f y) (e : x = y) : f x := e ▸ h

theorem lk_of_mem {α : Type _} : ∀ {l : List (Nat × α)} {x : Nat} {o : α}, lk l x = some o → (x, o) ∈ l
  | (j, oj) :: r, x, o, h => by
    rw [lk_cons] at h
    split at h
    · rename_i e; cases h; subst e; exact List.mem_cons_self
    · exact List.mem_cons_of_mem _ (lk_of_mem h)

theorem RenS.at_ {m : List (Nat × Nat)} : ∀ {l : St} {x : Nat} {o' : Ob}, RenS m st' st l → (x, o') ∈ l → (∃ o, lk st (ren m x) = some o ∧ RenO m st' st o' o) ∨ (lk st (ren m x) = none ∧ NoRow (some o'))
  | (y, oy) :: r, x, o', ⟨h1, h2⟩, hm => by
    rcases List.mem_cons.1 hm with e | hm
    · cases e
      split at h1
      · rename_i o ho; exact .inl ⟨o, ho, h1⟩
      · rename_i ho; exact .inr ⟨ho, h1⟩
    · exact h2.at_ hm

theorem fixed_spec {m : List (Nat × Nat)} {h : Nat} : ∀ {l : St}, fixed m st' h l = true → ∀ x o, lk l x = some o → x < h → ren m x = x ∧ hasName st' x = true
  | (y, oy) :: r, hf, x, o, hx, hlt => by
    unfold fixed at hf
    rw [lk_cons] at hx
    split at hf
    · rename_i hb
      split at hf
      · rename_i h1
        simp only [Bool.and_eq_true] at h1
        split at hx
        · rename_i e; subst e; exact ⟨beq_lk.1 h1.1, h1.2⟩
        · exact fixed_spec hf x o hx hlt
      · cases hf
    · rename_i hb
      split at hx
      · rename_i e
        subst e
        rw [show Nat.blt x h = true from by simpa [Nat.blt_eq] using hlt] at hb
        cases hb
      · exact fixed_spec hf x o hx hlt

theorem nodup_inj {f : Nat → Nat} : ∀ {l : List Nat}, (l.map f).Nodup → ∀ x ∈ l, ∀ y ∈ l, f x = f y → x = y
  | z :: r, h, x, hx, y, hy, e => by
    rw [List.map_cons, List.nodup_cons] at h
    rcases List.mem_cons.1 hx with h1 | h1
    · rcases List.mem_cons.1 hy with h2 | h2
      · rw [h1, h2]
      · exact absurd (by rw [← h1, e]; exact List.mem_map_of_mem h2) h.1
    · rcases List.mem_cons.1 hy with h2 | h2
      · exact absurd (by rw [← h2, ← e]; exact List.mem_map_of_mem h1) h.1
      · exact nodup_inj h.2 x h1 y h2 e

theorem dropped_spec {m : List (Nat × Nat)} {x : Nat} : ∀ {l : St} {y : Nat} {o : Ob}, dropped m x l = true → (y, o) ∈ l → ren m y ≠ x
  | (z, oz) :: r, y, o, hd, hm => by
    unfold dropped at hd
    split at hd
    · cases hd
    · rename_i hb
      rcases List.mem_cons.1 hm with e | hm
      · cases e
        intro e0
        rw [beq_lk.2 e0] at hb
        cases hb
      · exact dropped_spec hd hm

theorem alive_mem {x : Nat} {o : Ob} : ∀ {l : St}, (x, o) ∈ l → o ≠ .dead → (x, o) ∈ alive l
  | (y, oy) :: r, hm, hd => by
    unfold alive
    rcases List.mem_cons.1 hm with e | hm1
    · cases e
      split
      · exact absurd rfl hd
      · exact List.mem_cons_self
    · split
      · exact alive_mem hm1 hd
      · exact List.mem_cons_of_mem _ (alive_mem hm1 hd)

/-- NAMES CHANGED AND DROPPED, SLOTS FORGOTTEN. -/
theorem leads_ren (m : List (Nat × Nat)) {l : List (Nat × AV)} (hinj : nodupB ((alive st').map fun p => ren m p.1) = true) (hfix : fixed m st' C.h st = true) (hobj : RenS m st' st st') (henv : RenE m st' st ρ l) :
    Leads C ρ st (envOf l) st' := fun Γ val0 st0 val fp a w hn h0 hs hst => by
  have hob0 : ∀ x o', lk st' x = some o' → (∃ o, lk st (ren m x) = some o ∧ RenO m st' st o' o) ∨ (lk st (ren m x) = none ∧ NoRow (some o')) := fun x o' hx => hobj.at_ (lk_of_mem hx)
  have hob : ∀ x o', lk st' x = some o' → NoRow (some o') ∨ ∃ o, lk st (ren m x) = some o ∧ RenO m st' st o' o := fun x o' hx => (hob0 x o' hx).elim .inr (fun h => .inl h.2)
  let val' : Nat → Value := fun x => match lk st (ren m x) with | some _ => val (ren m x) | none => .slice none 0 0
  let fp' : Nat → List Nat := fun x => match lk st' x with | some .dead => [] | _ => match lk st (ren m x) with | some _ => fp (ren m x) | none => []
  have hval : ∀ x o, lk st (ren m x) = some o → val' x = val (ren m x) := fun x o hx => by simp only [val', hx]
  have hfp : ∀ x o, lk st (ren m x) = some o → lk st' x ≠ some .dead → fp' x = fp (ren m x) := fun x o hx hd => by
    simp only [fp', hx]
  have hfpd : ∀ x, lk st' x = some .dead → fp' x = [] := fun x hx => by simp only [fp', hx]
  have hval0 : ∀ x, lk st (ren m x) = none → val' x = .slice none 0 0 := fun x hx => by simp only [val', hx]
  have hfp0 : ∀ x, lk st (ren m x) = none → fp' x = [] := fun x hx => by
    simp only [fp', hx]
    cases lk st' x with
    | none => rfl
    | some o => cases o <;> rfl
  have hinj' : ∀ x y o o', lk st' x = some o → lk st' y = some o' → o ≠ .dead → o' ≠ .dead → ren m x = ren m y → x = y := fun x y o o' hx hy hd hd' e => by
    have hnd := nodupB_spec hinj
    have hnd' : (((alive st').map Prod.fst).map (ren m)).Nodup := by rw [List.map_map]; exact hnd
    exact nodup_inj hnd' x (List.mem_map.2 ⟨_, alive_mem (lk_of_mem hx) hd, rfl⟩) y (List.mem_map.2 ⟨_, alive_mem (lk_of_mem hy) hd', rfl⟩) e
  have hnogo : ∀ b, NoGo Γ.X st' fp' b → NoGo Γ.X st fp b := by
    rintro b (h1 | ⟨x, o', h1, h2⟩)
    · exact .inl h1
    · rcases hob0 x o' h1 with ⟨o, h3, _⟩ | ⟨h3, _⟩
      · by_cases hd : o' = .dead
        · subst hd; rw [hfpd x h1] at h2; cases h2
        · rw [hfp x o h3 (fun e => hd (Option.some.inj (h1.symm.trans e)))] at h2; exact .inr ⟨_, o, h3, h2⟩
      · rw [hfp0 x h3] at h2; cases h2
  have hk : Kept w w (NoGo Γ.X st fp) (NoGo Γ.X st' fp') := ⟨Nat.le_refl _, fun _ _ _ => rfl, fun b _ h => hnogo b h⟩
  have hrc : ∀ {x : Nat} {cs : List CV}, lk st (ren m x) = some (.rc cs) → hasName st' x = true → ∃ cs', lk st' x = some (.rc cs') := by
    intro x cs q1 hx
    obtain ⟨o', ho'⟩ := hasName_spec hx
    rcases hob0 x o' ho' with ⟨o, p1, p2⟩ | ⟨p1, _⟩
    · rw [p1] at q1
      cases q1
      cases o' with
      | rc cs' => exact ⟨cs', ho'⟩
      | sl _ _ _ _ => simp only [RenO] at p2; cases p2.1
      | dead => simp only [RenO] at p2
    · rw [p1] at q1; cases q1
  have hfn : ∀ {cap cap' : List Nat} {vs : List Value}, renAll m st' cap cap' → fnCaps val st cap' vs → fnCaps val' st' cap vs := by
    intro cap
    induction cap with
    | nil =>
      intro cap' vs h1 h2
      cases cap' with
      | nil => cases vs with
        | nil => trivial
        | cons _ _ => exact h2.elim
      | cons _ _ => exact h1.elim
    | cons x r ih =>
      intro cap' vs h1 h2
      cases cap' with
      | nil => exact h1.elim
      | cons y s =>
        cases vs with
        | nil => exact h2.elim
        | cons v vs =>
          obtain ⟨⟨e, hx⟩, h3⟩ := h1
          obtain ⟨⟨cs, g, q1, q2, q3⟩, h4⟩ := h2
          subst e
          obtain ⟨cs', ho'⟩ := hrc q1 hx
          exact ⟨⟨cs', g, ho', (hval x _ q1).trans q2, q3⟩, ih h3 h4⟩
  have hcv : ∀ {x y : CV} {v : Value}, RenC m st' st x y → CvRep w (NoGo Γ.X st fp) val st y v → CvRep w (NoGo Γ.X st' fp') val' st' x v := by
    intro x y v hr hv
    cases x with
    | undef => trivial
    | int k n => simp only [RenC] at hr; subst hr; exact hv
    | bool b =>
      simp only [RenC] at hr
      rcases hr with rfl | rfl
      · exact hv
      · exact hv
    | kb b => simp only [RenC] at hr; subst hr; exact hv
    | str b => simp only [RenC] at hr; subst hr; exact hv
    | nil => simp only [RenC] at hr; subst hr; exact hv
    | skip => simp only [RenC] at hr; subst hr; exact hv
    | imm t d =>
      simp only [RenC] at hr
      rcases hr with rfl | ⟨rfl, rfl⟩ | ⟨x, n, e, rfl, hx⟩
      · exact Imm.kept (t := .sl t) hk hv
      · rw [show v = _ from hv]
        exact ⟨none, 0, rfl, Nat.le_refl _, Nat.zero_le _, fun h => absurd h (by simp)⟩
      · exact Imm.kept (t := .sl t) hk (frozen_imm hs.toObjs hv hx)
    | iptr t d c =>
      simp only [RenC] at hr
      rcases hr with hr | ⟨x, rfl, hrec, hdr⟩
      · subst hr
        obtain ⟨b, o, es, h1, h2, h3, h4, h5⟩ := hv
        exact ⟨b, o, es, h1, fun hq => h2 (hnogo b hq), h3, h4, h5.kept hk⟩
      · obtain ⟨cs0, g, q1, q2, q3⟩ := hv
        unfold RecAs at hrec
        rw [q1] at hrec
        obtain ⟨hof, hown⟩ := hrec
        obtain ⟨g', cur, e, r1, r2, r3, r4⟩ := hs.rep x _ q1
        rw [q2] at r1
        simp only [Value.pointer.injEq, Option.some.injEq, Addr.mk.injEq, and_true] at r1
        subst r1
        have hgx : g ∈ fp x := by rw [r2]; exact List.mem_singleton.2 rfl
        obtain ⟨o1, o2, o3⟩ := hs.own x _ q1 g hgx
        have hi := ofCV_rep hs.toObjs hof (fun z n hz => absurd (mem_owns.2 ⟨n, hz⟩) (by rw [hown]; exact List.not_mem_nil)) r4
        refine ⟨g, 0, cur.toList, by rw [q3, Nat.zero_add], ?_, o1, fun i hi' => ?_, hi.kept hk⟩
        · rintro (hX | ⟨y, oy, hy, hgy⟩)
          · exact o2 hX
          · have hne := dropped_spec hdr (lk_of_mem hy)
            rcases hob0 y oy hy with ⟨oz, p1, _⟩ | ⟨p1, _⟩
            · by_cases hd : oy = .dead
              · subst hd; rw [hfpd y hy] at hgy; cases hgy
              · rw [hfp y oz p1 (fun e => hd (Option.some.inj (hy.symm.trans e)))] at hgy
                exact hs.apart _ _ _ _ hne p1 q1 g hgy hgx
            · rw [hfp0 y p1] at hgy; cases hgy
        · rw [Nat.zero_add]
          simp [World.cell?, r3]
    | own x n =>
      cases y with
      | own y n' =>
        obtain ⟨⟨e, hx⟩, hto⟩ := hr
        subst e
        obtain ⟨o', ho'⟩ := hasName_spec hx
        obtain ⟨hsl, o2, q1, q2, q3⟩ := hv
        rcases hob0 x o' ho' with ⟨o, p1, p2⟩ | ⟨p1, _⟩
        · rw [p1] at q1
          cases q1
          refine And.intro hsl ⟨o', ho', ?_, fun hn => ?_⟩
          rotate_left
          · subst hn
            cases n' with
            | true =>
              refine (q3 rfl).imp id fun h e t l k ho => ?_
              subst ho
              simp only [RenO] at p2
              exact h _ _ _ _ p2.1
            | false =>
              refine .inr fun e t l k ho => ?_
              subst ho
              simp only [RenO] at p2
              simp only [NilTo] at hto
              rw [p1, p2.1] at hto
              exact hto
          rcases q2 with rfl | q2
          · cases o' with
            | dead => exact .inl rfl
            | sl _ _ _ _ => simp only [RenO] at p2; cases p2.1
            | rc _ => simp only [RenO] at p2
          · exact .inr (q2.trans (hval x _ p1).symm)
        · rw [p1] at q1; cases q1
      | nil =>
        obtain ⟨h1, h2⟩ := hr
        have hv : v = .slice none 0 0 := hv
        cases ho : lk st' x with
        | none => rw [ho] at h2; exact h2.elim
        | some o' => exact And.intro ⟨_, _, _, hv⟩ ⟨o', ho, .inr (hv.trans (hval0 x h1).symm), fun _ => .inl hv⟩
      | _ => simp only [RenC] at hr
    | ptr x c =>
      cases y with
      | ptr y c' =>
        obtain ⟨⟨e, hx⟩, rfl⟩ := hr
        subst e
        obtain ⟨cs, g, q1, q2, q3⟩ := hv
        obtain ⟨cs', ho'⟩ := hrc q1 hx
        exact ⟨cs', g, ho', (hval x _ q1).trans q2, q3⟩
      | _ => simp only [RenC] at hr
    | eptr x i c =>
      cases y with
      | eptr y j c' =>
        obtain ⟨⟨e, hx⟩, rfl, rfl⟩ := hr
        subst e
        obtain ⟨o', ho'⟩ := hasName_spec hx
        obtain ⟨hp, o2, q1, q2⟩ := hv
        rcases hob0 x o' ho' with ⟨o, p1, p2⟩ | ⟨p1, _⟩
        · rw [p1] at q1
          cases q1
          refine And.intro hp ⟨o', ho', fun e t l kd ho => ?_⟩
          subst ho
          simp only [RenO] at p2
          rw [hval x _ p1]
          exact q2 e t l kd p2.1
        · rw [p1] at q1; cases q1
      | _ => simp only [RenC] at hr
    | view x i => simp only [RenC] at hr
    | fn f cap =>
      cases y with
      | fn g cap' =>
        obtain ⟨rfl, h2⟩ := hr
        obtain ⟨vs, q1, q2⟩ := hv
        exact ⟨vs, q1, hfn h2 q2⟩
      | _ => simp only [RenC] at hr
  have hcl : ∀ {x y : List CV} {v : List Value}, RenL m st' st x y → All2 (CvRep w (NoGo Γ.X st fp) val st) y v → All2 (CvRep w (NoGo Γ.X st' fp') val' st') x v := by
    intro x
    induction x with
    | nil =>
      intro y v h1 h2
      cases y with
      | nil => cases v with
        | nil => trivial
        | cons _ _ => exact h2.elim
      | cons _ _ => exact h1.elim
    | cons x r ih =>
      intro y v h1 h2
      cases y with
      | nil => exact h1.elim
      | cons y s => cases v with
        | nil => exact h2.elim
        | cons v vs => exact ⟨hcv h1.1 h2.1, ih h1.2 h2.2⟩
  refine ⟨val', fp', { toObjs := ⟨hs.fr, fun x o' hx => ?_, fun x o' hx => ?_, fun x y o o' hne hx hy => ?_, hs.low⟩, defers := hs.defers, size := hs.size, env := fun t => ?_ }, fun x o hx => ?_⟩
  · rcases hob0 x o' hx with ⟨o, p1, p2⟩ | ⟨p1, p2⟩
    · by_cases hd : o' = .dead
      · subst hd; exact hfpd x hx
      rw [hval x o p1, hfp x o p1 (fun e => hd (Option.some.inj (hx.symm.trans e)))]
      have hr := hs.rep _ o p1
      cases o' with
      | dead => exact absurd rfl hd
      | rc cs' =>
        cases o with
        | rc cs =>
          obtain ⟨g, cur, e, q1, q2, q3, q4⟩ := hr
          exact ⟨g, cur, e, q1, q2, q3, hcl p2 q4⟩
        | sl _ _ _ _ => exact p2.elim
        | dead => exact p2.elim
      | sl e t l kd =>
        simp only [RenO] at p2
        obtain ⟨p2, p3⟩ := p2
        subst p2
        cases kd with
        | deep kn hh =>
          cases hh with
          | no =>
            obtain ⟨_, e', xs, Fs, q1, q2, q3, q4⟩ := hr
            exact ⟨trivial, e', xs, Fs, q1, q2, q3, fun j hj => (q4 j hj).kept (fun _ _ => rfl) (fun _ _ _ hp => by cases hp)⟩
          | _ => cases p3
        | frozen => exact ⟨hr.1, Imm.kept (t := .sl t) hk hr.2.1, hr.2.2⟩
        | shallow =>
          obtain ⟨xs, q1, q2, q3⟩ := hr
          exact ⟨xs, q1, q2, fun j hj => (q3 j hj).kept hk⟩
    · rw [hval0 x p1, hfp0 x p1]
      match o', p2 with
      | .sl e t [] .shallow, _ => exact ⟨[], ⟨by simp, .inl ⟨rfl, rfl⟩⟩, rfl, fun j hj => absurd hj (by simp)⟩
      | .sl e t [] (.deep kn .no), _ => exact ⟨trivial, e, [], fun _ _ => False, fun _ => rfl, ⟨by simp, .inl ⟨rfl, rfl⟩⟩, ⟨fun b => by simp [Value.ownBlock], fun b j hj => absurd hj (by simp), fun j k b hj => absurd hj (by simp)⟩, fun j hj => absurd hj (by simp)⟩
  · rcases hob0 x o' hx with ⟨o, p1, _⟩ | ⟨p1, _⟩
    · by_cases hd : o' = .dead
      · subst hd; rw [hfpd x hx]; intro b hb; cases hb
      · rw [hfp x o p1 (fun e => hd (Option.some.inj (hx.symm.trans e)))]; exact hs.own _ o p1
    · rw [hfp0 x p1]; intro b hb; cases hb
  · rcases hob0 x o hx with ⟨ox, p1, _⟩ | ⟨p1, _⟩
    · rcases hob0 y o' hy with ⟨oy, p2, _⟩ | ⟨p2, _⟩
      · by_cases hd : o = .dead
        · subst hd; rw [hfpd x hx]; intro b hb; cases hb
        by_cases hd' : o' = .dead
        · subst hd'; rw [hfpd y hy]; intro b _ hb; cases hb
        rw [hfp x ox p1 (fun e => hd (Option.some.inj (hx.symm.trans e))), hfp y oy p2 (fun e => hd' (Option.some.inj (hy.symm.trans e)))]
        exact hs.apart _ _ ox oy (fun e => hne (hinj' x y o o' hx hy hd hd' e)) p1 p2
      · rw [hfp0 y p2]; intro b _ hb; cases hb
    · rw [hfp0 x p1]; intro b hb; cases hb
  · unfold envOf
    cases hl : lk l t with
    | none => trivial
    | some v =>
      have hA : RenA m st' st v (ρ t) := by
        clear hfix hobj
        induction l with
        | nil => cases hl
        | cons p r ih =>
          obtain ⟨t', v'⟩ := p
          rw [lk_cons] at hl
          split at hl
          · rename_i e; cases hl; subst e; exact henv.1
          · exact ih henv.2 hl
      have hv := hs.env t
      cases v with
      | tup l => simp only [RenA] at hA
      | c x =>
        by_cases hu : x = .undef
        · subst hu; trivial
        · cases hρ : ρ t with
          | c y =>
            rw [hρ] at hv hA
            have hA' : RenC m st' st x y := by
              cases x <;> first | exact absurd rfl hu | exact hA
            exact hcv hA' hv
          | agg y => rw [hρ] at hA; cases x <;> first | exact absurd rfl hu | exact hA.elim
          | tup y => rw [hρ] at hA; cases x <;> first | exact absurd rfl hu | exact hA.elim
      | agg cs =>
        cases hρ : ρ t with
        | c y => rw [hρ] at hA; simp only [RenA] at hA
        | tup y => rw [hρ] at hA; simp only [RenA] at hA
        | agg cs' =>
          rw [hρ] at hv hA
          obtain ⟨vs, q1, q2⟩ := hv
          exact ⟨vs, q1, hcl hA q2⟩
  · obtain ⟨o1, p1, p2, p3⟩ := hst x o hx
    obtain ⟨h1, h2⟩ := fixed_spec hfix x o1 p1 (h0 x o hx)
    obtain ⟨o', ho'⟩ := hasName_spec h2
    rcases hob0 x o' ho' with ⟨o2, q1, q2⟩ | ⟨q1, _⟩
    · have q1' := q1
      rw [h1] at q1
      rw [p1] at q1
      cases q1
      refine ⟨o', ho', p2.trans ?_, by rw [hval x _ q1', h1]; exact p3⟩
      cases o' with
      | dead => cases o1 with
        | rc _ => exact q2.elim
        | sl _ _ _ _ => trivial
        | dead => trivial
      | sl _ _ _ _ => simp only [RenO] at q2; rw [q2.1]; exact Compat.refl _
      | rc cs' => cases o1 with
        | rc cs => trivial
        | sl _ _ _ _ => exact q2.elim
        | dead => exact q2.elim
    · rw [h1, p1] at q1; cases q1

/-- WHAT IS OUT IS LAID BACK. -/
theorem leads_close (ns : List Nat) (h : closeAll st ns = some st') : Leads C ρ st ρ st' := fun Γ val0 st0 val fp a w _ _ hs hst => by
  obtain ⟨fp', h1⟩ := closeAll_step hs.toObjs h
  exact ⟨val, fp', hs.step h1, hst.trans h1.stays⟩

/-- ROWS READ ONLY FROM NOW ON. -/
theorem leads_freeze (ns : List Nat) : Leads C ρ st ρ (freeze st ns) := fun Γ val0 st0 val fp a w _ _ hs hst => by
  obtain ⟨fp', h1⟩ := freeze_step ns hs.toObjs
  exact ⟨val, fp', hs.step h1, hst.trans h1.stays⟩

/-- A row of rows that is owned, what it holds being read only from now on. -/
def shallowSt (st : St) (x : Nat) : St := match lk st x with
  | some (.sl e t l (.deep true .no)) => sput st x (.sl e t l .shallow)
  | _ => st

theorem shallow_step (h : Objs Γ val fp st w) {x : Nat} {e : TypeId} {t : Ty} {l : List t.den} (hx : lk st x = some (.sl e t l (.deep true .no))) :
    ∃ fp', Step Γ val val fp fp' st (sput st x (.sl e t l .shallow)) w w := by
  obtain ⟨_, e', xs, Fs, r1, r2, r3, r4⟩ := h.rep x _ hx
  obtain rfl := r1 rfl
  have hl : ∀ y, lk (sput st x (.sl e' t l .shallow)) y = if y = x then some (.sl e' t l .shallow) else lk st y := fun y => by rw [lk_sput, hx]; rfl
  have only : ∀ {y : Nat} {ob : Ob}, lk (sput st x (.sl e' t l .shallow)) y = some ob → (lk st y = none ∨ y = x) → y = x := fun {y ob} hy hn => by
    rcases hn with hn | hn
    · rw [hl] at hy
      by_cases e0 : y = x
      · exact e0
      · rw [if_neg e0, hn] at hy; cases hy
    · exact hn
  have hin : ∀ b ∈ (val x).ownBlock.toList, b ∈ fp x := fun b hb => (r3.all b).2 (.inl (Option.mem_toList.1 hb))
  refine ⟨fun y => if y = x then (val x).ownBlock.toList else fp y, h.step (fun y => y = x) rfl rfl rfl (Nat.le_refl _) (fun _ _ _ => rfl) (fun y o hy hn => ?_) (fun y o hy hn => ?_) (fun y o hy hn b hb => ?_) (fun y z o o' hne hy hz hn hn' b hb => ?_) (fun hkept hstay y o hy hn => ?_)⟩
  · have hn : ¬ y = x := hn
    rw [hl, if_neg hn]; exact ⟨hy, rfl, by simp [hn]⟩
  · have hn : y = x := hn
    subst hn
    rw [hx] at hy
    obtain rfl := Option.some.inj hy
    exact ⟨.sl e' t l .shallow, by rw [hl, if_pos rfl], And.intro rfl (And.intro rfl rfl), rfl⟩
  · obtain rfl := only hy hn
    simp only [if_true] at hb
    exact ⟨(h.own y _ hx b (hin b hb)).1, fun _ => ⟨y, _, rfl, hx, hin b hb⟩⟩
  · exact absurd ((only hy hn).trans (only hz hn').symm) hne
  · obtain rfl := only hy hn
    rw [hl, if_pos rfl] at hy
    obtain rfl := Option.some.inj hy
    refine ⟨xs, r2, by simp, fun j hj => (r4 j hj).imm (fun b hb => ?_)⟩
    have hbx : b ∈ fp y := (r3.all b).2 (.inr ⟨j, hj, hb⟩)
    rintro (hX | ⟨z, oz, hz, hbz⟩)
    · exact (h.own y _ hx b hbx).2.1 hX
    · rw [hl] at hz
      by_cases e0 : z = y
      · subst e0
        simp only [if_true] at hbz
        exact r3.own b j hj (Option.mem_toList.1 hbz) hb
      · rw [if_neg e0] at hz
        simp only [if_neg e0] at hbz
        exact h.apart z y _ _ e0 hz hx b hbz hbx

theorem leads_shallow (x : Nat) : Leads C ρ st ρ (shallowSt st x) := fun Γ val0 st0 val fp a w _ _ hs hst => by
  unfold shallowSt
  split
  · rename_i e t l hx
    obtain ⟨fp', h1⟩ := shallow_step hs.toObjs hx
    exact ⟨val, fp', hs.step h1, hst.trans h1.stays⟩
  · exact ⟨val, fp, hs, hst⟩

def nameless : CV → Bool
  | .own _ _ => false
  | .ptr _ _ => false
  | .eptr _ _ _ => false
  | .view _ _ => false
  | .fn _ (_ :: _) => false
  | _ => true
def namelessL : List CV → Bool
  | [] => true
  | x :: r => match nameless x with | true => namelessL r | false => false
def namelessA : AV → Bool
  | .c x => nameless x
  | .agg l => namelessL l
  | .tup _ => false
def namelessE (ρ : Env) : List Nat → Bool
  | [] => true
  | t :: r => match namelessA (ρ t) with | true => namelessE ρ r | false => false

theorem nameless_ren {x : CV} (h : nameless x = true) : RenC [] [] st x x := by
  cases x with
  | fn f cap => cases cap with
    | nil => exact ⟨rfl, trivial⟩
    | cons _ _ => cases h
  | bool b => exact .inl rfl
  | imm _ _ => exact .inl rfl
  | iptr _ _ _ => exact .inl rfl
  | own _ _ => cases h
  | ptr _ _ => cases h
  | eptr _ _ _ => cases h
  | view _ _ => cases h
  | undef => trivial
  | _ => exact (rfl : _ = _)

theorem namelessL_ren : ∀ {l : List CV}, namelessL l = true → RenL [] [] st l l
  | [], _ => trivial
  | x :: r, h => by
    unfold namelessL at h
    split at h
    · rename_i hx; exact ⟨nameless_ren hx, namelessL_ren h⟩
    · cases h

theorem namelessA_ren {x : AV} (h : namelessA x = true) : RenA [] [] st x x := by
  cases x with
  | c x =>
    have := nameless_ren (st := st) (x := x) h
    cases x <;> first | exact this | trivial
  | agg l => exact namelessL_ren h
  | tup l => cases h

/-- All objects dropped; the slots ts kept, which name none. -/
theorem leads_none (ts : List Nat) (hfix : fixed [] [] C.h st = true) (hn : namelessE ρ ts = true) : Leads C ρ st (envOf (ts.map fun t => (t, ρ t))) [] := by
  refine leads_ren [] rfl hfix trivial ?_
  induction ts with
  | nil => trivial
  | cons t r ih =>
    unfold namelessE at hn
    split at hn
    · rename_i hx; exact ⟨namelessA_ren hx, ih hn⟩
    · cases hn

end
end Go.AE
