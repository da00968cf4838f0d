/-
  Each operation that reads, whole.
-/
import Derived.Test.YtpjbfmifmikloaaAEOps
import Derived.WalkSpells
import Derived.Lib.SliceRun
namespace Go.AE
open Go

section
variable {P : Program} {C : Cfg} {Γ : Ctx} {val : Nat → Value} {fp : Nat → List Nat} {ρ : Env} {st : St} {a : Act} {w : World} {o : Oper} {k : AV → St → Prop} {K : Act → World → Prop} {Q : Exit → Act → World → Prop}

/-- What follows an operation. -/
def Fol (Γ : Ctx) (val : Nat → Value) (fp : Nat → List Nat) (st : St) (a : Act) (w : World) (o : Oper) (k : AV → St → Prop) (K : Act → World → Prop) : Prop :=
  ∀ av st' v val' fp' w', k av st' → Step Γ val val' fp fp' st st' w w' → AvRep w' (NoGo Γ.X st' fp') val' st' av v → K (a.put o.dst v) w'

/-- What follows an operation that leaves the world as it is. -/
def FolS (Γ : Ctx) (val : Nat → Value) (fp : Nat → List Nat) (st : St) (a : Act) (w : World) (o : Oper) (k : AV → St → Prop) (K : Act → World → Prop) : Prop :=
  ∀ av st' v val' fp', k av st' → Step Γ val val' fp fp' st st' w w → AvRep w (NoGo Γ.X st' fp') val' st' av v → K (a.put o.dst v) w

theorem Step.refl (h : Objs Γ val fp st w) : Step Γ val val fp fp st st w w := ⟨h, Kept.refl _ _, Stays.refl _ _⟩

theorem Fol.same (hK : Fol Γ val fp st a w o k K) (h : Objs Γ val fp st w) {av : AV} {v : Value} (hk : k av st) (hv : AvRep w (NoGo Γ.X st fp) val st av v) : K (a.put o.dst v) w :=
  hK av st v val fp w hk (Step.refl h) hv

theorem FolS.same (hK : FolS Γ val fp st a w o k K) (h : Objs Γ val fp st w) {av : AV} {v : Value} (hk : k av st) (hv : AvRep w (NoGo Γ.X st fp) val st av v) : K (a.put o.dst v) w := hK av st v val fp hk (Step.refl h) hv

theorem Fol.still (hK : Fol Γ val fp st a w o k K) (_ : Objs Γ val fp st w) : FolS Γ val fp st a w o k K := fun av st' v val' fp' hk hs hv => hK av st' v val' fp' w hk hs hv

theorem ob_len {N : Nat → Prop} {e : TypeId} {t : Ty} {l : List t.den} {kd : Kind} {v : Value} {F : List Nat} (h : ObRep w N val st (.sl e t l kd) v F) : ∃ a cap, v = .slice a l.length cap ∧ l.length ≤ cap ∧ cap ≤ maxLen := by
  cases kd with
  | deep kn hh =>
    obtain ⟨_, e', xs, Fs, _, h1, _⟩ := h
    rcases h1.2 with ⟨rfl, h0⟩ | ⟨g, cap, cur, rfl, _, _, h2, h3, _⟩
    · exact ⟨none, 0, by rw [h0], by omega, Nat.zero_le _⟩
    · exact ⟨_, cap, rfl, h2, h3⟩
  | frozen => exact imm_len h.2.1
  | shallow =>
    obtain ⟨xs, h1, _⟩ := h
    rcases h1.2 with ⟨rfl, h0⟩ | ⟨g, cap, cur, rfl, _, _, h2, h3, _⟩
    · exact ⟨none, 0, by rw [h0], by omega, Nat.zero_le _⟩
    · exact ⟨_, cap, rfl, h2, h3⟩

/-- An owned row's value is nil only where it is empty; so is any read-only slice's. -/
theorem ob_nil {N : Nat → Prop} {e : TypeId} {t : Ty} {l : List t.den} {kd : Kind} {v : Value} {F : List Nat} (h : ObRep w N val st (.sl e t l kd) v F) {n c : Nat} (hv : v = .slice none n c) : l = [] := by
  have imm : ∀ {N : Nat → Prop}, Imm w N (.sl t) l [v] → l = [] := by
    rintro N ⟨a, cap, h1, _, _, h3⟩
    rcases Nat.eq_zero_or_pos l.length with h0 | h0
    · exact List.eq_nil_of_length_eq_zero h0
    · obtain ⟨b, o, rfl, _⟩ := h3 h0
      rw [hv] at h1; simp at h1
  cases kd with
  | deep kn hh =>
    obtain ⟨_, e', xs, Fs, _, h1, _⟩ := h
    rcases h1.2 with ⟨_, h0⟩ | ⟨g, cap, cur, h1, _⟩
    · exact List.eq_nil_of_length_eq_zero h0
    · rw [h1] at hv; simp at hv
  | frozen => exact imm h.2.1
  | shallow =>
    obtain ⟨xs, h1, _⟩ := h
    rcases h1.2 with ⟨_, h0⟩ | ⟨g, cap, cur, h1, _⟩
    · exact List.eq_nil_of_length_eq_zero h0
    · rw [h1] at hv; simp at hv

theorem imm_nil {N : Nat → Prop} {t : Ty} {l : List t.den} {v : Value} (h : Imm w N (.sl t) l [v]) {n c : Nat} (hv : v = .slice none n c) : l = [] := by
  obtain ⟨a, cap, h1, _, _, h3⟩ := h
  rcases Nat.eq_zero_or_pos l.length with h0 | h0
  · exact List.eq_nil_of_length_eq_zero h0
  · obtain ⟨b, o, rfl, _⟩ := h3 h0
    rw [hv] at h1; simp at h1

theorem own_rep (h : Objs Γ val fp st w) {x : Nat} {n : Bool} {v : Value} (hv : AvRep w (NoGo Γ.X st fp) val st (.c (.own x n)) v) {e : TypeId} {t : Ty} {l : List t.den} {kd : Kind} (hx : lk st x = some (.sl e t l kd)) :
    v = val x ∧ ObRep w (NoGo Γ.X st fp) val st (.sl e t l kd) (val x) (fp x) := by
  obtain ⟨_, o, h1, h2, _⟩ := hv
  rw [hx] at h1
  obtain rfl := Option.some.inj h1
  refine ⟨?_, h.rep x _ hx⟩
  rcases h2 with h2 | h2
  · cases h2
  · exact h2

theorem own_nil (h : Objs Γ val fp st w) {x : Nat} {v : Value} (hv : AvRep w (NoGo Γ.X st fp) val st (.c (.own x true)) v) {e : TypeId} {t : Ty} {l : List t.den} {kd : Kind} (hx : lk st x = some (.sl e t l kd))
    {A : Option Addr} {n c : Nat} (hA : v = .slice A n c) : A.isNone = l.isEmpty := by
  obtain ⟨h1, h2⟩ := own_rep h hv hx
  obtain ⟨_, o, h3, _, h4⟩ := hv
  rw [hx] at h3
  obtain rfl := Option.some.inj h3
  cases A with
  | none => rw [ob_nil h2 (h1.symm.trans hA)]; rfl
  | some A =>
    rcases h4 rfl with h4 | h4
    · rw [h4] at hA; simp at hA
    · cases l with
      | nil => exact absurd rfl (h4 _ _ _ _ rfl)
      | cons _ _ => rfl

theorem two_ints {N : Nat → Prop} {a b : Int} {u : Array Value} (h : All2 (CvRep w N val st) [.int .i64 a, .int .i64 b] u.toList) : u = #[.int .i64 a, .int .i64 b] := by
  obtain ⟨l⟩ := u
  match l, h with
  | [x, y], h => rw [h.1.1, h.2.1.1]
  | [], h => exact h.elim
  | [_], h => exact h.2.elim
  | _ :: _ :: _ :: _, h => exact h.2.2.elim

theorem nilt_k {b : Bool} {p : Prop} {k : AV → St → Prop} (he : ∀ b : Bool, (b = true → p) → k (.c (.bool b)) st) (hp : b = true → p) : k (.c (.bool b)) st := he b hp

theorem y_bin (hT : TysOk P C.y) (h : Sim Γ val fp ρ st a w) {op : BinOp} {t t' : TypeId} {x y : Operand} (ho : o.op = .binOp op t x y t') (he : effK (evOp C ρ st o) k) (hK : FolS Γ val fp st a w o k K) : OpT P o a w K := by
  have hx := ev1_rep h x
  have hy := ev1_rep h y
  unfold evOp at he
  simp only [ho] at he
  have hex : execOp a.eval o = (do pure (.value (← (do eqGuard op t x y (a.eval x) (a.eval y); binOp op t (a.eval x) (a.eval y) : Sem Value)))) := by simp only [execOp, ho]
  have go : ∀ {av : AV} {r : Value}, (∀ w1, (do eqGuard op t x y (a.eval x) (a.eval y); binOp op t (a.eval x) (a.eval y) : Sem Value).run P w1 = .ok r w1) → AvRep w (NoGo Γ.X st fp) val st av r → k av st → OpT P o a w K :=
    fun hr hv hk => y_val hex (fun w1 _ => hr w1) (hK.same h.toObjs hk hv)
  -- a slice against nil
  have eqn : ∀ {e : TypeId} {A : Option Addr} {n c : Nat} {q : Prop}, op = .eql → lk C.y.el t = some e → a.eval x = .slice A n c → a.eval y = .slice none 0 0 → (A = none → q) → (∀ b : Bool, (b = true → q) → k (.c (.bool b)) st) → OpT P o a w K := by
    intro e A n c q hop hel h1 h2 hq hk
    have hu := hT.el t e hel
    subst hop
    refine go (av := .c (.bool A.isNone)) (r := .bool A.isNone) (fun w1 => ?_) rfl (hk _ (fun hb => hq (by simpa using hb)))
    rw [h1, h2]
    simp [go_sem, Lib.run_eql_slice_nil w1 t e A n c 0 0 hu]
  have neqn : ∀ {e : TypeId} {A : Option Addr} {n c : Nat} {q : Prop}, op = .neq → lk C.y.el t = some e → a.eval x = .slice A n c → a.eval y = .slice none 0 0 → (A = none → q) → (∀ b : Bool, (b = false → q) → k (.c (.bool b)) st) → OpT P o a w K := by
    intro e A n c q hop hel h1 h2 hq hk
    have hu := hT.el t e hel
    subst hop
    refine go (av := .c (.bool (!A.isNone))) (r := .bool (!A.isNone)) (fun w1 => ?_) rfl (hk _ (fun hb => hq (by simpa using hb)))
    rw [h1, h2]
    simp [go_sem, run_neq_slice_nil_any w1 t e A n c 0 0 hu]
  -- .. whose value is nil just where it is empty
  have eqx : ∀ {e : TypeId} {A : Option Addr} {n c : Nat} {b : Bool}, op = .eql → lk C.y.el t = some e → a.eval x = .slice A n c → a.eval y = .slice none 0 0 → A.isNone = b → k (.c (.bool b)) st → OpT P o a w K := by
    intro e A n c b hop hel h1 h2 hq hk
    have hu := hT.el t e hel
    subst hop; subst hq
    refine go (av := .c (.bool A.isNone)) (r := .bool A.isNone) (fun w1 => ?_) rfl hk
    rw [h1, h2]
    simp [go_sem, Lib.run_eql_slice_nil w1 t e A n c 0 0 hu]
  have neqx : ∀ {e : TypeId} {A : Option Addr} {n c : Nat} {b : Bool}, op = .neq → lk C.y.el t = some e → a.eval x = .slice A n c → a.eval y = .slice none 0 0 → A.isNone = b → k (.c (.bool (!b))) st → OpT P o a w K := by
    intro e A n c b hop hel h1 h2 hq hk
    have hu := hT.el t e hel
    subst hop; subst hq
    refine go (av := .c (.bool (!A.isNone))) (r := .bool (!A.isNone)) (fun w1 => ?_) rfl hk
    rw [h1, h2]
    simp [go_sem, run_neq_slice_nil_any w1 t e A n c 0 0 hu]
  split at he
  · rename_i h1 h2
    rw [h1] at hx; rw [h2] at hy
    split at he
    · rename_i e hel
      have hu := hT.el t e hel
      refine go (av := .c (.kb true)) (r := .bool true) (fun w1 => ?_) rfl he
      rw [show a.eval x = _ from hx, show a.eval y = _ from hy]
      simp [go_sem, Lib.run_eql_slice_nil w1 t e none 0 0 0 0 hu]
    · exact he.elim
  · rename_i tt l h1 h2
    rw [h1] at hx; rw [h2] at hy
    split at he
    · rename_i e hel
      obtain ⟨A, cap, hv, _⟩ := imm_len hx
      exact eqn rfl hel hv hy (fun hA => imm_nil hx (by rw [hv, hA])) he
    · exact he.elim
  · rename_i x' h1 h2
    rw [h1] at hx; rw [h2] at hy
    split at he
    · rename_i e e' t' l hel hl
      obtain ⟨hv, hr⟩ := own_rep h.toObjs hx hl
      obtain ⟨A, cap, hv', _⟩ := ob_len hr
      exact eqx rfl hel (hv.trans hv') hy (own_nil h.toObjs hx hl (hv.trans hv')) he
    · rename_i e e' t' l hel hl
      obtain ⟨hv, hr⟩ := own_rep h.toObjs hx hl
      obtain ⟨A, cap, hv', _⟩ := ob_len hr
      exact eqx rfl hel (hv.trans hv') hy (own_nil h.toObjs hx hl (hv.trans hv')) he
    · rename_i e e' t' l kn hh hel hl
      obtain ⟨hv, hr⟩ := own_rep h.toObjs hx hl
      obtain ⟨A, cap, hv', _⟩ := ob_len hr
      exact eqx rfl hel (hv.trans hv') hy (own_nil h.toObjs hx hl (hv.trans hv')) he
    · exact he.elim
  · rename_i x' h1 h2
    rw [h1] at hx; rw [h2] at hy
    split at he
    · rename_i e e' t' l hel hl
      obtain ⟨hv, hr⟩ := own_rep h.toObjs hx hl
      obtain ⟨A, cap, hv', _⟩ := ob_len hr
      exact eqn rfl hel (hv.trans hv') hy (fun hA => ob_nil hr (by rw [hv', hA])) he
    · rename_i e e' t' l hel hl
      obtain ⟨hv, hr⟩ := own_rep h.toObjs hx hl
      obtain ⟨A, cap, hv', _⟩ := ob_len hr
      exact eqn rfl hel (hv.trans hv') hy (fun hA => ob_nil hr (by rw [hv', hA])) he
    · rename_i e e' t' l kn hh hel hl
      obtain ⟨hv, hr⟩ := own_rep h.toObjs hx hl
      obtain ⟨A, cap, hv', _⟩ := ob_len hr
      exact eqn rfl hel (hv.trans hv') hy (fun hA => ob_nil hr (by rw [hv', hA])) he
    · exact he.elim
  · rename_i h1 h2
    rw [h1] at hx; rw [h2] at hy
    split at he
    · rename_i e hel
      have hu := hT.el t e hel
      refine go (av := .c (.kb false)) (r := .bool false) (fun w1 => ?_) rfl he
      rw [show a.eval x = _ from hx, show a.eval y = _ from hy]
      simp [go_sem, run_neq_slice_nil_any w1 t e none 0 0 0 0 hu]
    · exact he.elim
  · rename_i tt l h1 h2
    rw [h1] at hx; rw [h2] at hy
    split at he
    · rename_i e hel
      obtain ⟨A, cap, hv, _⟩ := imm_len hx
      exact neqn rfl hel hv hy (fun hA => imm_nil hx (by rw [hv, hA])) he
    · exact he.elim
  · rename_i x' h1 h2
    rw [h1] at hx; rw [h2] at hy
    split at he
    · rename_i e e' t' l hel hl
      obtain ⟨hv, hr⟩ := own_rep h.toObjs hx hl
      obtain ⟨A, cap, hv', _⟩ := ob_len hr
      exact neqx rfl hel (hv.trans hv') hy (own_nil h.toObjs hx hl (hv.trans hv')) he
    · rename_i e e' t' l hel hl
      obtain ⟨hv, hr⟩ := own_rep h.toObjs hx hl
      obtain ⟨A, cap, hv', _⟩ := ob_len hr
      exact neqx rfl hel (hv.trans hv') hy (own_nil h.toObjs hx hl (hv.trans hv')) he
    · rename_i e e' t' l kn hh hel hl
      obtain ⟨hv, hr⟩ := own_rep h.toObjs hx hl
      obtain ⟨A, cap, hv', _⟩ := ob_len hr
      exact neqx rfl hel (hv.trans hv') hy (own_nil h.toObjs hx hl (hv.trans hv')) he
    · exact he.elim
  · rename_i x' h1 h2
    rw [h1] at hx; rw [h2] at hy
    split at he
    · rename_i e e' t' l hel hl
      obtain ⟨hv, hr⟩ := own_rep h.toObjs hx hl
      obtain ⟨A, cap, hv', _⟩ := ob_len hr
      exact neqn rfl hel (hv.trans hv') hy (fun hA => ob_nil hr (by rw [hv', hA])) he
    · rename_i e e' t' l hel hl
      obtain ⟨hv, hr⟩ := own_rep h.toObjs hx hl
      obtain ⟨A, cap, hv', _⟩ := ob_len hr
      exact neqn rfl hel (hv.trans hv') hy (fun hA => ob_nil hr (by rw [hv', hA])) he
    · rename_i e e' t' l kn hh hel hl
      obtain ⟨hv, hr⟩ := own_rep h.toObjs hx hl
      obtain ⟨A, cap, hv', _⟩ := ob_len hr
      exact neqn rfl hel (hv.trans hv') hy (fun hA => ob_nil hr (by rw [hv', hA])) he
    · exact he.elim
  · rename_i p q r s h1 h2
    rw [h1] at hx; rw [h2] at hy
    split at he
    · rename_i hq
      obtain ⟨u, hu, hu2⟩ := hx
      obtain ⟨v, hv, hv2⟩ := hy
      refine go (av := .c (.bool (p == r && q == s))) (r := .bool (p == r && q == s)) (fun w1 => ?_) rfl he
      rw [hu, hv, two_ints hu2, two_ints hv2]
      exact (hT.eq t hq x y p q r s w1).1
    · exact he.elim
  · rename_i p q r s h1 h2
    rw [h1] at hx; rw [h2] at hy
    split at he
    · rename_i hq
      obtain ⟨u, hu, hu2⟩ := hx
      obtain ⟨v, hv, hv2⟩ := hy
      refine go (av := .c (.bool (!(p == r && q == s)))) (r := .bool (!(p == r && q == s))) (fun w1 => ?_) rfl he
      rw [hu, hv, two_ints hu2, two_ints hv2]
      exact (hT.eq t hq x y p q r s w1).2
    · exact he.elim
  · split at he
    · rename_i b hb
      split at he
      · rename_i hty
        obtain ⟨i, z, d, _, _, _, _, _, hu, hd, _⟩ := hT.ty t _ hty
        have hd : d = .bool := hd
        subst hd
        obtain ⟨av, r, h1, h2, h3⟩ := bin_run (P := P) (X := x) (Y := y) (fun _ _ => hu) hx hy he
        exact go h1 h2 h3
      · exact he.elim
    · rename_i hb
      split at he
      · obtain ⟨av, r, h1, h2, h3⟩ := wrap_run (P := P) (t := t) (X := x) (Y := y) hx hy he
        exact go h1 h2 h3
      · obtain ⟨av, r, h1, h2, h3⟩ := bin_run (P := P) (X := x) (Y := y) (fun b hb' => by rw [hb] at hb'; cases hb') hx hy he
        exact go h1 h2 h3

theorem y_move (h : Sim Γ val fp ρ st a w) {x : Operand} (ho : o.op = .move x) (he : effK (evOp C ρ st o) k) (hK : FolS Γ val fp st a w o k K) : OpT P o a w K := by
  unfold evOp at he
  simp only [ho] at he
  exact y_pure (by simp only [execOp, ho]) (hK.same h.toObjs he (ev1_rep h x))

theorem y_assign (h : Sim Γ val fp ρ st a w) {x : Operand} (ho : o.op = .assign x) (he : effK (evOp C ρ st o) k) (hK : FolS Γ val fp st a w o k K) : OpT P o a w K := by
  unfold evOp at he
  simp only [ho] at he
  exact y_pure (by simp only [execOp, ho]) (hK.same h.toObjs he (ev1_rep h x))

theorem y_pick (h : Sim Γ val fp ρ st a w) {c x y : Operand} (ho : o.op = .pick c x y) (he : effK (evOp C ρ st o) k) (hK : FolS Γ val fp st a w o k K) : OpT P o a w K := by
  have hc := ev1_rep h c
  have hx := ev1_rep h x
  have hy := ev1_rep h y
  unfold evOp at he
  simp only [ho] at he
  have go : ∀ {b : Bool} {av : AV}, a.eval c = .bool b → AvRep w (NoGo Γ.X st fp) val st av (if b then a.eval x else a.eval y) → k av st → OpT P o a w K := by
    intro b av h1 h2 h3
    refine ⟨_, fun w1 _ => ?_, hK.same h.toObjs h3 h2⟩
    unfold execOp
    simp only [ho, h1, asBool, Sem.run_bind, Sem.run_pure, Result.andThen_ok]
  split at he
  · rename_i b hb
    rw [hb] at hc
    cases b
    · exact go hc hy he
    · exact go hc hx he
  · rename_i b hb
    rw [hb] at hc
    split at he
    · rename_i p q h1 h2
      have e1 := bool_rep h1 hx
      have e2 := bool_rep h2 hy
      refine go hc ?_ he
      cases b
      · exact e2
      · exact e1
    · cases b
      · exact go hc hy (he.2 rfl)
      · exact go hc hx (he.1 rfl)
  · exact he.elim

theorem y_un (h : Sim Γ val fp ρ st a w) {op : UnOp} {t : TypeId} {x : Operand} (ho : o.op = .unOp op t x) (he : effK (evOp C ρ st o) k) (hK : FolS Γ val fp st a w o k K) : OpT P o a w K := by
  have hx := ev1_rep h x
  unfold evOp at he
  simp only [ho] at he
  have hex : execOp a.eval o = (do pure (.value (← Op.unary op (a.eval x)))) := by simp only [execOp, ho]
  split at he
  · rename_i b hb
    rw [hb] at hx
    refine y_val hex (v := .bool (!b)) (fun w1 _ => ?_) (hK.same h.toObjs he rfl)
    rw [show a.eval x = _ from hx]; simp [Op.unary]
  · rename_i b hb
    rw [hb] at hx
    refine y_val hex (v := .bool (!b)) (fun w1 _ => ?_) (hK.same h.toObjs he rfl)
    rw [show a.eval x = _ from hx]; simp [Op.unary]
  · rename_i kd n hb
    rw [hb] at hx
    obtain ⟨hv, hn⟩ := int_rep hx
    refine y_val hex (v := .int kd (kd.wrap (0 - n))) (fun w1 _ => ?_) (hK.same h.toObjs he.2 (mk_int he.1 (by rw [wrap_in he.1])))
    rw [hv]; simp [Op.unary, Op.intArith]
  · exact he.elim

theorem y_convert (hT : TysOk P C.y) (h : Sim Γ val fp ρ st a w) {s t : TypeId} {x : Operand} (ho : o.op = .convert s t x) (he : effK (evOp C ρ st o) k) (hK : FolS Γ val fp st a w o k K) : OpT P o a w K := by
  have hx := ev1_rep h x
  unfold evOp at he
  simp only [ho] at he
  have hex : execOp a.eval o = (do pure (.value (← convert s t (a.eval x)))) := by simp only [execOp, ho]
  split at he
  · rename_i kd n k1 k2 h1 h2 h3
    rw [h1] at hx
    obtain ⟨hv, hn⟩ := int_rep hx
    obtain ⟨_, _, d1, _, _, _, _, _, hu1, hd1, _⟩ := hT.ty s _ h2
    obtain ⟨_, _, d2, _, _, _, _, _, hu2, hd2, _⟩ := hT.ty t _ h3
    have hd1 : d1 = .int k1 := hd1
    have hd2 : d2 = .int k2 := hd2
    subst hd1; subst hd2
    refine y_val hex (v := .int k2 (k2.wrap n)) (fun w1 _ => ?_) (hK.same h.toObjs he.2 (mk_int he.1 (by rw [wrap_in he.1])))
    rw [hv]; simp [convert, run_underlying hu1, run_underlying hu2, Conv.intToInt]
  · exact he.elim

theorem sound_nilCheck (h : Sim Γ val fp ρ st a w) {x : Operand} (ho : o.op = .nilCheck x) (he : effK (evOp C ρ st o) k) (hK : FolS Γ val fp st a w o k K) : o.wp P a w K Q := by
  have hx := ev1_rep h x
  unfold evOp at he
  simp only [ho] at he
  split at he
  · rename_i x' c h1
    rw [h1] at hx
    obtain ⟨cs, g, h2, h3, h4⟩ := hx
    refine wp_pure (v := a.eval x) ?_ (hK.same h.toObjs he ⟨cs, g, h2, h3, h4⟩)
    simp only [execOp, ho]
    rw [h4]
  · exact he.elim

theorem y_extract (h : Sim Γ val fp ρ st a w) {x : Operand} {i : Nat} (ho : o.op = .extract x i) (he : effK (evOp C ρ st o) k) (hK : FolS Γ val fp st a w o k K) : OpT P o a w K := by
  have hx := ev1_rep h x
  unfold evOp at he
  simp only [ho] at he
  have hex : execOp a.eval o = (do pure (.value (← Instr.extract (a.eval x) i))) := by simp only [execOp, ho]
  split at he
  · rename_i l h1
    rw [h1] at hx
    obtain ⟨vs, hv, hr⟩ := hx
    split at he
    · rename_i av hi
      obtain ⟨r, h2, h3⟩ := hr.get hi
      have h2' : vs[i]? = some r := by simpa using h2
      refine y_val hex (v := r) (fun w1 _ => ?_) (hK.same h.toObjs he ?_)
      · rw [hv]; simp [Instr.extract, h2']
      · cases av with
        | c x => exact h3
        | agg l => exact h3
        | tup l => exact h3.elim
    · exact he.elim
  · exact he.elim

theorem y_fieldAddr (hT : TysOk P C.y) (h : Sim Γ val fp ρ st a w) {t : TypeId} {x : Operand} {f : Nat} (ho : o.op = .fieldAddr t x f) (he : effK (evOp C ρ st o) k) (hK : FolS Γ val fp st a w o k K) : OpT P o a w K := by
  have hx := ev1_rep h x
  unfold evOp at he
  simp only [ho] at he
  have hex : execOp a.eval o = (do pure (.value (← Instr.fieldAt t (a.eval x) f))) := by simp only [execOp, ho]
  split at he
  · rename_i fl hfl
    obtain ⟨fs, hu, _, hf⟩ := hT.fl t fl hfl
    split at he
    · rename_i off ty hoff
      obtain ⟨fd, h1, h2, h3, j, h4, h5⟩ := hf f off ty hoff
      have go : ∀ {b c : Nat} {av : AV}, a.eval x = .pointer (some ⟨b, c, none⟩) → AvRep w (NoGo Γ.X st fp) val st av (.pointer (some ⟨b, c + off, none⟩)) → k av st → OpT P o a w K := by
        intro b c av e1 e2 e3
        refine y_val hex (v := .pointer (some ⟨b, c + off, none⟩)) (fun w1 _ => ?_) (hK.same h.toObjs e3 e2)
        rw [e1]
        have hi : P.info? fd.type = some j := by rw [h3]; exact h4
        simp [Instr.fieldAt, run_underlying hu, h1, Instr.sureAddr, fieldPlace, sizeOf, typeInfo, hi, h5, h2, Addr.add_lit]
      split at he
      · rename_i t' d c e1
        rw [e1] at hx
        obtain ⟨b, o', es, q1, q2, q3, q4, q5⟩ := hx
        exact go (av := .c (.iptr t' d (c + off))) q1 (Exists.intro b ⟨o', es, by rw [Nat.add_assoc], q2, q3, q4, q5⟩) he
      · rename_i x' i c e1
        rw [e1] at hx
        obtain ⟨_, ob, q1, q2⟩ := hx
        split at he
        · rename_i e t0 l hl
          rw [q1] at hl
          obtain rfl := Option.some.inj hl
          obtain ⟨r1, r2, g, n, cap, r3, r4⟩ := q2 e t0 l _ rfl
          refine go (av := .c (.eptr x' i (c + off))) r4 (And.intro ⟨_, rfl⟩ ⟨_, q1, fun e' t' l' k' ho' => ?_⟩) he
          cases ho'
          exact ⟨r1, r2, g, n, cap, r3, by rw [Nat.add_assoc]⟩
        · rename_i e t0 l kn hh hl
          rw [q1] at hl
          obtain rfl := Option.some.inj hl
          obtain ⟨r1, r2, g, n, cap, r3, r4⟩ := q2 e t0 l _ rfl
          refine go (av := .c (.eptr x' i (c + off))) r4 (And.intro ⟨_, rfl⟩ ⟨_, q1, fun e' t' l' k' ho' => ?_⟩) he
          cases ho'
          exact ⟨r1, r2, g, n, cap, r3, by rw [Nat.add_assoc]⟩
        · exact he.elim
      · rename_i x' c e1
        rw [e1] at hx
        obtain ⟨cs, g, q1, q2, q3⟩ := hx
        exact go (av := .c (.ptr x' (c + off))) q3 (Exists.intro cs ⟨g, q1, q2, rfl⟩) he
      · exact he.elim
    · exact he.elim
  · exact he.elim

end
end Go.AE
