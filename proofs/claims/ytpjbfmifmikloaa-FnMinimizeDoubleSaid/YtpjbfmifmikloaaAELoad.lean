/-
  Loads.
-/
import Derived.Test.YtpjbfmifmikloaaAEDeep
namespace Go.AE
open Go Go.RowKit

section
variable {P : Program} {C : Cfg} {Γ : Ctx} {val : Nat → Value} {fp : Nat → List Nat} {ρ : Env} {st : St} {a : Act} {w : World} {o : Oper} {k : AV → St → Prop} {K : Act → World → Prop} {Q : Exit → Act → World → Prop}

theorem toCVh_rep {N : Nat → Prop} {hs hs' : Nat → Option Nat} : ∀ {t : Ty} {c : Nat} {d : t.den} {cs : List Value} {F : Nat → Prop}, Deep w val t hs c d cs F → (∀ q ∈ slAt t c, ∀ y, hs' q = some y → hs q = some y ∧ ∃ o, lk st y = some o) → All2 (CvRep w N val st) (toCVh hs' t c d) cs
  | .int k, _, n, cs, _, h, _ => by
    obtain ⟨⟨rfl, h1⟩, _⟩ := h
    exact ⟨⟨rfl, h1⟩, trivial⟩
  | .bool, _, b, cs, _, h, _ => by
    obtain ⟨rfl, _⟩ := h
    exact ⟨rfl, trivial⟩
  | .str, _, s, cs, _, h, _ => by
    obtain ⟨rfl, _⟩ := h
    exact ⟨rfl, trivial⟩
  | .sl t, c, l, cs, F, h, hh => by
    unfold toCVh
    split
    · rename_i y hy
      obtain ⟨h1, o, h2⟩ := hh c (by simp [slAt]) y hy
      unfold Deep at h
      rw [h1] at h
      obtain ⟨h3, rfl, _⟩ := h
      exact ⟨And.intro h3 ⟨o, h2, ⟨.inr rfl, fun h => by cases h⟩⟩, trivial⟩
    · match cs, h.length with
      | [v], _ => exact ⟨trivial, trivial⟩
  | .pair a b, c, d, cs, F, h, hh => by
    obtain ⟨c1, c2, F1, F2, rfl, _, _, h4, h5⟩ := h
    exact (toCVh_rep h4 (fun q hq => hh q (by simp [slAt, hq]))).append (toCVh_rep h5 (fun q hq => hh q (by simp [slAt, hq])))

theorem sound_load (hT : TysOk P C.y) (h : Sim Γ val fp ρ st a w) {ty : TypeId} {x : Operand} (ho : o.op = .load ty x) (he : effK (evOp C ρ st o) k) (hK : FolS Γ val fp st a w o k K) : o.wp P a w K Q := by
  have hx := ev1_rep h x
  unfold evOp at he
  simp only [ho] at he
  unfold evLoad at he
  have hex : execOp a.eval o = (do pure (.value (← Instr.loadAt ty (a.eval x)))) := by simp only [execOp, ho]
  -- the cells that lie from place o' of block b on
  have go : ∀ {t : Ty} {ag : Bool} {b o' : Nat} {cs : List CV} {vs : List Value} {av : AV}, lk C.y.ty ty = some t → lk C.y.ag ty = some ag → a.eval x = .pointer (some ⟨b, o', none⟩) → asAV t.size ag cs = some av →
      All2 (CvRep w (NoGo Γ.X st fp) val st) cs vs → (∀ i, i < t.size → w.cell? ⟨b, o' + i, none⟩ = vs[i]?) → effK (ld av st) k → o.wp P a w K Q := by
    intro t ag b o' cs vs av h1 h2 h3 h4 h5 h6 h7
    obtain ⟨v, h8, h9⟩ := run_loadAt' hT h1 h2 h4 h5 h6
    exact wp_val hex (by rw [h3]; exact h8) (hK.same h.toObjs (ld_k h7 h9) h9)
  split at he
  · rename_i t ag ht hag
    split at he
    · rename_i t' d c h1
      rw [h1] at hx
      obtain ⟨b, o', es, q1, q2, q3, q4, q5⟩ := hx
      split at he
      · rename_i av hav
        have hrep := toCV_rep (val := val) (st := st) q5
        have hcl : (cut t.size c (toCV t' d)).length = t.size := (asAV_spec hav).1
        refine go ht hag q1 hav (hrep.cut t.size c) (fun i hi => ?_) he
        have hlen := hrep.length
        have hle : c + i < t'.size := by
          have h2 : (cut t.size c (toCV t' d)).length = min t.size ((toCV t' d).length - c) := by simp [cut]
          have := q5.length
          omega
        rw [take_drop_get hi, ← q4 (c + i) hle, Nat.add_assoc]
      · exact he.elim
    · rename_i x' c h1
      rw [h1] at hx
      obtain ⟨cs0, g, q1, q2, q3⟩ := hx
      split at he
      · rename_i cs hcs
        rw [q1] at hcs
        obtain rfl := Ob.rc.inj (Option.some.inj hcs)
        obtain ⟨g', cur, e, r1, r2, r3, r4⟩ := h.rep x' _ q1
        rw [q2] at r1
        obtain rfl : g = g' := by simpa using r1
        split at he
        · rename_i av hav
          refine go ht hag q3 hav (r4.cut t.size c) (fun i hi => ?_) he
          rw [take_drop_get hi, cell_of_row w g (c + i) cur e (0, 0) r3]
          simp
        · exact he.elim
      · exact he.elim
    · rename_i x' i c h1
      rw [h1] at hx
      obtain ⟨_, ob, q1, q2⟩ := hx
      split at he
      · rename_i e t' l hl
        rw [q1] at hl
        obtain rfl := Option.some.inj hl
        obtain ⟨r1, r2, g, n, cap, r3, r4⟩ := q2 e t' l _ rfl
        have hn : i.toNat < l.length := by omega
        obtain ⟨xs, s1, s2, s3⟩ := h.rep x' _ q1
        rw [r3] at s1
        have hnl : n = l.length := by
          rcases s1.2 with ⟨h0, _⟩ | ⟨g', cap', cur, h0, _⟩
          · simp at h0
          · simp at h0; exact h0.2.1
        subst hnl
        split at he
        · rename_i av hav
          have him := s3 i.toNat hn
          rw [getD_at hn] at hav
          have hrep := toCV_rep (val := val) (st := st) him
          have hcl : (cut t.size c (toCV t' l[i.toNat])).length = t.size := (asAV_spec hav).1
          have hlen := hrep.length
          have him' := him.length
          refine go ht hag r4 hav (hrep.cut t.size c) (fun j hj => ?_) he
          have hle : c + j < t'.size := by
            have h2 : (cut t.size c (toCV t' l[i.toNat])).length = min t.size ((toCV t' l[i.toNat]).length - c) := by simp [cut]
            omega
          rw [take_drop_get hj, take_drop_get hle, Nat.add_assoc]
          refine s1.cellAt _ ?_
          have : (i.toNat + 1) * t'.size ≤ l.length * t'.size := Nat.mul_le_mul_right _ (by omega)
          rw [Nat.add_mul] at this
          omega
        · exact he.elim
      · rename_i e t' l kn hh hl
        rw [q1] at hl
        obtain rfl := Option.some.inj hl
        split at he
        · obtain ⟨r1, r2, g, n, cap, r3, r4⟩ := q2 e t' l _ rfl
          have hn : i.toNat < l.length := by omega
          obtain ⟨_, e', xs, Fs, _, s1, _, s3⟩ := h.rep x' _ q1
          split at he
          · rename_i av hav
            rw [getD_at hn] at hav
            have hel := s3 i.toNat hn
            have hrep := toCVh_rep (hs' := fun _ => none) (st := st) (N := NoGo Γ.X st fp) hel (fun q _ y hy => by cases hy)
            refine go ht hag r4 hav (hrep.cut t.size c) (fun j hj => ?_) he
            have hlen := hrep.length
            have hel' := hel.length
            have hcl := (asAV_spec hav).1
            have hle : c + j < t'.size := by
              have h2 : (cut t.size c (toCVh (fun _ => none) t' 0 l[i.toNat])).length = min t.size ((toCVh (fun _ => none) t' 0 l[i.toNat]).length - c) := by simp [cut]
              omega
            rw [take_drop_get hj, take_drop_get hle, Nat.add_assoc]
            have hnl : n = l.length := by
              obtain ⟨A, cap', h0⟩ := own_shape s1
              rw [r3] at h0; simp at h0; exact h0.2.1
            subst hnl
            rw [r3] at s1
            refine s1.cellAt _ ?_
            have : (i.toNat + 1) * t'.size ≤ l.length * t'.size := Nat.mul_le_mul_right _ (by omega)
            rw [Nat.add_mul] at this
            omega
          · exact he.elim
        · split at he
          · rename_i st1 d0 hcl hd0
            obtain ⟨fp1, S1⟩ := close_step h.toObjs hcl
            have hx1 := CvRep.kept S1.kept S1.stays (x := .eptr x' i c) (And.intro ⟨_, (q2 e t' l _ rfl).2.2.choose_spec.choose_spec.choose_spec.2⟩ ⟨_, q1, q2⟩)
            split at he
            · rename_i e1 t1 l1 kn1 hl1
              obtain ⟨_, ob1, m1, m2⟩ := hx1
              rw [hl1] at m1
              obtain rfl := Option.some.inj m1
              obtain ⟨r1, r2, g, n, cap, r3, r4⟩ := m2 e1 t1 l1 _ rfl
              have hn : i.toNat < l1.length := by omega
              split at he
              · rename_i hnew
                split at he
                · rename_i av hav
                  rw [getD_at hn] at hnew hav he
                  obtain ⟨val2, fp2, S2⟩ := take_step S1.objs hl1 (i := i.toNat) (lo := c) (n := t.size) (base := (d0 + 1) * 1000) hn hnew
                  have hl2 : lk (takes (outAt c t.size ((d0 + 1) * 1000)) t1 0 l1[i.toNat] ++ sput st1 x' (.sl e1 t1 l1 (.deep kn1 (.at i.toNat c t.size ((d0 + 1) * 1000))))) x' = some (.sl e1 t1 l1 (.deep kn1 (.at i.toNat c t.size ((d0 + 1) * 1000)))) := by
                    rw [lk_append]
                    cases hq : lk (takes (outAt c t.size ((d0 + 1) * 1000)) t1 0 l1[i.toNat]) x' with
                    | some ob => have := allNew_spec hnew _ _ hq; rw [hl1] at this; cases this
                    | none => dsimp only; rw [lk_sput, if_pos rfl, hl1]; rfl
                  obtain ⟨ho2, e2, xs, Fs, _, s1, _, s3⟩ := S2.objs.rep x' _ hl2
                  have hv2 : val2 x' = .slice (some ⟨g, 0, none⟩) n cap := by
                    obtain ⟨_, _, _, h0⟩ := S2.stays x' _ hl1
                    rw [h0, r3]
                  have hel := s3 i.toNat hn
                  simp only [holeAt, if_true] at hel
                  have hrep := toCVh_rep (hs' := outAt c t.size ((d0 + 1) * 1000)) (st := takes (outAt c t.size ((d0 + 1) * 1000)) t1 0 l1[i.toNat] ++ sput st1 x' (.sl e1 t1 l1 (.deep kn1 (.at i.toNat c t.size ((d0 + 1) * 1000))))) (N := NoGo Γ.X (takes (outAt c t.size ((d0 + 1) * 1000)) t1 0 l1[i.toNat] ++ sput st1 x' (.sl e1 t1 l1 (.deep kn1 (.at i.toNat c t.size ((d0 + 1) * 1000))))) fp2) hel (fun q hq y hy => ⟨hy, ho2.2 q hq y hy⟩)
                  obtain ⟨v, h8, h9⟩ := run_loadAt' (w := w) (b := g) (o := i.toNat * t1.size + c) hT ht hag hav (hrep.cut t.size c) (fun j hj => by
                    have hlen := hrep.length
                    have hel' := hel.length
                    have hcl := (asAV_spec hav).1
                    have hle : c + j < t1.size := by
                      have h2 : (cut t.size c (toCVh (outAt c t.size ((d0 + 1) * 1000)) t1 0 l1[i.toNat])).length = min t.size ((toCVh (outAt c t.size ((d0 + 1) * 1000)) t1 0 l1[i.toNat]).length - c) := by simp [cut]
                      omega
                    rw [take_drop_get hj, take_drop_get hle, Nat.add_assoc]
                    have hnl : n = l1.length := by
                      obtain ⟨A, cap', h0⟩ := own_shape s1
                      rw [hv2] at h0; simp at h0; exact h0.2.1
                    subst hnl
                    rw [hv2] at s1
                    refine s1.cellAt _ ?_
                    have : (i.toNat + 1) * t1.size ≤ l1.length * t1.size := Nat.mul_le_mul_right _ (by omega)
                    rw [Nat.add_mul] at this
                    omega)
                  exact wp_val hex (by rw [r4]; exact h8) (hK _ _ _ _ _ he (S1.trans S2) h9)
                · exact he.elim
              · exact he.elim
            · exact he.elim
          · exact he.elim
      · exact he.elim
    · exact he.elim
  · exact he.elim


/-- A load from memory that nobody writes: it yields the same in every world that has that block. -/
theorem y_load (hT : TysOk P C.y) (h : Sim Γ val fp ρ st a w) {ty : TypeId} {x : Operand} (ho : o.op = .load ty x) {t' : Ty} {d : t'.den} {c : Nat} (hp : ev1 ρ x = .c (.iptr t' d c)) (he : effK (evOp C ρ st o) k) (hK : FolS Γ val fp st a w o k K) :
    ∃ b, b < w.heap.size ∧ ¬ NoGo Γ.X st fp b ∧ OpY P o a (fun w1 => w1.heap[b]? = w.heap[b]?) w K := by
  have hx := ev1_rep h x
  unfold evOp at he
  simp only [ho] at he
  unfold evLoad at he
  have hex : execOp a.eval o = (do pure (.value (← Instr.loadAt ty (a.eval x)))) := by simp only [execOp, ho]
  rw [hp] at hx
  obtain ⟨b, o', es, q1, q2, q3, q4, q5⟩ := hx
  split at he
  · rename_i t ag ht hag
    simp only [hp] at he
    split at he
    · rename_i av hav
      have hrep := toCV_rep (val := val) (st := st) q5
      have hcl : (cut t.size c (toCV t' d)).length = t.size := (asAV_spec hav).1
      have hcells : ∀ i, i < t.size → w.cell? ⟨b, o' + c + i, none⟩ = ((es.drop c).take t.size)[i]? := fun i hi => by
        have hlen := hrep.length
        have hle : c + i < t'.size := by
          have h2 : (cut t.size c (toCV t' d)).length = min t.size ((toCV t' d).length - c) := by simp [cut]
          have := q5.length
          omega
        rw [take_drop_get hi, ← q4 (c + i) hle, Nat.add_assoc]
      obtain ⟨v, h8, h9⟩ := run_loadAtS (P := P) hT ht hag hav (hrep.cut t.size c) hcells
      refine ⟨b, q3, q2, y_val hex (fun w1 hw1 => ?_) (hK.same h.toObjs (ld_k he h9) h9)⟩
      rw [q1]
      exact h8 w1 fun i hi => by rw [← hcells i hi]; exact World.cell?_of_block hw1
    · exact he.elim
  · exact he.elim

end
end Go.AE
