/-
  Parts of slices.
-/
import Derived.Test.YtpjbfmifmikloaaAEOps7
namespace Go.AE
open Go Go.RowKit

section
variable {P : Program} {C : Cfg} {Γ : Ctx} {val val' val'' : Nat → Value} {fp fp' fp'' : Nat → List Nat} {ρ : Env} {st st' st'' : St} {a : Act} {w w' w'' : World} {o : Oper} {k : AV → St → Prop} {K : Act → World → Prop} {Q : Exit → Act → World → Prop}

theorem imm_slice {N : Nat → Prop} {t : Ty} {l : List t.den} {A : Option Addr} {n cap lo hi : Nat} (h : Imm w N (.sl t) l [.slice A n cap]) (h1 : lo ≤ hi) (h2 : hi ≤ l.length) : Imm w N (.sl t) ((l.take hi).drop lo) [sliced A lo hi cap t.size] := by
  obtain ⟨A', cap', he, h3, h4, h5⟩ := h
  simp only [List.cons.injEq, Value.slice.injEq, and_true] at he
  obtain ⟨rfl, rfl, rfl⟩ := he
  have hlen : ((l.take hi).drop lo).length = hi - lo := by simp; omega
  refine ⟨_, cap - lo, by rw [hlen]; rfl, by rw [hlen]; omega, by omega, fun hp => ?_⟩
  rw [hlen] at hp
  obtain ⟨b, o, rfl, hn, hb, hx⟩ := h5 (by omega)
  refine ⟨b, o + lo * t.size, ?_, hn, hb, fun j hj => ?_⟩
  · rw [if_neg (by omega)]
    simp only [Option.map_some, Addr.add]
    split
    · rename_i e; rw [e]; rfl
    · rfl
  · rw [hlen] at hj
    obtain ⟨es, q1, q2⟩ := hx (lo + j) (by omega)
    refine ⟨es, fun c hc => ?_, ?_⟩
    · rw [← q1 c hc, Nat.add_mul]
      congr 2
      omega
    · have e : ((l.take hi).drop lo)[j]'(by rw [hlen]; exact hj) = l[lo + j] := by rw [List.getElem_drop, List.getElem_take]
      rw [e]; exact q2

theorem el_eq {s e : TypeId} (h : P.underlying s = some (.slice e)) : P.elem s = e := by simp [Program.elem, h]

theorem run_part (hT : TysOk P C.y) {s e : TypeId} {te : Ty} (h1 : lk C.y.el s = some e) (h2 : lk C.y.ty e = some te) {A : Option Addr} {n cap : Nat} {lo hi : Option Value} {b c : Nat}
    (hb : (lo = none ∧ b = 0) ∨ lo = some (.int .i64 b)) (hc : (hi = none ∧ c = n) ∨ hi = some (.int .i64 c)) (hbc : b ≤ c) (hcn : c ≤ n) (hn : n ≤ cap) :
    (Instr.sliceAt s (.slice A n cap) lo hi none).run P w = .ok (sliced A b c cap te.size) w := by
  have hu := hT.el s e h1
  obtain ⟨i0, z, dd, hi0, hsz, _⟩ := hT.ty e te h2
  have ht : P.underlying s = some (.slice (P.elem s)) := by rw [el_eq hu]; exact hu
  have hso : (sizeOf (P.elem s)).run P w = .ok te.size w := by rw [el_eq hu]; simp [sizeOf, typeInfo, hi0, hsz]
  rw [run_sliceAt_slice _ _ _ _ _ _ ht]
  rcases hb with ⟨rfl, rfl⟩ | rfl <;> rcases hc with ⟨rfl, rfl⟩ | rfl
  · rw [run_slice_all _ _ _ _ _ ht, hso]; rfl
  · rw [run_slice_h _ _ _ _ _ ht _ _ (by omega) (by omega), hso]; simp
  · rw [run_slice_l _ _ _ _ _ ht _ _ (by omega) (by omega), hso]; simp
  · rw [run_slice_lh _ _ _ _ _ ht _ _ _ _ (by omega) (by omega) (by omega), hso]; simp

theorem opt_eval (h : Sim Γ val fp ρ st a w) {x : Option Operand} {n : Int} (hx : x.map (ev1 ρ) = some (.c (.int .i64 n))) : x.map a.eval = some (.int .i64 n) := by
  cases x with
  | none => cases hx
  | some y =>
    simp only [Option.map_some, Option.some.injEq] at hx ⊢
    have := ev1_rep h y
    rw [hx] at this
    exact this.1

theorem opt_none {β : Type} {f : Operand → AV} {g : Operand → β} {x : Option Operand} (hx : x.map f = none) : x.map g = none := by
  cases x with
  | none => rfl
  | some y => cases hx

theorem wp_part {t : TypeId} {x : Operand} {lo hi : Option Operand} (ho : o.op = .slice t x lo hi none) {v : Value} (hr : (Instr.sliceAt t (a.eval x) (lo.map a.eval) (hi.map a.eval) none).run P w = .ok v w) (hK : K (a.put o.dst v) w) : o.wp P a w K Q := by
  refine wp_val (s := Instr.sliceAt t (a.eval x) (lo.map a.eval) (hi.map a.eval) none) ?_ hr hK
  simp only [execOp, ho, Option.map_none]

/-- The part of a row that is only read. -/
theorem part_imm (hT : TysOk P C.y) (h : Sim Γ val fp ρ st a w) {s e : TypeId} {te : Ty} {x : Operand} {lo hi : Option Operand} (ho : o.op = .slice s x lo hi none) (h1 : lk C.y.el s = some e) (h2 : lk C.y.ty e = some te)
    {t : Ty} {l : List t.den} (hs : te.size = t.size) (hx : Imm w (NoGo Γ.X st fp) (.sl t) l [a.eval x]) (he : effK (evSliceImm t l (lo.map (ev1 ρ)) (hi.map (ev1 ρ)) st) k) (hK : Fol Γ val fp st a w o k K) : o.wp P a w K Q := by
  have hx' := hx
  obtain ⟨A, cap, hv, q1, q2, _⟩ := hx
  simp only [List.cons.injEq, and_true] at hv
  rw [hv] at hx'
  unfold evSliceImm at he
  split at he
  · rename_i e1 e2
    refine wp_part ho (v := sliced A 0 l.length cap te.size) (by rw [hv]; exact run_part hT h1 h2 (.inl ⟨opt_none e1, rfl⟩) (.inl ⟨opt_none e2, rfl⟩) (by omega) (by omega) q1) ((hK.still h.toObjs).same h.toObjs he ?_)
    have := imm_slice hx' (Nat.zero_le l.length) (Nat.le_refl _)
    rw [List.take_length, List.drop_zero, ← hs] at this
    exact this
  · rename_i b e1 e2
    obtain ⟨⟨p1, p2⟩, hk⟩ := he
    have hb : ((b.toNat : Nat) : Int) = b := Int.toNat_of_nonneg p1
    refine wp_part ho (v := sliced A 0 b.toNat cap te.size) (by rw [hv]; exact run_part hT h1 h2 (.inl ⟨opt_none e1, rfl⟩) (.inr (by rw [opt_eval h e2, hb])) (by omega) (by omega) q1) ((hK.still h.toObjs).same h.toObjs hk ?_)
    have := imm_slice hx' (Nat.zero_le b.toNat) (by omega)
    rw [List.drop_zero, ← hs] at this
    exact this
  · rename_i b e1 e2
    obtain ⟨⟨p1, p2⟩, hk⟩ := he
    have hb : ((b.toNat : Nat) : Int) = b := Int.toNat_of_nonneg p1
    refine wp_part ho (v := sliced A b.toNat l.length cap te.size) (by rw [hv]; exact run_part hT h1 h2 (.inr (by rw [opt_eval h e1, hb])) (.inl ⟨opt_none e2, rfl⟩) (by omega) (by omega) q1) ((hK.still h.toObjs).same h.toObjs hk ?_)
    have := imm_slice hx' (show b.toNat ≤ l.length by omega) (Nat.le_refl _)
    rw [List.take_length, ← hs] at this
    exact this
  · rename_i b c e1 e2
    obtain ⟨⟨p1, p2, p3⟩, hk⟩ := he
    have hb : ((b.toNat : Nat) : Int) = b := Int.toNat_of_nonneg p1
    have hc : ((c.toNat : Nat) : Int) = c := Int.toNat_of_nonneg (by omega)
    refine wp_part ho (v := sliced A b.toNat c.toNat cap te.size) (by rw [hv]; exact run_part hT h1 h2 (.inr (by rw [opt_eval h e1, hb])) (.inr (by rw [opt_eval h e2, hc])) (by omega) (by omega) q1) ((hK.still h.toObjs).same h.toObjs hk ?_)
    have := imm_slice hx' (show b.toNat ≤ c.toNat by omega) (by omega)
    rw [← hs] at this
    exact this
  · exact he.elim

/-- An own row is handed on under a new name, cut short. -/
theorem move_step (h : Objs Γ val fp st w) {x d : Nat} {e : TypeId} {t : Ty} {l : List t.den} {n : Nat} {v : Value} (hl : lk st x = some (.sl e t l .shallow)) (hn : lk (sput st x .dead) d = none)
    (hv : ∀ xs, w.ownsRow 0 e t.size (val x) l.length xs → w.ownsRow 0 e t.size v (l.take n).length (xs.take ((l.take n).length * t.size)) ∧ v.ownBlock = (val x).ownBlock) :
    Step Γ val (fun y => if y = d then v else val y) fp (fun y => if y = d then fp x else if y = x then [] else fp y) st ((d, Ob.sl e t (l.take n) .shallow) :: sput st x .dead) w w := by
  obtain ⟨xs, s1, s2, s3⟩ := h.rep x _ hl
  obtain ⟨v1, v2⟩ := hv xs s1
  have hlkd : ∀ y, lk (sput st x Ob.dead) y = if y = x then some .dead else lk st y := fun y => by rw [lk_sput, hl]; rfl
  have hdx : d ≠ x := fun e0 => by rw [hlkd, if_pos e0] at hn; cases hn
  have hdn : lk st d = none := by rw [hlkd, if_neg hdx] at hn; exact hn
  have hlk : ∀ y, lk ((d, Ob.sl e t (l.take n) .shallow) :: sput st x Ob.dead) y = if y = d then some (.sl e t (l.take n) .shallow) else if y = x then some .dead else lk st y := fun y => by rw [lk_cons, hlkd]
  have which : ∀ {y : Nat} {ob : Ob}, lk ((d, Ob.sl e t (l.take n) .shallow) :: sput st x Ob.dead) y = some ob → (lk st y = none ∨ y = x) → y = d ∨ y = x := fun {y ob} hy' hn' => by
    rcases hn' with hn' | hn'
    · rw [hlk] at hy'
      by_cases e0 : y = d
      · exact .inl e0
      · rw [if_neg e0] at hy'
        by_cases e1 : y = x
        · exact .inr e1
        · rw [if_neg e1, hn'] at hy'; cases hy'
    · exact .inr hn'
  refine h.step (fun y => y = x) rfl rfl rfl (Nat.le_refl _) (fun _ _ _ => rfl) (fun y ob hy' hnn => ?_) (fun y ob hy' hnn => ?_) (fun y ob hy' hnn b hb' => ?_) (fun y z o1 o2 hne hy' hz' hnn hnn' b hb' => ?_) (fun hkept hstay y ob hy' hnn => ?_)
  · have hnn : ¬ y = x := hnn
    have hyd : y ≠ d := fun e0 => by rw [e0, hdn] at hy'; cases hy'
    rw [hlk, if_neg hyd, if_neg hnn]
    exact ⟨hy', by simp [hyd], by simp [hyd, hnn]⟩
  · have hnn : y = x := hnn
    subst hnn
    rw [hl] at hy'
    obtain rfl := Option.some.inj hy'
    exact ⟨.dead, by rw [hlk, if_neg hdx.symm, if_pos rfl], (show Compat (.sl _ _ _ _) .dead from trivial), by simp [hdx.symm]⟩
  · rcases which hy' hnn with rfl | rfl
    · simp only [if_true] at hb'
      exact ⟨(h.own x _ hl b hb').1, fun _ => ⟨x, _, rfl, hl, hb'⟩⟩
    · simp [hdx.symm] at hb'
  · rcases which hy' hnn with rfl | rfl
    · rcases which hz' hnn' with rfl | rfl
      · exact absurd rfl hne
      · simp [hdx.symm]
    · simp [hdx.symm] at hb'
  · rcases which hy' hnn with rfl | rfl
    · rw [hlk, if_pos rfl] at hy'
      obtain rfl := Option.some.inj hy'
      simp only [if_true]
      refine ⟨_, v1, by rw [s2, v2], fun j hj => ?_⟩
      have hj' : j < l.length := by simp at hj; omega
      have hjn : j < (l.take n).length := hj
      have e1 : (l.take n)[j] = l[j] := List.getElem_take
      rw [e1]
      have := (s3 j hj').kept hkept
      have e2 : ((xs.take ((l.take n).length * t.size)).drop (j * t.size)).take t.size = (xs.drop (j * t.size)).take t.size := by
        rw [List.drop_take, List.take_take]
        congr 1
        have : (j + 1) * t.size ≤ (l.take n).length * t.size := Nat.mul_le_mul_right _ hjn
        rw [Nat.add_mul] at this
        omega
      rw [e2]
      exact this
    · rw [hlk, if_neg hdx.symm, if_pos rfl] at hy'
      obtain rfl := Option.some.inj hy'
      show _ = _
      simp [hdx.symm]

theorem sound_slice (hT : TysOk P C.y) (h : Sim Γ val fp ρ st a w) {s : TypeId} {x : Operand} {lo hi mx : Option Operand} (ho : o.op = .slice s x lo hi mx) (he : effK (evOp C ρ st o) k) (hK : Fol Γ val fp st a w o k K) : o.wp P a w K Q := by
  have hx := ev1_rep h x
  unfold evOp at he
  simp only [ho] at he
  split at he
  · unfold evSlice at he
    split at he
    · rename_i e hel
      split at he
      · rename_i te hte
        split at he
        · rename_i t l h1
          rw [h1] at hx
          split at he
          · rename_i hs
            exact part_imm hT h ho hel hte (beq_lk.1 hs) hx he hK
          · exact he.elim
        · rename_i x' _ h1
          rw [h1] at hx
          split at he
          · split at he
            · rename_i e' t l kd hl
              split at he
              · rename_i hop
                split at he
                · rename_i hs
                  obtain ⟨fp1, S1⟩ := freeze1 h.toObjs hl hop
                  have hl1 : lk (sput st x' (.sl e' t l .frozen)) x' = some (.sl e' t l .frozen) := by rw [lk_sput, if_pos rfl, hl]; rfl
                  exact part_imm hT (h.step S1) ho hel hte (beq_lk.1 hs) (frozen_imm S1.objs (AvRep.kept S1.kept S1.stays hx) hl1) he (fun av st' v val' fp' w' hk hs' hv => hK av st' v val' fp' w' hk (S1.trans hs') hv)
                · exact he.elim
              · exact he.elim
            · exact he.elim
          split at he
          · rename_i e' t l hl
            split at he
            · rename_i hs
              exact part_imm hT h ho hel hte (beq_lk.1 hs) (frozen_imm h.toObjs hx hl) he hK
            · exact he.elim
          · rename_i e' t l hl
            split at he
            · rename_i hs
              have hs := beq_lk.1 hs
              split at he
              · rename_i n e1 e2
                obtain ⟨d, hd, hn, ⟨p1, p2⟩, hk⟩ := effK_req he
                have hb : ((n.toNat : Nat) : Int) = n := Int.toNat_of_nonneg p1
                obtain ⟨hv0, xs, s1, s2, s3⟩ := own_rep h.toObjs hx hl
                have hlen : (l.take n.toNat).length = n.toNat := by simp; omega
                have hsh : ∃ A m cap, val x' = .slice A m cap ∧ m = l.length ∧ l.length ≤ cap := by
                  rcases s1.2 with ⟨q1, q2⟩ | ⟨g, cap, cur, q1, q2, q3, q4, _⟩
                  · exact ⟨_, _, _, q1, q2.symm, by omega⟩
                  · exact ⟨_, _, _, q1, rfl, q4⟩
                obtain ⟨A, m, cap, hA, rfl, hcap⟩ := hsh
                refine wp_part ho (v := .slice A n.toNat cap) ?_ (hK _ _ _ _ _ _ hk (move_step (n := n.toNat) (v := .slice A n.toNat cap) h.toObjs hl hn ?_) (av_own (by simp) rfl))
                · rw [hv0, hA, run_part hT hel hte (.inl ⟨opt_none e1, rfl⟩) (.inr (by rw [opt_eval h e2, hb])) (Nat.zero_le _) (by omega) hcap]
                  simp only [sliced, Nat.sub_zero]
                  split
                  · rfl
                  · cases A <;> simp [Addr.add]
                · intro xs' hxs
                  refine ⟨⟨?_, ?_⟩, ?_⟩
                  · rw [List.length_take, hxs.1]
                    exact Nat.min_eq_left (Nat.mul_le_mul_right _ (by omega))
                  · rcases hxs.2 with ⟨q1, q2⟩ | ⟨g, cap', cur, q1, q2, q3, q4, q5, q6, q7⟩
                    · refine .inl ⟨?_, by omega⟩
                      rw [hA] at q1
                      simp only [Value.slice.injEq] at q1
                      obtain ⟨rfl, q3, rfl⟩ := q1
                      rw [show n.toNat = 0 by omega]
                    · rw [hA] at q1
                      simp only [Value.slice.injEq] at q1
                      obtain ⟨rfl, _, rfl⟩ := q1
                      refine .inr ⟨g, cap, cur, by rw [hlen], q2, q3, by omega, q5, q6, ?_⟩
                      rw [← q7, List.take_take, Nat.min_eq_left (Nat.mul_le_mul_right _ (by omega))]
                  · rw [hA]
                    cases A <;> rfl
              · rename_i b e1 e2
                obtain ⟨⟨p1, p2⟩, hk⟩ := he
                have hb : ((b.toNat : Nat) : Int) = b := Int.toNat_of_nonneg p1
                obtain ⟨hv0, xs, s1, s2, s3⟩ := own_rep h.toObjs hx hl
                have hsh : ∃ A m cap, val x' = .slice A m cap ∧ m = l.length ∧ l.length ≤ cap ∧ (0 < l.length → ∃ g, A = some ⟨g, 0, none⟩) := by
                  rcases s1.2 with ⟨q1, q2⟩ | ⟨g, cap, cur, q1, q2, q3, q4, _⟩
                  · exact ⟨_, _, _, q1, q2.symm, by omega, fun h0 => by omega⟩
                  · exact ⟨_, _, _, q1, rfl, q4, fun _ => ⟨g, rfl⟩⟩
                obtain ⟨A, m, cap, hA, rfl, hcap, hg⟩ := hsh
                obtain ⟨i0, z, dd, hi0, hsz, _⟩ := hT.ty e te hte
                refine wp_part ho (v := sliced A b.toNat l.length cap te.size) (by rw [hv0, hA]; exact run_part hT hel hte (.inr (by rw [opt_eval h e1, hb])) (.inl ⟨opt_none e2, rfl⟩) (by omega) (Nat.le_refl _) hcap) ((hK.still h.toObjs).same h.toObjs hk ?_)
                have hA' : sliced A b.toNat l.length cap te.size = .slice (if cap = b.toNat then A else A.map (·.add (b.toNat * te.size))) (l.length - b.toNat) (cap - b.toNat) := rfl
                refine And.intro ⟨_, _, _, hA'⟩ ⟨_, hl, fun e2 t2 l2 k2 ho2 => ?_⟩
                cases ho2
                refine ⟨p1, p2, fun hlt => ?_, fun hq => ⟨_, _, by rw [hA', show l.length - b.toNat = 0 by omega]⟩⟩
                obtain ⟨g, rfl⟩ := hg (by omega)
                refine ⟨g, l.length, cap, cap - b.toNat, hA, ?_⟩
                rw [hA', if_neg (by omega), hs]
                simp [Addr.add]
                exact fun h0 => h0.symm
              · exact he.elim
            · exact he.elim
          · exact he.elim
        · exact he.elim
      · exact he.elim
    · exact he.elim
  · exact he.elim

/-- The rest of an own row of numbers set to zero. -/
theorem clear_step (h : Objs Γ val fp st w) {x g n cap i : Nat} {e : TypeId} {k : IntKind} {l : List Int} (hx : lk st x = some (.sl e (.int k) l .shallow)) (hg : val x = .slice (some ⟨g, 0, none⟩) n cap)
    (hi : i ≤ l.length) (hk : inR k 0) :
    ∃ w', (storeCells ⟨g, i, none⟩ (List.replicate (l.length - i) (.int k 0)) 0).run P w = .ok () w' ∧ Step Γ val val fp fp st (sput st x (.sl e (.int k) (l.take i ++ List.replicate (l.length - i) (0:Int)) .shallow)) w w' := by
  obtain ⟨xs, s1, s2, s3⟩ := h.rep x _ hx
  have hnl : n = l.length := by
    obtain ⟨A, cap', h0⟩ := own_shape s1
    rw [hg] at h0; simp at h0; exact h0.2.1
  subst hnl
  rw [hg] at s1
  have hxl : xs.length = l.length * 1 := s1.1
  have hnew : (l.take i ++ List.replicate (l.length - i) (0:Int)).length = l.length := by simp; omega
  obtain ⟨w', p1, p2, p3, p4, p5, p6, p7⟩ := own_seg (P := P) s1 (p := i) (vs := List.replicate (l.length - i) (.int k 0)) (by simp only [List.length_replicate, Ty.size]; omega) (fun u hu => by rw [List.eq_of_mem_replicate hu]; rfl)
  refine ⟨w', p1, ?_⟩
  generalize hl' : (l.take i ++ List.replicate (l.length - i) (0:Int)) = l' at hnew ⊢
  have hlk : ∀ y, lk (sput st x (.sl e (.int k) l' .shallow)) y = if y = x then some (.sl e (.int k) l' .shallow) else lk st y := fun y => by rw [lk_sput, hx]; rfl
  have only : ∀ {y : Nat} {ob : Ob}, lk (sput st x (.sl e (.int k) l' .shallow)) y = some ob → (lk st y = none ∨ y = x) → y = x := fun {y ob} hy hn => by
    rcases hn with hn | hn
    · rw [hlk] at hy
      by_cases e0 : y = x
      · exact e0
      · rw [if_neg e0, hn] at hy; cases hy
    · exact hn
  have hgx : g ∈ fp x := by rw [s2, hg]; simp [Value.ownBlock]
  refine h.step (fun y => y = x) p3 p4 p5 (by omega) (fun b hb hn => p7 b (fun e0 => hn x _ rfl hx (e0 ▸ hgx))) (fun y ob hy hn => ?_) (fun y ob hy hn => ?_) (fun y ob hy hn b hb => ?_) (fun y z o1 o2 hne hy hz hn hn' b hb => ?_) (fun hkept hstay y ob hy hn => ?_)
  · have hn : ¬ y = x := hn
    rw [hlk, if_neg hn]; exact ⟨hy, rfl, rfl⟩
  · have hn : y = x := hn
    subst hn
    rw [hx] at hy
    obtain rfl := Option.some.inj hy
    exact ⟨.sl e (.int k) l' .shallow, by rw [hlk, if_pos rfl], (show Compat (.sl _ _ _ _) (.sl _ _ _ _) from And.intro rfl (And.intro rfl hnew.symm)), rfl⟩
  · obtain rfl := only hy hn
    obtain ⟨q1, q2⟩ := h.own y _ hx b hb
    exact ⟨by omega, fun _ => ⟨y, _, rfl, hx, hb⟩⟩
  · exact absurd ((only hy hn).trans (only hz hn').symm) hne
  · obtain rfl := only hy hn
    rw [hlk, if_pos rfl] at hy
    obtain rfl := Option.some.inj hy
    refine ⟨_, by rw [hnew, hg]; exact p2, s2, fun j hj => ?_⟩
    have hjl : j < l.length := by rw [hnew] at hj; exact hj
    obtain ⟨c1, c2⟩ : (xs.drop (j * 1)).take 1 = [.int k l[j]] ∧ inR k l[j] := s3 j hjl
    subst hl'
    have hget : ∀ (ys : List Value) (v : Value), ys[j]? = some v → (ys.drop (j * 1)).take 1 = [v] := fun ys v hv => by
      rw [Nat.mul_one]
      obtain ⟨hlt, rfl⟩ := List.getElem?_eq_some_iff.1 hv
      rw [List.drop_eq_getElem_cons hlt]; rfl
    have hxj : xs[j]? = some (.int k l[j]) := by
      have := congrArg (·[0]?) c1
      simpa [List.getElem?_take, List.getElem?_drop] using this
    by_cases hji : j < i
    · have e1 : (l.take i ++ List.replicate (l.length - i) (0:Int))[j]'hj = l[j] := by
        rw [List.getElem_append_left (by simp; omega), List.getElem_take]
      rw [e1]
      refine And.intro (hget _ _ ?_) c2
      rw [List.append_assoc, List.getElem?_append_left (by simp; omega), List.getElem?_take, if_pos hji, hxj]
    · have e1 : (l.take i ++ List.replicate (l.length - i) (0:Int))[j]'hj = 0 := by
        rw [List.getElem_append_right (by simp; omega)]; simp
      rw [e1]
      refine And.intro (hget _ _ ?_) hk
      rw [List.append_assoc, List.getElem?_append_right (by simp; omega), List.getElem?_append_left (by simp; omega), List.getElem?_replicate, if_pos (by simp; omega)]

theorem sput_same {x : Nat} {o : Ob} : ∀ {l : St}, lk l x = some o → sput l x o = l
  | (y, oy) :: r, h => by
    rw [lk_cons] at h
    unfold sput
    split
    · rename_i hb
      rw [if_pos (beq_lk.1 hb).symm] at h
      cases h; rfl
    · rename_i hb
      rw [if_neg (fun e => by rw [beq_lk.2 e.symm] at hb; cases hb)] at h
      rw [sput_same h]

theorem zeroCells_one {z : Value} {n : Nat} : (Builtin.zeroCells #[z] n).toList = List.replicate n z := by
  simp [Builtin.zeroCells]
  apply List.ext_getElem
  · simp
  · intro i h1 h2
    simp [Nat.mod_one]

theorem sound_clear (hT : TysOk P C.y) (h : Sim Γ val fp ρ st a w) {x : Operand} {tys : Array TypeId} (ho : o.op = .call { callee := .builtin .clear, args := #[x], argTypes := tys }) (he : effK (evClear C st tys.toList (ev1 ρ x)) k) (hK : Fol Γ val fp st a w o k K) : o.wp P a w K Q := by
  have hx := ev1_rep h x
  unfold evClear at he
  split at he
  · rename_i s hs
    have htys : tys = #[s] := by cases tys; simpa using hs
    subst htys
    split at he
    · rename_i e hel
      split at he
      · rename_i k0 hte
        split at he
        · rename_i x' i h1
          rw [h1] at hx
          split at he
          · rename_i e' k' l hl
            split at he
            · rename_i hs
              obtain rfl := same_eq hs
              have hu := hT.el s e hel
              obtain ⟨i0, z, dd, hi, hsz, hz, hzc, hby, _, _, hf⟩ := hT.ty e _ hte
              obtain ⟨⟨A, n, c, hv⟩, o2, q1, q2⟩ := hx
              rw [hl] at q1
              cases q1
              obtain ⟨p1, p2, p3, p4⟩ := q2 _ _ _ _ rfl
              have hk0 : inR k0 0 := by cases k0 <;> first | exact ⟨by decide, by decide⟩ | cases hf
              have hzz : z.cells = #[.int k0 0] := by rw [← Array.toList_inj]; exact hzc
              have hb : ((i.toNat : Nat) : Int) = i := Int.toNat_of_nonneg p1
              by_cases hlt : i < l.length
              · obtain ⟨g, n', cap, c', g1, g2⟩ := p3 hlt
                obtain ⟨w', r1, r2⟩ := clear_step (P := P) h.toObjs hl g1 (i := i.toNat) (by omega) hk0
                refine wp_builtin ho (s := Builtin.clear_ #[s] o.type #[a.eval x]) (fun cs => by simp [builtin]) (v := .tuple #[]) (w' := w') ?_ (hK _ _ _ _ _ _ he r2 trivial)
                rw [g2]
                obtain ⟨m, hm⟩ : ∃ m, l.length - i.toNat = m + 1 := ⟨l.length - i.toNat - 1, by omega⟩
                have hzr : ∀ w1, (zeroValue e).run P w1 = .ok z w1 := fun w1 => by simp [zeroValue, typeInfo, hi, hz]
                rw [hm] at r1 ⊢
                simp only [Ty.size, Nat.mul_one]
                simp [Builtin.clear_, run_underlying hu, hzr, hzz, zeroCells_one (z := .int k0 0), r1]
              · obtain ⟨A', c', g1⟩ := p4 (by omega)
                have hsame : sput st x' (.sl e' (.int k0) (l.take i.toNat ++ List.replicate (l.length - i.toNat) (0:Int)) .shallow) = st := by
                  rw [show l.length - i.toNat = 0 by omega, List.replicate_zero, List.append_nil, List.take_of_length_le (by omega)]
                  exact sput_same hl
                rw [hsame] at he
                refine wp_builtin ho (s := Builtin.clear_ #[s] o.type #[a.eval x]) (fun cs => by simp [builtin]) (v := .tuple #[]) (w' := w) ?_ ((hK.still h.toObjs).same h.toObjs he trivial)
                rw [g1]
                cases A' <;> simp [Builtin.clear_, run_underlying hu]
            · exact he.elim
          · exact he.elim
        · exact he.elim
      · exact he.elim
    · exact he.elim
  · exact he.elim

theorem sound_appendF (hT : TysOk P C.y) (h : Sim Γ val fp ρ st a w) {x y : Operand} {tys : Array TypeId} (ho : o.op = .call { callee := .builtin .append, args := #[x, y], argTypes := tys }) (he : effK (evAppendF C st o.dst tys.toList (ev1 ρ x) (ev1 ρ y)) k) (hK : Fol Γ val fp st a w o k K) : o.wp P a w K Q := by
  unfold evAppendF at he
  split at he
  · obtain ⟨fp1, S1⟩ := freeze_step (ownA (ev1 ρ y)) h.toObjs
    exact sound_append hT (h.step S1) ho he (fun av st' v val' fp' w' hk hs' hv => hK av st' v val' fp' w' hk (S1.trans hs') hv)
  · exact sound_append hT h ho he hK

end
end Go.AE
