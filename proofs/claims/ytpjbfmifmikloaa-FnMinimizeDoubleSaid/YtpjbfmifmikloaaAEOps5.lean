/-
  Literals: structs, slices; make.
-/
import Derived.Test.YtpjbfmifmikloaaAEOps4
namespace Go.AE
open Go Go.RowKit

theorem fold_set (off : Nat) : ∀ (vs : List Value) (k : Nat) (cells : Array Value), off + k + vs.length ≤ cells.size →
    ((vs.zipIdx k).foldl (fun cs (x : Value × Nat) => cs.setIfInBounds (off + x.2) x.1) cells).toList = cells.toList.take (off + k) ++ vs ++ cells.toList.drop (off + k + vs.length)
  | [], k, cells, h => by simp
  | v :: vs, k, cells, h => by
    simp only [List.length_cons] at h
    rw [List.zipIdx_cons, List.foldl_cons, fold_set off vs (k + 1) _ (by simp; omega)]
    have hlen : off + k < cells.toList.length := by simp; omega
    simp only [Array.toList_setIfInBounds, List.length_cons]
    rw [show off + (k + 1) = off + k + 1 from by omega, List.drop_set_of_lt (by omega), List.take_succ_eq_append_getElem (by simpa using hlen), List.take_set_of_le (by omega)]
    simp only [List.getElem_set_self, List.append_assoc, List.cons_append, List.nil_append]
    congr 3
    congr 1
    omega

theorem fill_one {place : Nat → Option (Nat × Nat)} {cells : Array Value} {i off size : Nat} {v : Value} {rest : List (Nat × Value)} (hp : place i = some (off, size)) (hs : v.cells.size = size) (hfit : off + size ≤ cells.size) :
    ∃ cells', Instr.fill place cells ((i, v) :: rest) = Instr.fill place cells' rest ∧ cells'.toList = cells.toList.take off ++ v.cells.toList ++ cells.toList.drop (off + size) := by
  subst hs
  refine ⟨_, ?_, fold_set off v.cells.toList 0 cells (by simpa using hfit)⟩
  rw [Instr.fill]
  simp only [hp]
  rw [if_neg (by simp; omega)]
  congr 1
  rw [← Array.foldl_toList, Array.toList_zipIdx]

section
variable {P : Program} {C : Cfg} {Γ : Ctx} {val val' val'' : Nat → Value} {fp fp' fp'' : Nat → List Nat} {ρ : Env} {st st' st'' : St} {a : Act} {w w' w'' : World} {o : Oper} {k : AV → St → Prop} {K : Act → World → Prop} {Q : Exit → Act → World → Prop}

theorem setParts_rep (hT : TysOk P C.y) (h : Sim Γ val fp ρ st a w) {fl : List (Nat × TypeId)} {places : Array (Nat × Nat)} (hpl : ∀ (i off : Nat) (ty : TypeId) (t : Ty), fl[i]? = some (off, ty) → lk C.y.ty ty = some t → places[i]? = some (off, t.size)) :
    ∀ (ps : List (Nat × Operand)) {cs cs' : List CV} {cells : Array Value}, setParts C.y fl ρ cs ps = some cs' → All2 (CvRep w (NoGo Γ.X st fp) val st) cs cells.toList →
      ∃ cells', Instr.fill (places[·]?) cells (ps.map fun (i, x) => (i, a.eval x)) = some cells' ∧ All2 (CvRep w (NoGo Γ.X st fp) val st) cs' cells'.toList
  | [], cs, cs', cells, h1, hr => by
    simp [setParts] at h1
    subst h1
    exact ⟨cells, rfl, hr⟩
  | (i, x) :: r, cs, cs', cells, h1, hr => by
    unfold setParts at h1
    split at h1
    · rename_i off ty v hfl hv
      split at h1
      · rename_i t ht
        split at h1
        · rename_i hsz
          have hsz := beq_lk.1 hsz
          split at h1
          · rename_i hle
            have hle : off + v.length ≤ cs.length := Nat.le_of_ble_eq_true hle
            obtain ⟨p1, p2, p3⟩ := cells_rep hv (ev1_rep h x)
            have hl1 := p1.length
            have hl2 := hr.length
            obtain ⟨cells1, q1, q2⟩ := fill_one (rest := r.map fun (i, x) => (i, a.eval x)) (hpl i off ty t hfl ht) (v := a.eval x) (cells := cells) (by simpa using hl1.symm.trans hsz) (by simp at hl2; omega)
            obtain ⟨cells', q3, q4⟩ := setParts_rep hT h hpl r (cells := cells1) h1 (by
              rw [q2]
              exact ((hr.take off).append p1).append (by rw [hsz]; exact hr.drop _))
            exact ⟨cells', by rw [List.map_cons]; exact q1.trans q3, q4⟩
          · cases h1
        · cases h1
      · cases h1
    · cases h1

theorem sound_build (hT : TysOk P C.y) (h : Sim Γ val fp ρ st a w) {ty : TypeId} {ps : Array (Nat × Operand)} (ho : o.op = .build ty ps) (he : effK (evOp C ρ st o) k) (hK : Fol Γ val fp st a w o k K) : o.wp P a w K Q := by
  unfold evOp at he
  simp only [ho] at he
  split at he
  · rename_i t fl ht hfl
    split at he
    · rename_i cs hcs
      obtain ⟨i, z, d, hi, hsz, hz, hzc, _, hu, _, hf⟩ := hT.ty ty t ht
      obtain ⟨fs, hu', hlen, hfs⟩ := hT.fl ty fl hfl
      -- the fields' places, as the model reckons them
      have hex : ∀ f ∈ fs.toList, ∃ j, P.info? f.type = some j := by
        intro f hf'
        obtain ⟨n, hn, hfn⟩ := List.mem_iff_getElem.1 hf'
        have hn' : n < fl.length := by rw [← hlen]; simpa using hn
        obtain ⟨f', h1, _, h3, j, h4, _⟩ := hfs n fl[n].1 fl[n].2 (List.getElem?_eq_getElem hn')
        have : f' = f := by
          have h1' : fs.toList[n]? = some f' := by simpa using h1
          rw [List.getElem?_eq_getElem hn, hfn] at h1'
          exact (Option.some.inj h1').symm
        subst this
        exact ⟨j, by rw [h3]; exact h4⟩
      have hpl : ∀ (l : List Field), (∀ f ∈ l, ∃ j, P.info? f.type = some j) → ∃ places : List (Nat × Nat), l.mapM (fun f => (P.info? f.type).map fun i => (f.offset, i.size)) = some places ∧
          ∀ (n : Nat) (f : Field) (j : TypeInfo), l[n]? = some f → P.info? f.type = some j → places[n]? = some (f.offset, j.size) := by
        intro l
        induction l with
        | nil => exact fun _ => ⟨[], rfl, fun n f j hn => by simp at hn⟩
        | cons f l ih =>
          intro hall
          obtain ⟨j, hj⟩ := hall f (by simp)
          obtain ⟨pl, h1, h2⟩ := ih (fun g hg => hall g (by simp [hg]))
          refine ⟨(f.offset, j.size) :: pl, by simp [List.mapM_cons, hj, h1], fun n g j' hn hj' => ?_⟩
          cases n with
          | zero =>
            simp at hn
            subst hn
            rw [hj] at hj'
            obtain rfl := Option.some.inj hj'
            rfl
          | succ n => exact h2 n g j' (by simpa using hn) hj'
      obtain ⟨places, hm, hplaces⟩ := hpl fs.toList hex
      obtain ⟨cells', h1, h2⟩ := setParts_rep hT h (places := places.toArray) (fun i off fty ft e1 e2 => by
        obtain ⟨f, k1, k2, k3, j, k4, _⟩ := hfs i off fty e1
        obtain ⟨i', _, _, hi', hsz', _⟩ := hT.ty fty ft e2
        have := hplaces i f i' (by simpa using k1) (by rw [k3]; exact hi')
        simpa [k2, hsz'] using this) ps.toList (cells := z.cells) hcs (by rw [hzc]; exact zero_rep hf)
      refine wp_val (s := Instr.build ty (ps.map fun (i, x) => (i, a.eval x))) (by simp only [execOp, ho]) (v := .agg cells') ?_ (hK.same h.toObjs he ⟨cells', rfl, h2⟩)
      refine run_build w ty _ cells' ?_
      unfold Program.built
      simp only [hi, hu', hz, hm]
      simpa using h1
    · exact he.elim
  · exact he.elim

end
end Go.AE
