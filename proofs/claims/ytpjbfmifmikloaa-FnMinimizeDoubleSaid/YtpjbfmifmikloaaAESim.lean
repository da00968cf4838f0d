/-
  What an abstract value says of a value in memory, and how that is kept.
-/
import Derived.Test.YtpjbfmifmikloaaAE
namespace Go.AE
open Go

/-! ### Data that is only read -/

/-- The cells cs hold the datum d, all of it (but for the cells themselves) in blocks that are not in N. -/
def Imm (w : World) (N : Nat → Prop) : (t : Ty) → t.den → List Value → Prop
  | .int k, n, cs => cs = [.int k n] ∧ inR k n
  | .bool, b, cs => cs = [.bool b]
  | .str, s, cs => cs = [.string ⟨s.toArray⟩]
  | .sl t, l, cs => ∃ a cap, cs = [.slice a l.length cap] ∧ l.length ≤ cap ∧ cap ≤ maxLen ∧
      (0 < l.length → ∃ b o, a = some ⟨b, o, none⟩ ∧ ¬ N b ∧ b < w.heap.size ∧
        ∀ j (h : j < l.length), ∃ es, (∀ c, c < t.size → w.cell? ⟨b, o + j * t.size + c, none⟩ = es[c]?) ∧ Imm w N t l[j] es)
  | .pair a b, d, cs => ∃ c1 c2, cs = c1 ++ c2 ∧ Imm w N a d.1 c1 ∧ Imm w N b d.2 c2

theorem Imm.length {w : World} {N : Nat → Prop} : ∀ {t : Ty} {d : t.den} {cs : List Value}, Imm w N t d cs → cs.length = t.size
  | .int _, _, _, h => by rw [h.1]; rfl
  | .bool, _, _, h => by rw [show _ = _ from h]; rfl
  | .str, _, _, h => by rw [show _ = _ from h]; rfl
  | .sl _, _, _, h => by obtain ⟨_, _, rfl, _⟩ := h; rfl
  | .pair a b, _, _, h => by
    obtain ⟨c1, c2, rfl, h1, h2⟩ := h
    rw [List.length_append, Imm.length h1, Imm.length h2, Ty.size]

theorem Ty.size_pos : ∀ t : Ty, 0 < t.size
  | .int _ | .bool | .str | .sl _ => by simp [Ty.size]
  | .pair a b => by have := a.size_pos; simp only [Ty.size]; omega

/-- What is kept of memory: the blocks that are not in N, and N' adds only new ones. -/
structure Kept (w w' : World) (N N' : Nat → Prop) : Prop where
  size : w.heap.size ≤ w'.heap.size
  block : ∀ b, b < w.heap.size → ¬ N b → w'.heap[b]? = w.heap[b]?
  more : ∀ b, b < w.heap.size → N' b → N b

theorem Kept.refl (w : World) (N : Nat → Prop) : Kept w w N N := ⟨Nat.le_refl _, fun _ _ _ => rfl, fun _ _ h => h⟩

theorem Kept.cell {w w' : World} {N N' : Nat → Prop} (k : Kept w w' N N') {a : Addr} (hb : a.block < w.heap.size) (hn : ¬ N a.block) : w'.cell? a = w.cell? a :=
  World.cell?_of_block (k.block _ hb hn)

theorem Imm.kept {w w' : World} {N N' : Nat → Prop} (k : Kept w w' N N') : ∀ {t : Ty} {d : t.den} {cs : List Value}, Imm w N t d cs → Imm w' N' t d cs
  | .int _, _, _, h => h
  | .bool, _, _, h => h
  | .str, _, _, h => h
  | .sl t, l, cs, h => by
    obtain ⟨a, cap, rfl, h1, h2, h3⟩ := h
    refine ⟨a, cap, rfl, h1, h2, fun hl => ?_⟩
    obtain ⟨b, o, rfl, hn, hb, he⟩ := h3 hl
    refine ⟨b, o, rfl, fun hn' => hn (k.more b hb hn'), Nat.lt_of_lt_of_le hb k.size, fun j hj => ?_⟩
    obtain ⟨es, hc, hi⟩ := he j hj
    exact ⟨es, fun c hc' => (k.cell (a := ⟨b, _, none⟩) hb hn).trans (hc c hc'), Imm.kept k hi⟩
  | .pair a b, d, cs, h => by
    obtain ⟨c1, c2, rfl, h1, h2⟩ := h
    exact ⟨c1, c2, rfl, Imm.kept k h1, Imm.kept k h2⟩

theorem beq_lk {a k : Nat} : Nat.beq a k = true ↔ a = k := ⟨Nat.eq_of_beq_eq_true, fun h => by subst h; exact Nat.beq_refl a⟩

theorem lk_cons {α : Type _} (a : Nat) (b : α) (r : List (Nat × α)) (k : Nat) : lk ((a, b) :: r) k = if k = a then some b else lk r k := by
  unfold lk
  cases h : Nat.beq a k
  · rw [if_neg (fun e => by rw [beq_lk.2 e.symm] at h; cases h)]
    cases r <;> rfl
  · rw [if_pos (beq_lk.1 h).symm]

theorem lk_mem {α : Type _} : ∀ {l : List (Nat × α)} {x : Nat} {o : α}, lk l x = some o → (x, o) ∈ l
  | (j, oj) :: r, x, o, h => by
    rw [lk_cons] at h
    split at h
    · rename_i e; cases h; subst e; exact List.mem_cons_self
    · exact List.mem_cons_of_mem _ (lk_mem h)

/-! ### Rows of rows that are owned, all of them -/

/-- The blocks of a row and of what its elements hold. -/
structure RowF (v : Value) (n : Nat) (F : Nat → Prop) (Fs : Nat → Nat → Prop) : Prop where
  all : ∀ b, F b ↔ (v.ownBlock = some b ∨ ∃ j, j < n ∧ Fs j b)
  own : ∀ b j, j < n → v.ownBlock = some b → ¬ Fs j b
  apart : ∀ j k b, j < n → k < n → j ≠ k → Fs j b → ¬ Fs k b

/-- The cells cs hold the datum d; all rows in it are owned, and F are their blocks; but for the cells (by their places, the first being c) that are out under names (ys). -/
def Deep (w : World) (val : Nat → Value) : (t : Ty) → (Nat → Option Nat) → Nat → t.den → List Value → (Nat → Prop) → Prop
  | .int k, _, _, n, cs, F => (cs = [.int k n] ∧ inR k n) ∧ ∀ b, ¬ F b
  | .bool, _, _, x, cs, F => cs = [.bool x] ∧ ∀ b, ¬ F b
  | .str, _, _, s, cs, F => cs = [.string ⟨s.toArray⟩] ∧ ∀ b, ¬ F b
  | .sl t, ys, c, l, cs, F => match ys c with
    | some y => (∃ a n cap, val y = .slice a n cap) ∧ cs = [val y] ∧ ∀ b, ¬ F b
    | none => ∃ v e xs Fs, cs = [v] ∧ w.ownsRow 0 e t.size v l.length xs ∧ RowF v l.length F Fs ∧ ∀ j (_ : j < l.length), Deep w val t (fun _ => none) 0 l[j] ((xs.drop (j * t.size)).take t.size) (Fs j)
  | .pair a b, ys, c, d, cs, F => ∃ c1 c2 F1 F2, cs = c1 ++ c2 ∧ (∀ x, F x ↔ F1 x ∨ F2 x) ∧ (∀ x, F1 x → ¬ F2 x) ∧ Deep w val a ys c d.1 c1 F1 ∧ Deep w val b ys (c + a.size) d.2 c2 F2

theorem own_shape {w : World} {e : TypeId} {size n : Nat} {v : Value} {xs : List Value} (h : w.ownsRow 0 e size v n xs) : ∃ a cap, v = .slice a n cap := by
  rcases h.2 with ⟨rfl, rfl⟩ | ⟨g, cap, cur, rfl, _⟩
  · exact ⟨_, _, rfl⟩
  · exact ⟨_, _, rfl⟩

theorem own_kept {w w' : World} {e : TypeId} {size n : Nat} {v : Value} {xs : List Value} (h : w.ownsRow 0 e size v n xs) (hb : ∀ b, v.ownBlock = some b → w'.heap[b]? = w.heap[b]?) : w'.ownsRow 0 e size v n xs := by
  refine ⟨h.1, ?_⟩
  rcases h.2 with hn | ⟨g, cap, cur, rfl, hb', hg, rest⟩
  · exact .inl hn
  · exact .inr ⟨g, cap, cur, rfl, hb', (hb g rfl).trans hg, rest⟩

theorem Deep.length {w : World} {val : Nat → Value} : ∀ {t : Ty} {ys : Nat → Option Nat} {c : Nat} {d : t.den} {cs : List Value} {F : Nat → Prop}, Deep w val t ys c d cs F → cs.length = t.size
  | .int _, _, _, _, _, _, h => by rw [h.1.1]; rfl
  | .bool, _, _, _, _, _, h => by rw [h.1]; rfl
  | .str, _, _, _, _, _, h => by rw [h.1]; rfl
  | .sl t, ys, c, l, cs, F, h => by
    unfold Deep at h
    split at h
    · rw [h.2.1]; rfl
    · obtain ⟨v, e, xs, Fs, rfl, _⟩ := h; rfl
  | .pair a b, _, _, _, _, _, h => by
    obtain ⟨c1, c2, F1, F2, rfl, _, _, h1, h2⟩ := h
    rw [List.length_append, Deep.length h1, Deep.length h2, Ty.size]

theorem Deep.congr {w : World} {val : Nat → Value} : ∀ {t : Ty} {ys : Nat → Option Nat} {c : Nat} {d : t.den} {cs : List Value} {F F' : Nat → Prop}, (∀ b, F' b ↔ F b) → Deep w val t ys c d cs F → Deep w val t ys c d cs F'
  | .int _, _, _, _, _, _, _, hF, h => ⟨h.1, fun b hb => h.2 b ((hF b).1 hb)⟩
  | .bool, _, _, _, _, _, _, hF, h => ⟨h.1, fun b hb => h.2 b ((hF b).1 hb)⟩
  | .str, _, _, _, _, _, _, hF, h => ⟨h.1, fun b hb => h.2 b ((hF b).1 hb)⟩
  | .sl t, ys, c, l, cs, F, F', hF, h => by
    unfold Deep at h ⊢
    split
    · rename_i y hy
      rw [hy] at h
      exact ⟨h.1, h.2.1, fun b hb => h.2.2 b ((hF b).1 hb)⟩
    · rename_i hy
      rw [hy] at h
      obtain ⟨v, e, xs, Fs, h1, h2, h3, h4⟩ := h
      exact ⟨v, e, xs, Fs, h1, h2, ⟨fun b => (hF b).trans (h3.all b), h3.own, h3.apart⟩, h4⟩
  | .pair a b, _, _, _, _, _, _, hF, h => by
    obtain ⟨c1, c2, F1, F2, h1, h2, h3⟩ := h
    exact ⟨c1, c2, F1, F2, h1, fun b => (hF b).trans (h2 b), h3⟩

/-- The places of the slices among a datum's cells. -/
theorem Deep.kept {w w' : World} {val val' : Nat → Value} : ∀ {t : Ty} {ys : Nat → Option Nat} {c : Nat} {d : t.den} {cs : List Value} {F : Nat → Prop}, (∀ b, F b → w'.heap[b]? = w.heap[b]?) → (∀ q ∈ slAt t c, ∀ y, ys q = some y → val' y = val y) →
    Deep w val t ys c d cs F → Deep w' val' t ys c d cs F
  | .int _, _, _, _, _, _, _, _, h => h
  | .bool, _, _, _, _, _, _, _, h => h
  | .str, _, _, _, _, _, _, _, h => h
  | .sl t, ys, c, l, cs, F, hb, hv, h => by
    unfold Deep at h ⊢
    split
    · rename_i y hy
      rw [hy] at h
      rw [hv c (by simp [slAt]) y hy]
      exact h
    · rename_i hy
      rw [hy] at h
      obtain ⟨v, e, xs, Fs, h1, h2, h3, h4⟩ := h
      exact ⟨v, e, xs, Fs, h1, own_kept h2 (fun b hb' => hb b ((h3.all b).2 (.inl hb'))), h3, fun j hj => (h4 j hj).kept (fun b hb' => hb b ((h3.all b).2 (.inr ⟨j, hj, hb'⟩))) (fun _ _ _ hp => by cases hp)⟩
  | .pair a b, ys, c, d, cs, F, hb, hv, h => by
    obtain ⟨c1, c2, F1, F2, h1, h2, h3, h4, h5⟩ := h
    exact ⟨c1, c2, F1, F2, h1, h2, h3, h4.kept (fun b hb' => hb b ((h2 b).2 (.inl hb'))) (fun q hq => hv q (by simp [slAt, hq])), h5.kept (fun b hb' => hb b ((h2 b).2 (.inr hb'))) (fun q hq => hv q (by simp [slAt, hq]))⟩

theorem seg_get {l : List Value} {c n i : Nat} (hi : i < n) : ((l.drop c).take n)[i]? = l[c + i]? := by
  rw [List.getElem?_take, if_pos hi, List.getElem?_drop]

/-- What is owned may be read. -/
theorem row_imm {w : World} {N : Nat → Prop} {e : TypeId} {t : Ty} {l : List t.den} {v : Value} {xs : List Value} (h : w.ownsRow 0 e t.size v l.length xs) (hN : ∀ b, v.ownBlock = some b → ¬ N b)
    (hi : ∀ j (hj : j < l.length), Imm w N t l[j] ((xs.drop (j * t.size)).take t.size)) : Imm w N (.sl t) l [v] ∧ (0 < l.length → ∃ g n cap, v = .slice (some ⟨g, 0, none⟩) n cap) := by
  have h1' := h
  rcases h.2 with ⟨rfl, h0⟩ | ⟨g, cap, cur, rfl, _, hg, hc, hm, _⟩
  · exact ⟨⟨none, 0, by rw [h0], by omega, Nat.zero_le _, fun hl => by omega⟩, fun hl => by omega⟩
  · refine ⟨⟨_, cap, rfl, hc, hm, fun hl => ⟨g, 0, rfl, hN g rfl, (Array.getElem?_eq_some_iff.1 hg).1, fun j hj => ⟨(xs.drop (j * t.size)).take t.size, fun c hc' => ?_, hi j hj⟩⟩⟩, fun _ => ⟨g, _, cap, rfl⟩⟩
    rw [seg_get hc', Nat.zero_add]
    refine h1'.cellAt _ ?_
    have : (j + 1) * t.size ≤ l.length * t.size := Nat.mul_le_mul_right _ (by omega)
    rw [Nat.add_mul] at this
    omega

theorem Deep.imm {w : World} {val : Nat → Value} {N : Nat → Prop} : ∀ {t : Ty} {c : Nat} {d : t.den} {cs : List Value} {F : Nat → Prop}, (∀ b, F b → ¬ N b) → Deep w val t (fun _ => none) c d cs F → Imm w N t d cs
  | .int _, _, _, _, _, _, h => h.1
  | .bool, _, _, _, _, _, h => h.1
  | .str, _, _, _, _, _, h => h.1
  | .sl t, c, l, cs, F, hN, h => by
    obtain ⟨v, e, xs, Fs, rfl, h2, h3, h4⟩ := h
    exact (row_imm h2 (fun b hb => hN b ((h3.all b).2 (.inl hb))) (fun j hj => (h4 j hj).imm (fun b hb => hN b ((h3.all b).2 (.inr ⟨j, hj, hb⟩))))).1
  | .pair a b, c, d, cs, F, hN, h => by
    obtain ⟨c1, c2, F1, F2, h1, h2, h3, h4, h5⟩ := h
    exact ⟨c1, c2, h1, h4.imm (fun b hb => hN b ((h2 b).2 (.inl hb))), h5.imm (fun b hb => hN b ((h2 b).2 (.inr hb)))⟩

def holeAt : Hole → Nat → Nat → Option Nat
  | .no, _ => fun _ => none
  | .at i lo n base, j => fun q => if j = i then outAt lo n base q else none

def HoleIn (st : St) (t : Ty) (m : Nat) : Hole → Prop
  | .no => True
  | .at i lo n base => i < m ∧ ∀ q ∈ slAt t 0, ∀ y, outAt lo n base q = some y → ∃ o, lk st y = some o

/-! ### Cells, values, objects -/

def fnCaps (val : Nat → Value) (st : St) : List Nat → List Value → Prop
  | [], [] => True
  | x :: r, v :: vs => (∃ cs g, lk st x = some (.rc cs) ∧ val x = .pointer (some ⟨g, 0, none⟩) ∧ v = .pointer (some ⟨g, 0, none⟩)) ∧ fnCaps val st r vs
  | _, _ => False

/-- A row whose value is nil just where it is empty. -/
def NilOk (n : Bool) (o : Ob) (v : Value) : Prop := n = true → v = .slice none 0 0 ∨ ∀ e t l k, o = .sl e t l k → l ≠ []

def CvRep (w : World) (N : Nat → Prop) (val : Nat → Value) (st : St) : CV → Value → Prop
  | .int k n, v => v = .int k n ∧ inR k n
  | .bool b, v => v = .bool b
  | .kb b, v => v = .bool b
  | .str s, v => v = .string ⟨s.toArray⟩
  | .nil, v => v = .slice none 0 0
  | .imm t l, v => Imm w N (.sl t) l [v]
  | .own x n, v => (∃ a n c, v = .slice a n c) ∧ ∃ o, lk st x = some o ∧ (o = .dead ∨ v = val x) ∧ NilOk n o v
  | .iptr t d c, v => ∃ b o es, v = .pointer (some ⟨b, o + c, none⟩) ∧ ¬ N b ∧ b < w.heap.size ∧ (∀ i, i < t.size → w.cell? ⟨b, o + i, none⟩ = es[i]?) ∧ Imm w N t d es
  | .eptr x i c, v => (∃ p, v = .pointer p) ∧ ∃ o, lk st x = some o ∧ ∀ e t l k, o = .sl e t l k → 0 ≤ i ∧ i < l.length ∧ ∃ g n cap, val x = .slice (some ⟨g, 0, none⟩) n cap ∧ v = .pointer (some ⟨g, i.toNat * t.size + c, none⟩)
  | .ptr x c, v => ∃ cs g, lk st x = some (.rc cs) ∧ val x = .pointer (some ⟨g, 0, none⟩) ∧ v = .pointer (some ⟨g, c, none⟩)
  | .view x i, v => (∃ A n c, v = .slice A n c) ∧ ∃ o, lk st x = some o ∧ ∀ e t l k, o = .sl e t l k → 0 ≤ i ∧ i ≤ l.length ∧ (i < l.length → ∃ g n cap c, val x = .slice (some ⟨g, 0, none⟩) n cap ∧ v = .slice (some ⟨g, i.toNat * t.size, none⟩) (l.length - i.toNat) c) ∧ (i = l.length → ∃ A c, v = .slice A 0 c)
  | .fn f cap, v => ∃ vs, v = .func (.func f) #[] vs ∧ fnCaps val st cap vs.toList
  | .skip, v => v = undef
  | .undef, _ => True

def All2 {α β : Type} (R : α → β → Prop) : List α → List β → Prop
  | [], [] => True
  | a :: l, b :: m => R a b ∧ All2 R l m
  | _, _ => False

def Av1 (w : World) (N : Nat → Prop) (val : Nat → Value) (st : St) : AV → Value → Prop
  | .c x, v => CvRep w N val st x v
  | .agg l, v => ∃ vs, v = .agg vs ∧ All2 (CvRep w N val st) l vs.toList
  | .tup _, _ => False

def AvRep (w : World) (N : Nat → Prop) (val : Nat → Value) (st : St) : AV → Value → Prop
  | .c x, v => CvRep w N val st x v
  | .agg l, v => ∃ vs, v = .agg vs ∧ All2 (CvRep w N val st) l vs.toList
  | .tup l, v => ∃ vs, v = .tuple vs ∧ All2 (Av1 w N val st) l vs.toList

def ObRep (w : World) (N : Nat → Prop) (val : Nat → Value) (st : St) : Ob → Value → List Nat → Prop
  | .sl e t l .shallow, v, F => ∃ xs, w.ownsRow 0 e t.size v l.length xs ∧ F = v.ownBlock.toList ∧
      ∀ j (h : j < l.length), Imm w N t l[j] ((xs.drop (j * t.size)).take t.size)
  | .sl _ t l .frozen, v, F => F = [] ∧ Imm w N (.sl t) l [v] ∧ (0 < l.length → ∃ g n cap, v = .slice (some ⟨g, 0, none⟩) n cap)
  | .sl e t l (.deep kn h), v, F => HoleIn st t l.length h ∧ ∃ e' xs Fs, (kn = true → e' = e) ∧ w.ownsRow 0 e' t.size v l.length xs ∧ RowF v l.length (· ∈ F) Fs ∧
      ∀ j (hj : j < l.length), Deep w val t (holeAt h j) 0 l[j] ((xs.drop (j * t.size)).take t.size) (Fs j)
  | .rc cs, v, F => ∃ g cur e, v = .pointer (some ⟨g, 0, none⟩) ∧ F = [g] ∧ w.heap[g]? = some (.cells cur e (0, 0)) ∧ All2 (CvRep w N val st) cs cur.toList
  | .dead, _, F => F = []

/-- What a name may become: the value stays; an owned row keeps its type and length. -/
def Compat : Ob → Ob → Prop
  | .sl _ _ _ _, .dead => True
  | .dead, .dead => True
  | .sl e t l _, .sl e' t' l' _ => e = e' ∧ t = t' ∧ l.length = l'.length
  | .rc _, .rc _ => True
  | _, _ => False

theorem NilOk.compat {n : Bool} {o o' : Ob} {v : Value} (h : NilOk n o v) (hc : Compat o o') : NilOk n o' v := fun hn => by
  refine (h hn).imp id fun h1 e t l k ho => ?_
  subst ho
  cases o with
  | sl e0 t0 l0 k0 =>
    obtain ⟨_, rfl, hl⟩ := hc
    intro h0
    subst h0
    exact h1 _ _ _ _ rfl (List.eq_nil_of_length_eq_zero hl)
  | rc _ => exact hc.elim
  | dead => exact hc.elim

theorem Compat.refl : ∀ o : Ob, Compat o o
  | .sl _ _ _ _ => ⟨rfl, rfl, rfl⟩
  | .rc _ => trivial
  | .dead => trivial

theorem Compat.trans : ∀ {a b c : Ob}, Compat a b → Compat b c → Compat a c
  | .sl _ _ _ _, .dead, .dead, _, _ => trivial
  | .dead, .dead, .dead, _, _ => trivial
  | .sl _ _ _ _, .sl _ _ _ _, .dead, _, _ => trivial
  | .sl _ _ _ _, .sl _ _ _ _, .sl _ _ _ _, ⟨h1, h2, h3⟩, ⟨k1, k2, k3⟩ => ⟨h1.trans k1, h2.trans k2, h3.trans k3⟩
  | .rc _, .rc _, .rc _, _, _ => trivial
  | .rc _, .sl _ _ _ _, _, h, _ => h.elim
  | .rc _, .dead, _, h, _ => h.elim
  | .sl _ _ _ _, .rc _, _, h, _ => h.elim
  | .dead, .sl _ _ _ _, _, h, _ => h.elim
  | .dead, .rc _, _, h, _ => h.elim
  | .rc _, .rc _, .sl _ _ _ _, _, h => h.elim
  | .rc _, .rc _, .dead, _, h => h.elim
  | .sl _ _ _ _, .sl _ _ _ _, .rc _, _, h => h.elim
  | .sl _ _ _ _, .dead, .sl _ _ _ _, _, h => h.elim
  | .sl _ _ _ _, .dead, .rc _, _, h => h.elim
  | .dead, .dead, .sl _ _ _ _, _, h => h.elim
  | .dead, .dead, .rc _, _, h => h.elim

/-- Names are kept. -/
def Stays (val val' : Nat → Value) (st st' : St) : Prop := ∀ y o, lk st y = some o → ∃ o', lk st' y = some o' ∧ Compat o o' ∧ val' y = val y

theorem Stays.refl (val : Nat → Value) (st : St) : Stays val val st st := fun _ o h => ⟨o, h, Compat.refl o, rfl⟩

theorem Stays.rc {val val' : Nat → Value} {st st' : St} (h : Stays val val' st st') {x : Nat} {cs : List CV} (hx : lk st x = some (.rc cs)) : ∃ cs', lk st' x = some (.rc cs') ∧ val' x = val x := by
  obtain ⟨o', h1, h2, h3⟩ := h x _ hx
  cases o' with
  | rc cs' => exact ⟨cs', h1, h3⟩
  | sl _ _ _ _ => exact h2.elim
  | dead => exact h2.elim

theorem fnCaps.kept {val val' : Nat → Value} {st st' : St} (h : Stays val val' st st') : ∀ {l : List Nat} {vs : List Value}, fnCaps val st l vs → fnCaps val' st' l vs
  | [], [], _ => trivial
  | _ :: _, _ :: _, ⟨⟨cs, g, h1, h2, h3⟩, hr⟩ => by
    obtain ⟨cs', k1, k2⟩ := h.rc h1
    exact ⟨⟨cs', g, k1, k2.trans h2, h3⟩, fnCaps.kept h hr⟩
  | [], _ :: _, h => h.elim
  | _ :: _, [], h => h.elim

theorem CvRep.kept {w w' : World} {N N' : Nat → Prop} {val val' : Nat → Value} {st st' : St} (k : Kept w w' N N') (h : Stays val val' st st') :
    ∀ {x : CV} {v : Value}, CvRep w N val st x v → CvRep w' N' val' st' x v
  | .int _ _, _, r => r
  | .bool _, _, r => r
  | .kb _, _, r => r
  | .str _, _, r => r
  | .nil, _, r => r
  | .imm t l, _, r => Imm.kept (t := .sl t) k r
  | .own x n, v, r => by
    obtain ⟨hs, o, h1, h2, hn⟩ := r
    obtain ⟨o', k1, k2, k3⟩ := h x o h1
    refine ⟨hs, o', k1, ?_, hn.compat k2⟩
    rcases h2 with rfl | rfl
    · cases o' with
      | dead => exact .inl rfl
      | sl _ _ _ _ => exact k2.elim
      | rc _ => exact k2.elim
    · exact .inr k3.symm
  | .iptr t d c, v, r => by
    obtain ⟨b, o, es, h1, h2, h3, h4, h5⟩ := r
    exact ⟨b, o, es, h1, fun hn => h2 (k.more b h3 hn), Nat.lt_of_lt_of_le h3 k.size, fun i hi => (k.cell (a := ⟨b, _, none⟩) h3 h2).trans (h4 i hi), h5.kept k⟩
  | .eptr x i c, v, r => by
    obtain ⟨hp, o, h1, h2⟩ := r
    obtain ⟨o', k1, k2, k3⟩ := h x o h1
    refine ⟨hp, o', k1, fun e t l kd ho => ?_⟩
    subst ho
    cases o with
    | sl e0 t0 l0 k0 =>
      obtain ⟨rfl, rfl, hl⟩ := k2
      obtain ⟨p1, p2, p3⟩ := h2 _ _ _ _ rfl
      rw [k3]
      exact ⟨p1, by rw [← hl]; exact p2, p3⟩
    | rc _ => exact k2.elim
    | dead => exact k2.elim
  | .ptr x c, v, r => by
    obtain ⟨cs, g, h1, h2, h3⟩ := r
    obtain ⟨cs', k1, k2⟩ := h.rc h1
    exact ⟨cs', g, k1, k2.trans h2, h3⟩
  | .view x i, v, r => by
    obtain ⟨hp, o, h1, h2⟩ := r
    obtain ⟨o', k1, k2, k3⟩ := h x o h1
    refine ⟨hp, o', k1, fun e t l kd ho => ?_⟩
    subst ho
    cases o with
    | sl e0 t0 l0 k0 =>
      obtain ⟨rfl, rfl, hl⟩ := k2
      obtain ⟨p1, p2, p3, p4⟩ := h2 _ _ _ _ rfl
      rw [k3, ← hl]
      exact ⟨p1, p2, p3, p4⟩
    | rc _ => exact k2.elim
    | dead => exact k2.elim
  | .fn f cap, v, r => by
    obtain ⟨vs, h1, h2⟩ := r
    exact ⟨vs, h1, h2.kept h⟩
  | .skip, _, r => r
  | .undef, _, _ => trivial

theorem All2.mono {α β : Type} {R R' : α → β → Prop} (h : ∀ {a b}, R a b → R' a b) : ∀ {l : List α} {m : List β}, All2 R l m → All2 R' l m
  | [], [], _ => trivial
  | _ :: _, _ :: _, ⟨h1, h2⟩ => ⟨h h1, All2.mono h h2⟩
  | [], _ :: _, h => h.elim
  | _ :: _, [], h => h.elim

theorem All2.length {α β : Type} {R : α → β → Prop} : ∀ {l : List α} {m : List β}, All2 R l m → l.length = m.length
  | [], [], _ => rfl
  | _ :: _, _ :: _, ⟨_, h2⟩ => congrArg (· + 1) (All2.length h2)
  | [], _ :: _, h => h.elim
  | _ :: _, [], h => h.elim

theorem All2.append {α β : Type} {R : α → β → Prop} : ∀ {l l' : List α} {m m' : List β}, All2 R l m → All2 R l' m' → All2 R (l ++ l') (m ++ m')
  | [], _, [], _, _, h => h
  | _ :: _, _, _ :: _, _, ⟨h1, h2⟩, h => ⟨h1, All2.append h2 h⟩
  | [], _, _ :: _, _, h, _ => h.elim
  | _ :: _, _, [], _, h, _ => h.elim

theorem All2.take {α β : Type} {R : α → β → Prop} : ∀ (n : Nat) {l : List α} {m : List β}, All2 R l m → All2 R (l.take n) (m.take n)
  | 0, _, _, _ => trivial
  | _ + 1, [], [], _ => trivial
  | n + 1, _ :: _, _ :: _, ⟨h1, h2⟩ => ⟨h1, All2.take n h2⟩
  | _ + 1, [], _ :: _, h => h.elim
  | _ + 1, _ :: _, [], h => h.elim

theorem All2.drop {α β : Type} {R : α → β → Prop} : ∀ (n : Nat) {l : List α} {m : List β}, All2 R l m → All2 R (l.drop n) (m.drop n)
  | 0, _, _, h => h
  | _ + 1, [], [], _ => trivial
  | n + 1, _ :: _, _ :: _, ⟨_, h2⟩ => All2.drop n h2
  | _ + 1, [], _ :: _, h => h.elim
  | _ + 1, _ :: _, [], h => h.elim

theorem All2.get {α β : Type} {R : α → β → Prop} : ∀ {l : List α} {m : List β}, All2 R l m → ∀ {i : Nat} {a : α}, l[i]? = some a → ∃ b, m[i]? = some b ∧ R a b
  | [], [], _, _, _, h => by simp at h
  | a :: l, b :: m, ⟨h1, h2⟩, 0, a', h => by simp at h; subst h; exact ⟨b, rfl, h1⟩
  | a :: l, b :: m, ⟨h1, h2⟩, i + 1, a', h => by
    obtain ⟨b', k1, k2⟩ := All2.get h2 (i := i) (by simpa using h)
    exact ⟨b', by simpa using k1, k2⟩
  | [], _ :: _, h, _, _, _ => h.elim
  | _ :: _, [], h, _, _, _ => h.elim

theorem Av1.kept {w w' : World} {N N' : Nat → Prop} {val val' : Nat → Value} {st st' : St} (k : Kept w w' N N') (h : Stays val val' st st') :
    ∀ {x : AV} {v : Value}, Av1 w N val st x v → Av1 w' N' val' st' x v
  | .c _, _, r => CvRep.kept k h r
  | .agg _, _, ⟨vs, h1, h2⟩ => ⟨vs, h1, h2.mono (CvRep.kept k h)⟩
  | .tup _, _, r => r.elim

theorem AvRep.kept {w w' : World} {N N' : Nat → Prop} {val val' : Nat → Value} {st st' : St} (k : Kept w w' N N') (h : Stays val val' st st') :
    ∀ {x : AV} {v : Value}, AvRep w N val st x v → AvRep w' N' val' st' x v
  | .c _, _, r => CvRep.kept k h r
  | .agg _, _, ⟨vs, h1, h2⟩ => ⟨vs, h1, h2.mono (CvRep.kept k h)⟩
  | .tup _, _, ⟨vs, h1, h2⟩ => ⟨vs, h1, h2.mono (Av1.kept k h)⟩

/-- An object whose own blocks are kept, too. -/
theorem ObRep.kept {w w' : World} {N N' : Nat → Prop} {val val' : Nat → Value} {st st' : St} (k : Kept w w' N N') (h : Stays val val' st st')
    {o : Ob} {v : Value} {F : List Nat} (hF : ∀ b ∈ F, w'.heap[b]? = w.heap[b]?) (r : ObRep w N val st o v F) : ObRep w' N' val' st' o v F := by
  match o with
  | .sl e t l .shallow =>
    obtain ⟨xs, h1, h2, h3⟩ := r
    refine ⟨xs, ⟨h1.1, ?_⟩, h2, fun j hj => (h3 j hj).kept k⟩
    rcases h1.2 with hn | ⟨g, cap, cur, rfl, hb, hg, rest⟩
    · exact .inl hn
    · exact .inr ⟨g, cap, cur, rfl, hb, (hF g (by rw [h2]; simp [Value.ownBlock])).trans hg, rest⟩
  | .sl _ t l .frozen => exact ⟨r.1, Imm.kept (t := .sl t) k r.2.1, r.2.2⟩
  | .sl e t l (.deep kn hh) =>
    obtain ⟨r0, e', xs, Fs, r1, r2, r3, r4⟩ := r
    refine ⟨?_, e', xs, Fs, r1, own_kept r2 (fun b hb => hF b ((r3.all b).2 (.inl hb))), r3, fun j hj => (r4 j hj).kept (fun b hb => hF b ((r3.all b).2 (.inr ⟨j, hj, hb⟩))) (fun q hq y hy => ?_)⟩
    · cases hh with
      | no => trivial
      | _ => rename_i i lo n base; exact ⟨r0.1, fun q hq y hy => by
          obtain ⟨o, ho⟩ := r0.2 q hq y hy
          obtain ⟨o', ho', _⟩ := h _ o ho
          exact ⟨o', ho'⟩⟩
    · cases hh with
      | no => cases hy
      | _ =>
        rename_i i lo n base
        simp only [holeAt] at hy
        split at hy
        · obtain ⟨o, ho⟩ := r0.2 q hq y hy
          obtain ⟨o', _, _, ho'⟩ := h _ o ho
          exact ho'
        · cases hy
  | .rc cs =>
    obtain ⟨g, cur, e, h1, h2, h3, h4⟩ := r
    exact ⟨g, cur, e, h1, h2, (hF g (by simp [h2])).trans h3, h4.mono (CvRep.kept k h)⟩
  | .dead => exact r

/-! ### The relation between a state of the evaluator and a frame in a world -/

structure Ctx where
  w0 : World
  X : Nat → Prop
  A : Nat → Prop
  n : Nat

def NoGo (X : Nat → Prop) (st : St) (fp : Nat → List Nat) (b : Nat) : Prop := X b ∨ ∃ x o, lk st x = some o ∧ b ∈ fp x

/-- What the call has done to the world so far: nothing but to the blocks of A, and to new ones. -/
structure Fr (w0 : World) (A : Nat → Prop) (w : World) : Prop where
  os : w.os = w0.os
  tape : w.tape = w0.tape
  output : w.output = w0.output
  size : w0.heap.size ≤ w.heap.size
  block : ∀ b, b < w0.heap.size → ¬ A b → w.heap[b]? = w0.heap[b]?

structure Objs (Γ : Ctx) (val : Nat → Value) (fp : Nat → List Nat) (st : St) (w : World) : Prop where
  fr : Fr Γ.w0 Γ.A w
  rep : ∀ x o, lk st x = some o → ObRep w (NoGo Γ.X st fp) val st o (val x) (fp x)
  own : ∀ x o, lk st x = some o → ∀ b ∈ fp x, b < w.heap.size ∧ ¬ Γ.X b ∧ (Γ.A b ∨ Γ.w0.heap.size ≤ b)
  apart : ∀ x y o o', x ≠ y → lk st x = some o → lk st y = some o' → ∀ b ∈ fp x, b ∉ fp y
  low : ∀ b, Γ.X b → b < Γ.w0.heap.size

structure Sim (Γ : Ctx) (val : Nat → Value) (fp : Nat → List Nat) (ρ : Env) (st : St) (a : Act) (w : World) : Prop extends Objs Γ val fp st w where
  defers : a.defers = []
  size : a.tmps.size = Γ.n
  env : ∀ t, AvRep w (NoGo Γ.X st fp) val st (ρ t) (a.tmps.getD t undef)

/-- A step of the world: the objects of S may have been written, or have gone; new ones may have come. -/
structure Step (Γ : Ctx) (val val' : Nat → Value) (fp fp' : Nat → List Nat) (st st' : St) (w w' : World) : Prop where
  objs : Objs Γ val' fp' st' w'
  kept : Kept w w' (NoGo Γ.X st fp) (NoGo Γ.X st' fp')
  stays : Stays val val' st st'

theorem Objs.step {Γ : Ctx} {val val' : Nat → Value} {fp fp' : Nat → List Nat} {st st' : St} {w w' : World} (h : Objs Γ val fp st w) (S : Nat → Prop)
    (hos : w'.os = w.os) (htape : w'.tape = w.tape) (hout' : w'.output = w.output) (hs : w.heap.size ≤ w'.heap.size)
    (hkeep : ∀ b, b < w.heap.size → (∀ x o, S x → lk st x = some o → b ∉ fp x) → w'.heap[b]? = w.heap[b]?)
    (hout : ∀ y o, lk st y = some o → ¬ S y → lk st' y = some o ∧ val' y = val y ∧ fp' y = fp y)
    (hin : ∀ y o, lk st y = some o → S y → ∃ o', lk st' y = some o' ∧ Compat o o' ∧ val' y = val y)
    (hfp : ∀ y o, lk st' y = some o → (lk st y = none ∨ S y) → ∀ b ∈ fp' y, b < w'.heap.size ∧ (b < w.heap.size → ∃ x o, S x ∧ lk st x = some o ∧ b ∈ fp x))
    (hdisj : ∀ y z o o', y ≠ z → lk st' y = some o → lk st' z = some o' → (lk st y = none ∨ S y) → (lk st z = none ∨ S z) → ∀ b ∈ fp' y, b ∉ fp' z)
    (hnew : Kept w w' (NoGo Γ.X st fp) (NoGo Γ.X st' fp') → Stays val val' st st' → ∀ y o, lk st' y = some o → (lk st y = none ∨ S y) → ObRep w' (NoGo Γ.X st' fp') val' st' o (val' y) (fp' y)) :
    Step Γ val val' fp fp' st st' w w' := by
  classical
  have hstay : Stays val val' st st' := fun y o hy => by
    by_cases hS : S y
    · exact hin y o hy hS
    · obtain ⟨h1, h2, _⟩ := hout y o hy hS
      exact ⟨o, h1, Compat.refl o, h2⟩
  have hw0 : Γ.w0.heap.size ≤ w.heap.size := h.fr.size
  have hmore : ∀ b, b < w.heap.size → NoGo Γ.X st' fp' b → NoGo Γ.X st fp b := by
    rintro b hb (hX | ⟨x, o, hx, hbx⟩)
    · exact .inl hX
    · by_cases hn : lk st x = none ∨ S x
      · obtain ⟨x', o', _, h1, h2⟩ := (hfp x o hx hn b hbx).2 hb
        exact .inr ⟨x', o', h1, h2⟩
      · obtain ⟨h1, h2⟩ := not_or.1 hn
        obtain ⟨o0, h0⟩ := Option.ne_none_iff_exists'.1 h1
        obtain ⟨_, _, k3⟩ := hout x o0 h0 h2
        exact .inr ⟨x, o0, h0, by rw [← k3]; exact hbx⟩
  have hkept : Kept w w' (NoGo Γ.X st fp) (NoGo Γ.X st' fp') := ⟨hs, fun b hb hn => hkeep b hb (fun x o hx hl hbx => hn (.inr ⟨x, o, hl, hbx⟩)), hmore⟩
  refine ⟨⟨⟨hos.trans h.fr.os, htape.trans h.fr.tape, hout'.trans h.fr.output, Nat.le_trans hw0 hs, fun b hb hA => ?_⟩, fun x o hx => ?_, fun x o hx b hb => ?_, fun x y o o' hne hx hy b hb => ?_, h.low⟩, hkept, hstay⟩
  · rw [hkeep b (by omega) (fun x o _ hl hbx => by
      rcases (h.own x o hl b hbx).2.2 with h1 | h1
      · exact hA h1
      · omega)]
    exact h.fr.block b hb hA
  · by_cases hn : lk st x = none ∨ S x
    · exact hnew hkept hstay x o hx hn
    · obtain ⟨h1, h2⟩ := not_or.1 hn
      obtain ⟨o0, h0⟩ := Option.ne_none_iff_exists'.1 h1
      obtain ⟨k1, k2, k3⟩ := hout x o0 h0 h2
      have : o = o0 := by rw [k1] at hx; exact (Option.some.inj hx).symm
      subst this
      rw [k2, k3]
      refine ObRep.kept hkept hstay (fun b hb => hkeep b (h.own x o h0 b hb).1 (fun z oz hz hlz hbz => ?_)) (h.rep x o h0)
      exact h.apart x z o oz (fun e => h2 (e ▸ hz)) h0 hlz b hb hbz
  · by_cases hn : lk st x = none ∨ S x
    · obtain ⟨k1, k2⟩ := hfp x o hx hn b hb
      refine ⟨k1, ?_⟩
      by_cases hlt : b < w.heap.size
      · obtain ⟨x', o', _, h1, h2⟩ := k2 hlt
        exact (h.own x' o' h1 b h2).2
      · exact ⟨fun hX => hlt (Nat.lt_of_lt_of_le (h.low b hX) hw0), .inr (by omega)⟩
    · obtain ⟨h1, h2⟩ := not_or.1 hn
      obtain ⟨o0, h0⟩ := Option.ne_none_iff_exists'.1 h1
      obtain ⟨_, _, k3⟩ := hout x o0 h0 h2
      rw [k3] at hb
      obtain ⟨p1, p2⟩ := h.own x o0 h0 b hb
      exact ⟨Nat.lt_of_lt_of_le p1 hs, p2⟩
  · -- the blocks stay apart
    have old : ∀ z oz, lk st' z = some oz → ¬ (lk st z = none ∨ S z) → ∃ o0, lk st z = some o0 ∧ ¬ S z ∧ fp' z = fp z := fun z oz _ hn => by
      obtain ⟨h1, h2⟩ := not_or.1 hn
      obtain ⟨o0, h0⟩ := Option.ne_none_iff_exists'.1 h1
      exact ⟨o0, h0, h2, (hout z o0 h0 h2).2.2⟩
    by_cases hnx : lk st x = none ∨ S x
    · by_cases hny : lk st y = none ∨ S y
      · exact hdisj x y o o' hne hx hy hnx hny b hb
      · obtain ⟨oy, hy0, hyS, hfy⟩ := old y o' hy hny
        rw [hfy]
        intro hby
        have hlt := (h.own y oy hy0 b hby).1
        obtain ⟨z, oz, hz, hlz, hbz⟩ := (hfp x o hx hnx b hb).2 hlt
        exact h.apart z y oz oy (fun e => hyS (e ▸ hz)) hlz hy0 b hbz hby
    · obtain ⟨ox, hx0, hxS, hfx⟩ := old x o hx hnx
      rw [hfx] at hb
      by_cases hny : lk st y = none ∨ S y
      · intro hby
        have hlt := (h.own x ox hx0 b hb).1
        obtain ⟨z, oz, hz, hlz, hbz⟩ := (hfp y o' hy hny b hby).2 hlt
        exact h.apart z x oz ox (fun e => hxS (e ▸ hz)) hlz hx0 b hbz hb
      · obtain ⟨oy, hy0, hyS, hfy⟩ := old y o' hy hny
        rw [hfy]
        exact h.apart x y ox oy hne hx0 hy0 b hb

theorem Sim.step {Γ : Ctx} {val val' : Nat → Value} {fp fp' : Nat → List Nat} {ρ : Env} {st st' : St} {a : Act} {w w' : World} (h : Sim Γ val fp ρ st a w) (s : Step Γ val val' fp fp' st st' w w') :
    Sim Γ val' fp' ρ st' a w' :=
  { toObjs := s.objs, defers := h.defers, size := h.size, env := fun t => (h.env t).kept s.kept s.stays }

theorem getD_set (l : Array Value) (d t : Nat) (v u : Value) : (l.setIfInBounds d v).getD t u = if d = t ∧ t < l.size then v else l.getD t u := by
  simp only [Array.getD_eq_getD_getElem?, Array.getElem?_setIfInBounds]
  by_cases h1 : d = t
  · subst h1
    by_cases h2 : d < l.size
    · simp [h2]
    · simp [h2]
  · simp [h1]

theorem upd_eq (ρ : Env) (d : Nat) (v : AV) (t : Nat) : upd ρ d v t = if t = d then v else ρ t := by
  unfold upd
  cases h : Nat.beq t d
  · rw [if_neg (fun e => by rw [beq_lk.2 e] at h; cases h)]
  · rw [if_pos (beq_lk.1 h)]

theorem Sim.put {Γ : Ctx} {val : Nat → Value} {fp : Nat → List Nat} {ρ : Env} {st : St} {a : Act} {w : World} (h : Sim Γ val fp ρ st a w) {d : Option Nat} (hd : dstOk Γ.n d = true) {x : AV} {v : Value}
    (hx : AvRep w (NoGo Γ.X st fp) val st x v) : Sim Γ val fp (putE ρ d x) st (a.put d v) w := by
  cases d with
  | none => exact h
  | some d =>
    have hd' : d < Γ.n := by
      simp only [dstOk] at hd
      exact of_decide_eq_true (by simpa [Nat.blt_eq] using hd)
    refine { toObjs := h.toObjs, defers := h.defers, size := by simpa [Act.put] using h.size, env := fun t => ?_ }
    simp only [putE, Act.put]
    rw [upd_eq, getD_set]
    by_cases e : t = d
    · subst e; rw [if_pos rfl, if_pos ⟨rfl, by rw [h.size]; exact hd'⟩]; exact hx
    · rw [if_neg e, if_neg (fun k => e k.1.symm)]; exact h.env t

theorem Sim.upd_env {Γ : Ctx} {val : Nat → Value} {fp : Nat → List Nat} {ρ : Env} {st : St} {a : Act} {w : World} (h : Sim Γ val fp ρ st a w) {d : Nat} {x : AV}
    (hx : AvRep w (NoGo Γ.X st fp) val st x (a.tmps.getD d undef)) : Sim Γ val fp (upd ρ d x) st a w := by
  refine { toObjs := h.toObjs, defers := h.defers, size := h.size, env := fun t => ?_ }
  rw [upd_eq]
  by_cases e : t = d
  · subst e; rw [if_pos rfl]; exact hx
  · rw [if_neg e]; exact h.env t

end Go.AE
