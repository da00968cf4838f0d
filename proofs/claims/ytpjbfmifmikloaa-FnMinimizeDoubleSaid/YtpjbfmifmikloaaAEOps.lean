/-
  Each operation of the evaluator against the model's: those that leave the world as it is.
-/
import Derived.Test.YtpjbfmifmikloaaAESim
namespace Go.AE
open Go

def zeroVals : Ty → List Value
  | .int k => [.int k 0]
  | .bool => [.bool false]
  | .str => [.string ⟨#[]⟩]
  | .sl _ => [.slice none 0 0]
  | .pair a b => zeroVals a ++ zeroVals b

def scalarDesc : Ty → TypeDesc → Prop
  | .int k, d => d = .int k
  | .bool, d => d = .bool
  | .str, d => d = .string
  | .sl _, d => ∃ e, d = .slice e
  | .pair _ _, d => ∃ fs, d = .struct fs

/-- No integers but of the kinds that the evaluator reckons with. -/
def fine : Ty → Bool
  | .int k => same k k
  | .sl t => fine t
  | .pair a b => fine a && fine b
  | _ => true

/-- What a text's tables say is so in the program. -/
structure TysOk (P : Program) (y : Tys) : Prop where
  ty : ∀ id t, lk y.ty id = some t → ∃ i z d, P.info? id = some i ∧ i.size = t.size ∧ i.zero = some z ∧ z.cells.toList = zeroVals t ∧ i.bytes ≤ 256 ∧ P.underlying id = some d ∧ scalarDesc t d ∧ fine t = true
  ag : ∀ id b, lk y.ag id = some b → ∃ d, P.underlying id = some d ∧ (match d with | .struct _ => true | .array _ _ => true | _ => false) = b
  el : ∀ s e, lk y.el s = some e → P.underlying s = some (.slice e)
  eq : ∀ t, y.eq.any (Nat.beq t) = true → ∀ (X Y : Operand) (a b c d : Int) (w : World), (do eqGuard .eql t X Y (.agg #[.int .i64 a, .int .i64 b]) (.agg #[.int .i64 c, .int .i64 d]); binOp .eql t (.agg #[.int .i64 a, .int .i64 b]) (.agg #[.int .i64 c, .int .i64 d]) : Sem Value).run P w = .ok (.bool (a == c && b == d)) w ∧
    (do eqGuard .neq t X Y (.agg #[.int .i64 a, .int .i64 b]) (.agg #[.int .i64 c, .int .i64 d]); binOp .neq t (.agg #[.int .i64 a, .int .i64 b]) (.agg #[.int .i64 c, .int .i64 d]) : Sem Value).run P w = .ok (.bool (!(a == c && b == d))) w
  fl : ∀ s l, lk y.fl s = some l → ∃ fs, P.underlying s = some (.struct fs) ∧ fs.size = l.length ∧ ∀ (i off : Nat) (ty : TypeId), (l : List (Nat × TypeId))[i]? = some (off, ty) → ∃ f : Field, fs[i]? = some f ∧ f.offset = off ∧ f.type = ty ∧ ∃ j, P.info? ty = some j ∧ j.size ≠ 0

section
variable {P : Program} {C : Cfg} {Γ : Ctx} {val : Nat → Value} {fp : Nat → List Nat} {ρ : Env} {st : St} {a : Act} {w : World} {o : Oper} {K : Act → World → Prop} {Q : Exit → Act → World → Prop}

theorem wp_val {s : Sem Value} {v : Value} {w' : World} (hs : execOp a.eval o = (do pure (.value (← s)))) (hr : s.run P w = .ok v w') (hK : K (a.put o.dst v) w') : o.wp P a w K Q := by
  unfold Oper.wp
  rw [hs]
  simp only [Sem.run_bind, hr, Result.andThen_ok, Sem.run_pure]
  exact hK

theorem wp_pure {v : Value} (hs : execOp a.eval o = pure (.value v)) (hK : K (a.put o.dst v) w) : o.wp P a w K Q := by
  unfold Oper.wp
  rw [hs]
  exact hK

/-- In every world that meets S the operation yields one value, which what follows takes. -/
def OpY (P : Program) (o : Oper) (a : Act) (S : World → Prop) (w : World) (K : Act → World → Prop) : Prop :=
  ∃ v, (∀ w1, S w1 → (execOp a.eval o).run P w1 = .ok (.value v) w1) ∧ K (a.put o.dst v) w
/-- In whatever world. -/
abbrev OpT (P : Program) (o : Oper) (a : Act) (w : World) (K : Act → World → Prop) : Prop := OpY P o a (fun _ => True) w K

theorem OpY.wp {S : World → Prop} (h : OpY P o a S w K) (hS : S w) : o.wp P a w K Q := by
  obtain ⟨v, h1, h2⟩ := h
  unfold Oper.wp
  rw [h1 w hS]
  exact h2

theorem y_val {S : World → Prop} {s : Sem Value} {v : Value} (hs : execOp a.eval o = (do pure (.value (← s)))) (hr : ∀ w1, S w1 → s.run P w1 = .ok v w1) (hK : K (a.put o.dst v) w) : OpY P o a S w K :=
  ⟨v, fun w1 h1 => by rw [hs]; simp only [Sem.run_bind, hr w1 h1, Result.andThen_ok, Sem.run_pure], hK⟩

theorem y_pure {S : World → Prop} {v : Value} (hs : execOp a.eval o = pure (.value v)) (hK : K (a.put o.dst v) w) : OpY P o a S w K := ⟨v, fun w1 _ => by rw [hs]; rfl, hK⟩

theorem wp_unit {s : Sem Unit} {w' : World} (hs : execOp a.eval o = (do s; pure .skip)) (hr : s.run P w = .ok () w') (hK : K (a.put o.dst undef) w') : o.wp P a w K Q := by
  unfold Oper.wp
  rw [hs]
  simp only [Sem.run_bind, hr, Result.andThen_ok, Sem.run_pure]
  exact hK

theorem of_eq_true_blt {a b : Nat} (h : Nat.blt a b = true) : a < b := by simpa [Nat.blt_eq] using h

theorem inRb_spec : ∀ {k : IntKind} {n : Int}, inRb k n = true → inR k n
  | .i64, .ofNat n, h => by have h : n < _ := of_eq_true_blt h; simp only [inR, Int.ofNat_eq_natCast]; omega
  | .i64, .negSucc n, h => by have h : n < _ := of_eq_true_blt h; simp only [inR]; omega
  | .u8, .ofNat n, h => by have h : n < _ := of_eq_true_blt h; simp only [inR, Int.ofNat_eq_natCast]; omega
  | .u64, .ofNat n, h => by have h : n < _ := of_eq_true_blt h; simp only [inR, Int.ofNat_eq_natCast]; omega

theorem const_rep {N : Nat → Prop} (v : Value) : CvRep w N val st (constCV v) v := by
  unfold constCV
  split
  · rename_i k n
    split
    · rename_i h
      exact ⟨rfl, inRb_spec h⟩
    · trivial
  · rfl
  · rfl
  · rename_i s; cases s; simp [CvRep]
  · trivial

theorem ev1_rep (h : Sim Γ val fp ρ st a w) (x : Operand) : AvRep w (NoGo Γ.X st fp) val st (ev1 ρ x) (a.eval x) := by
  cases x with
  | tmp t => exact h.env t
  | const v => exact const_rep v
  | func f => exact ⟨#[], rfl, trivial⟩
  | global g => trivial

theorem same_eq : ∀ {k k' : IntKind}, same k k' = true → k = k'
  | .i64, .i64, _ => rfl
  | .u8, .u8, _ => rfl
  | .u64, .u64, _ => rfl

theorem wrap_in : ∀ {k : IntKind} {n : Int}, inR k n → k.wrap n = n
  | .i64, n, h => IntWalk.i64_in n h
  | .u8, n, h => IntWalk.u8_in n h
  | .u64, n, h => IntWalk.u64_in n h
  | .i8, _, h => h.elim
  | .i16, _, h => h.elim
  | .i32, _, h => h.elim
  | .u16, _, h => h.elim
  | .u32, _, h => h.elim

/-- What an effect asks, and what it gives: of the values that the evaluator may go on with, one stands for what the operation has left. -/
def Good (e : Eff) (k : AV → St → Prop) (av : AV) (st' : St) : Prop := effK e k → k av st'

theorem bool_rep {N : Nat → Prop} {x : AV} {b : Bool} {v : Value} (hb : boolOf x = some b) (h : AvRep w N val st x v) : v = .bool b := by
  cases x with
  | c x => cases x <;> simp [boolOf] at hb <;> (subst hb; exact h)
  | agg l => simp [boolOf] at hb
  | tup l => simp [boolOf] at hb

theorem int_rep {N : Nat → Prop} {k : IntKind} {n : Int} {v : Value} (h : AvRep w N val st (.c (.int k n)) v) : v = .int k n ∧ inR k n := h

theorem tdiv_pos {a b : Int} (ha : 0 ≤ a) : a.tdiv b = a / b := Int.tdiv_eq_ediv_of_nonneg ha
theorem div_in {k : IntKind} {a b : Int} (h : inR k a) (hb : 1 ≤ b) (ha : 0 ≤ a) : inR k (a / b) := by
  have h1 : 0 ≤ a / b := Int.ediv_nonneg ha (by omega)
  have h2 : a / b ≤ a := Int.ediv_le_self _ ha
  cases k <;> simp only [inR] at h ⊢ <;> omega
theorem mod_in {k : IntKind} {a b : Int} (h : inR k a) (hb : 1 ≤ b) (ha : 0 ≤ a) : inR k (a % b) := by
  have h1 : 0 ≤ a % b := Int.emod_nonneg _ (by omega)
  have h2 : a % b ≤ a := by
    rcases Int.lt_or_le a b with hl | hl
    · rw [Int.emod_eq_of_lt ha hl]; exact Int.le_refl _
    · have := Int.emod_lt_of_pos a (show 0 < b by omega); omega
  cases k <;> simp only [inR] at h ⊢ <;> omega

theorem mk_int {N : Nat → Prop} {k : IntKind} {n : Int} {v : Value} (h : inR k n) (e : v = .int k n) : AvRep w N val st (.c (.int k n)) v := And.intro e h
theorem mk_bool {N : Nat → Prop} {b : Bool} {v : Value} (e : v = .bool b) : AvRep w N val st (.c (.bool b)) v := e

theorem xor_i64 {a b : Int} (ha : inR .i64 a) (hb : inR .i64 b) (h1 : 0 ≤ a) (h2 : 0 ≤ b) : inR .i64 ((a.toNat ^^^ b.toNat : Nat) : Int) ∧ (BitVec.ofInt IntKind.i64.bits a ^^^ BitVec.ofInt IntKind.i64.bits b).toNat = a.toNat ^^^ b.toNat := by
  simp only [inR] at ha hb ⊢
  have hx : a.toNat ^^^ b.toNat < 2 ^ 63 := Nat.xor_lt_two_pow (by omega) (by omega)
  have e : ∀ n : Int, 0 ≤ n → n ≤ 9223372036854775807 → (BitVec.ofInt IntKind.i64.bits n).toNat = n.toNat := fun n q1 q2 => by
    show (BitVec.ofInt 64 n).toNat = _
    obtain ⟨A, rfl⟩ := Int.eq_ofNat_of_zero_le q1
    rw [BitVec.ofInt_natCast, BitVec.toNat_ofNat]
    rw [Nat.mod_eq_of_lt (by omega)]
    rfl
  refine ⟨⟨by omega, by omega⟩, ?_⟩
  rw [BitVec.toNat_xor, e a h1 ha.2, e b h2 hb.2]

theorem and_i64 {a b : Int} (ha : inR .i64 a) (hb : inR .i64 b) (h1 : 0 ≤ a) (h2 : 0 ≤ b) : inR .i64 ((a.toNat &&& b.toNat : Nat) : Int) ∧ (BitVec.ofInt IntKind.i64.bits a &&& BitVec.ofInt IntKind.i64.bits b).toNat = a.toNat &&& b.toNat := by
  simp only [inR] at ha hb ⊢
  have hx : a.toNat &&& b.toNat ≤ a.toNat := Nat.and_le_left
  have e : ∀ n : Int, 0 ≤ n → n ≤ 9223372036854775807 → (BitVec.ofInt IntKind.i64.bits n).toNat = n.toNat := fun n q1 q2 => by
    show (BitVec.ofInt 64 n).toNat = _
    obtain ⟨A, rfl⟩ := Int.eq_ofNat_of_zero_le q1
    rw [BitVec.ofInt_natCast, BitVec.toNat_ofNat]
    rw [Nat.mod_eq_of_lt (by omega)]
    rfl
  refine ⟨⟨by omega, by omega⟩, ?_⟩
  rw [BitVec.toNat_and, e a h1 ha.2, e b h2 hb.2]

theorem w64_in (n : Int) : inR .i64 (w64 n) := by
  unfold w64
  rw [IntKind.wrap_i64]
  simp only [inR]
  omega

theorem w64_eq (n : Int) (h : inR .i64 n) : w64 n = n := by
  unfold w64
  exact wrap_in h

theorem wrap_run {N : Nat → Prop} {op : BinOp} {t : TypeId} {x y : AV} {u v : Value} {k : AV → St → Prop} {X Y : Operand}
    (hx : AvRep w N val st x u) (hy : AvRep w N val st y v) (he : effK (evWrap op x y st) k) :
    ∃ av r, (∀ w1, (do eqGuard op t X Y u v; binOp op t u v : Sem Value).run P w1 = .ok r w1) ∧ AvRep w N val st av r ∧ k av st := by
  unfold evWrap at he
  split at he
  · rename_i a b
    obtain ⟨rfl, ha⟩ := int_rep hx
    obtain ⟨rfl, hb⟩ := int_rep hy
    have e : ∀ n, IntKind.i64.wrap n = w64 n := fun n => by unfold w64; rfl
    split at he
    · exact ⟨.c (.int .i64 (w64 (a + b))), .int .i64 (IntKind.i64.wrap (a + b)), fun w1 => by simp [go_sem, Op.intArith], mk_int (w64_in _) (by rw [e]), he⟩
    · exact ⟨.c (.int .i64 (w64 (a - b))), .int .i64 (IntKind.i64.wrap (a - b)), fun w1 => by simp [go_sem, Op.intArith], mk_int (w64_in _) (by rw [e]), he⟩
    · exact ⟨.c (.int .i64 (w64 (a * b))), .int .i64 (IntKind.i64.wrap (a * b)), fun w1 => by simp [go_sem, Op.intArith], mk_int (w64_in _) (by rw [e]), he⟩
    · exact he.elim
  · exact he.elim

/-- An operator on two integers or two bools. -/
theorem bin_run {N : Nat → Prop} {op : BinOp} {t : TypeId} {x y : AV} {u v : Value} {k : AV → St → Prop} {X Y : Operand}
    (ht : ∀ b, boolOf x = some b → P.underlying t = some .bool)
    (hx : AvRep w N val st x u) (hy : AvRep w N val st y v) (he : effK (evBin op x y st) k) :
    ∃ av r, (∀ w1, (do eqGuard op t X Y u v; binOp op t u v : Sem Value).run P w1 = .ok r w1) ∧ AvRep w N val st av r ∧ k av st := by
  unfold evBin at he
  split at he
  · rename_i k1 a k2 b
    obtain ⟨rfl, ha⟩ := int_rep hx
    obtain ⟨rfl, hb⟩ := int_rep hy
    split at he
    · rename_i hs
      have hs := same_eq hs
      subst hs
      split at he
      · exact ⟨.c (.int k1 (a + b)), .int k1 (k1.wrap (a + b)), fun w1 => by simp [go_sem, Op.intArith], mk_int he.1 (by rw [wrap_in he.1]), he.2⟩
      · exact ⟨.c (.int k1 (a - b)), .int k1 (k1.wrap (a - b)), fun w1 => by simp [go_sem, Op.intArith], mk_int he.1 (by rw [wrap_in he.1]), he.2⟩
      · exact ⟨.c (.int k1 (a * b)), .int k1 (k1.wrap (a * b)), fun w1 => by simp [go_sem, Op.intArith], mk_int he.1 (by rw [wrap_in he.1]), he.2⟩
      · exact ⟨.c (.bool (decide (a < b))), .bool (decide (a < b)), fun w1 => by simp [go_sem], mk_bool rfl, he⟩
      · exact ⟨.c (.bool (decide (a ≤ b))), .bool (decide (a ≤ b)), fun w1 => by simp [go_sem], mk_bool rfl, he⟩
      · exact ⟨.c (.bool (decide (b < a))), .bool (decide (b < a)), fun w1 => by simp [go_sem], mk_bool rfl, he⟩
      · exact ⟨.c (.bool (decide (b ≤ a))), .bool (decide (b ≤ a)), fun w1 => by simp [go_sem], mk_bool rfl, he⟩
      · exact ⟨.c (.bool (a == b)), .bool (a == b), fun w1 => by simp [go_sem], mk_bool rfl, he⟩
      · exact ⟨.c (.bool (a != b)), .bool (a != b), fun w1 => by simp [go_sem], mk_bool rfl, he⟩
      · obtain ⟨⟨h1, h2⟩, hk⟩ := he
        have hne : b ≠ 0 := by omega
        have hi := div_in ha h1 h2
        exact ⟨.c (.int k1 (a / b)), .int k1 (k1.wrap (a.tdiv b)), fun w1 => by simp [go_sem, Op.intDiv, hne], mk_int hi (by rw [tdiv_pos h2, wrap_in hi]), hk⟩
      · obtain ⟨⟨h1, h2⟩, hk⟩ := he
        have hne : b ≠ 0 := by omega
        have hi := mod_in ha h1 h2
        exact ⟨.c (.int k1 (a % b)), .int k1 (a.tmod b), fun w1 => by simp [go_sem, Op.intDiv, hne], mk_int hi (by rw [Int.tmod_eq_emod_of_nonneg h2]), hk⟩
      · split at he
        · obtain ⟨⟨h1, h2⟩, hk⟩ := he
          obtain ⟨e1, e2⟩ := xor_i64 ha hb h1 h2
          exact ⟨.c (.int .i64 ((a.toNat ^^^ b.toNat : Nat) : Int)), .int .i64 (IntKind.i64.wrap ((BitVec.ofInt IntKind.i64.bits a ^^^ BitVec.ofInt IntKind.i64.bits b).toNat : Int)), fun w1 => by simp [go_sem, Op.intBits], mk_int e1 (by rw [e2, wrap_in e1]), hk⟩
        · exact he.elim
      · split at he
        · obtain ⟨⟨h1, h2⟩, hk⟩ := he
          obtain ⟨e1, e2⟩ := and_i64 ha hb h1 h2
          exact ⟨.c (.int .i64 ((a.toNat &&& b.toNat : Nat) : Int)), .int .i64 (IntKind.i64.wrap ((BitVec.ofInt IntKind.i64.bits a &&& BitVec.ofInt IntKind.i64.bits b).toNat : Int)), fun w1 => by simp [go_sem, Op.intBits], mk_int e1 (by rw [e2, wrap_in e1]), hk⟩
        · exact he.elim
      · split at he
        · obtain ⟨⟨⟨h1, h2⟩, h3⟩, hk⟩ := he
          have hneg : ¬ b < 0 := by omega
          have hm : min b.toNat 64 = b.toNat := by omega
          exact ⟨.c (.int .i64 (a * 2 ^ b.toNat)), .int .i64 (IntKind.i64.wrap (a * 2 ^ min b.toNat 64)), fun w1 => by simp [go_sem, hm], mk_int h3 (by rw [hm, wrap_in h3]), hk⟩
        · exact he.elim
      · split at he
        · obtain ⟨⟨⟨h1, h2⟩, h3⟩, hk⟩ := he
          have hneg : ¬ b < 0 := by omega
          have hm : min b.toNat 64 = b.toNat := by omega
          have hp : (1 : Int) ≤ 2 ^ b.toNat := by
            have := Int.pow_pos (n := 2) (m := b.toNat) (by omega)
            omega
          have hi := div_in ha hp h3
          exact ⟨.c (.int .i64 (a / 2 ^ b.toNat)), .int .i64 (a.fdiv (2 ^ min b.toNat 64)), fun w1 => by simp [go_sem, hm]; rw [Int.fdiv_eq_ediv_of_nonneg _ (by omega)], mk_int hi (by rw [hm, Int.fdiv_eq_ediv_of_nonneg _ (by omega)]), hk⟩
        · exact he.elim
      · exact he.elim
    · exact he.elim
  · split at he
    · rename_i a b h1 h2
      have hu := ht _ h1
      obtain rfl := bool_rep h1 hx
      obtain rfl := bool_rep h2 hy
      split at he
      · exact ⟨.c (.bool (a == b)), .bool (a == b), fun w1 => by simp [go_sem, run_eql_bool w1 t a b hu], mk_bool rfl, he⟩
      · exact ⟨.c (.bool (a != b)), .bool (a != b), fun w1 => by simp [go_sem, run_neq_bool w1 t a b hu]; cases a <;> cases b <;> rfl, mk_bool rfl, he⟩
      · exact he.elim
    · exact he.elim

/-! ### Reading -/

theorem toCV_rep {N : Nat → Prop} : ∀ {t : Ty} {d : t.den} {es : List Value}, Imm w N t d es → All2 (CvRep w N val st) (toCV t d) es
  | .int k, n, es, h => by
    obtain ⟨rfl, h⟩ := h
    exact ⟨⟨rfl, h⟩, trivial⟩
  | .bool, b, es, h => by
    rw [show es = _ from h]
    exact ⟨rfl, trivial⟩
  | .str, s, es, h => by
    rw [show es = _ from h]
    exact ⟨rfl, trivial⟩
  | .sl t, l, es, h => by
    obtain ⟨a, cap, rfl, h'⟩ := h
    exact ⟨⟨a, cap, rfl, h'⟩, trivial⟩
  | .pair a b, d, es, h => by
    obtain ⟨c1, c2, rfl, h1, h2⟩ := h
    exact (toCV_rep h1).append (toCV_rep h2)

theorem imm_at {N : Nat → Prop} {t : Ty} {l : List t.den} {v : Value} (h : Imm w N (.sl t) l [v]) {i : Nat} (hi : i < l.length) :
    ∃ b o cap es, v = .slice (some ⟨b, o, none⟩) l.length cap ∧ ¬ N b ∧ b < w.heap.size ∧ (∀ c, c < t.size → w.cell? ⟨b, o + i * t.size + c, none⟩ = es[c]?) ∧ Imm w N t l[i] es := by
  obtain ⟨a, cap, hv, _, _, h3⟩ := h
  obtain ⟨b, o, rfl, hn, hb, he⟩ := h3 (by omega)
  obtain ⟨es, h4, h5⟩ := he i hi
  exact ⟨b, o, cap, es, by simpa using hv, hn, hb, h4, h5⟩

theorem imm_len {N : Nat → Prop} {t : Ty} {l : List t.den} {v : Value} (h : Imm w N (.sl t) l [v]) : ∃ a cap, v = .slice a l.length cap ∧ l.length ≤ cap ∧ cap ≤ maxLen := by
  obtain ⟨a, cap, hv, h1, h2, _⟩ := h
  exact ⟨a, cap, by simpa using hv, h1, h2⟩

theorem len_in {n : Nat} (h : n ≤ maxLen) : inR .i64 (n : Int) := by
  simp only [inR, maxLen] at *
  omega

theorem asAV_spec {n : Nat} {ag : Bool} {l : List CV} {v : AV} (h : asAV n ag l = some v) : l.length = n ∧ ((ag = true ∧ v = .agg l) ∨ (ag = false ∧ ∃ x, l = [x] ∧ v = .c x)) := by
  unfold asAV at h
  split at h
  · rename_i h1
    have h1 := beq_lk.1 h1
    refine ⟨h1, ?_⟩
    cases ag
    · dsimp only at h
      split at h
      · exact .inr ⟨rfl, _, rfl, by simpa using h.symm⟩
      · cases h
    · exact .inl ⟨rfl, by simpa using h.symm⟩
  · cases h

theorem run_loadAtS (hT : TysOk P C.y) {ty : TypeId} {t : Ty} {ag : Bool} (h1 : lk C.y.ty ty = some t) (h2 : lk C.y.ag ty = some ag) {b o : Nat} {vs : List Value} {cs : List CV} {N : Nat → Prop} {av : AV}
    (hav : asAV t.size ag cs = some av) (hr : All2 (CvRep w N val st) cs vs) (hc0 : ∀ i, i < t.size → w.cell? ⟨b, o + i, none⟩ = vs[i]?) :
    ∃ v, (∀ w1 : World, (∀ i, i < t.size → w1.cell? ⟨b, o + i, none⟩ = vs[i]?) → (Instr.loadAt ty (.pointer (some ⟨b, o, none⟩))).run P w1 = .ok v w1) ∧ AvRep w N val st av v := by
  obtain ⟨i, z, d, hi, hsz, _, _, _, hu, _⟩ := hT.ty ty t h1
  obtain ⟨d', hu', hag⟩ := hT.ag ty ag h2
  rw [hu] at hu'
  obtain rfl := Option.some.inj hu'
  obtain ⟨hl, hcase⟩ := asAV_spec hav
  have hlen : vs.length = t.size := by rw [← hr.length]; exact hl
  have hisagg : ∀ w1, (isAgg ty).run P w1 = .ok ag w1 := fun w1 => by
    unfold isAgg
    simp only [Sem.run_bind, run_underlying hu, Result.andThen_ok]
    cases d <;> simp at hag <;> subst hag <;> rfl
  have hsize : ∀ w1, (sizeOf ty).run P w1 = .ok t.size w1 := fun w1 => by simp [sizeOf, typeInfo, hi, hsz]
  rcases hcase with ⟨rfl, rfl⟩ | ⟨rfl, x, rfl, rfl⟩
  · refine ⟨.agg vs.toArray, fun w1 hc => ?_, vs.toArray, rfl, by simpa using hr⟩
    have hload := run_loadCells_list (P := P) w1 ⟨b, o, none⟩ vs (fun j v hj => by
      have hj' : j < vs.length := (List.getElem?_eq_some_iff.1 hj).1
      rw [Addr.add_lit, hc j (by omega)]; exact hj)
    rw [hlen] at hload
    simp [Instr.loadAt, Instr.sureAddr, loadVar, hisagg, hsize, hload]
  · match vs, hr with
    | [v], hr =>
      refine ⟨v, fun w1 hc => ?_, hr.1⟩
      have h0 := hc 0 (t.size_pos)
      simp at h0
      simp [Instr.loadAt, Instr.sureAddr, loadVar, hisagg, h0]

theorem run_loadAt' (hT : TysOk P C.y) {ty : TypeId} {t : Ty} {ag : Bool} (h1 : lk C.y.ty ty = some t) (h2 : lk C.y.ag ty = some ag) {b o : Nat} {vs : List Value} {cs : List CV} {N : Nat → Prop} {av : AV}
    (hav : asAV t.size ag cs = some av) (hr : All2 (CvRep w N val st) cs vs) (hc : ∀ i, i < t.size → w.cell? ⟨b, o + i, none⟩ = vs[i]?) :
    ∃ v, (Instr.loadAt ty (.pointer (some ⟨b, o, none⟩))).run P w = .ok v w ∧ AvRep w N val st av v := by
  obtain ⟨v, h3, h4⟩ := run_loadAtS (P := P) hT h1 h2 hav hr hc
  exact ⟨v, h3 w hc, h4⟩

end
end Go.AE
