/-
  The abstract evaluator and its soundness, in one text. No conditions.
-/
import Derived.Test.YtaeeiddjpigemaaGreatAEx2
import Derived.Still
import Derived.Lib.MinMax
import Derived.Deep.LoopGhost
import Derived.OrdersHeld
import Derived.KernelRfl
import Derived.Laws.StructEq
import Derived.ChangeKeysEq
import Derived.Shelf.Sort.Plain
import Derived.Shelf.Slices.In.SortNone
import Derived.Shelf.SlSortCmp.NoneTotal
import Derived.ProofKit
import Derived.Deep.Slices
import Derived.WalkKit
import Derived.OpenShut
namespace Go.AE
open Go Go.RowKit
section
variable {P:Program} {C:Cfg} {Γ:Ctx} {val val' val'':Nat→Value} {fp fp' fp'':Nat→List Nat} {ρ:Env} {st st' st'':St} {a:Act} {w w' w'':World} {o:Oper} {k:AV→St→Prop} {K:Act→World→Prop} {Q:Exit→Act→World→Prop}
theorem Zup {N:Nat→Prop} {t:Ty} {l:List t.den} {A:Option Addr} {n cap lo hi:Nat} (h:Imm w N (.sl t) l [.slice A n cap]) (h1:lo≤hi) (h2:hi≤l.length):Imm w N (.sl t) ((l.take hi).drop lo) [sliced A lo hi cap t.size]:=by
 obtain⟨A',cap',he,h3,h4,h5⟩:=h
 simp only[List.cons.injEq,Value.slice.injEq,and_true]at he
 obtain⟨rfl,rfl,rfl⟩:=he
 have hlen:((l.take hi).drop lo).length=hi - lo:=by simp;omega
 refine⟨_,cap - lo,by rw[hlen];rfl,by rw[hlen];omega,by omega,fun hp=>?_⟩
 rw[hlen]at hp
 obtain⟨b,o,rfl,hn,hb,hx⟩:=h5 (by omega)
 refine⟨b,o+lo*t.size,?_,hn,hb,fun j hj=>?_⟩
 ·rw[if_neg (by omega)]
  simp only[Option.map_some,Addr.add]
  split
  ·rename_i e;rw[e];rfl
  ·rfl
 ·rw[hlen]at hj
  obtain⟨es,q1,q2⟩:=hx (lo+j) (by omega)
  refine⟨es,fun c hc=>?_,?_⟩
  ·rw[←q1 c hc,XaH]
   congr 2
   omega
  ·have e:((l.take hi).drop lo)[j]'(by rw[hlen];exact hj)=l[lo+j]:=by rw[List.getElem_drop,Xbc]
   rw[e];exact q2
theorem ZMM {s e:TypeId} (h:P.underlying s=some (.slice e)):P.elem s=e:=by simp[Program.elem,h]
theorem Zo4 (hT:ZbB P C.y) {s e:TypeId} {te:Ty} (h1:lk C.y.el s=some e) (h2:lk C.y.ty e=some te) {A:Option Addr} {n cap:Nat} {lo hi:Option Value} {b c:Nat}
  (hb:(lo=none∧b=0)∨lo=some (.int .i64 b)) (hc:(hi=none∧c=n)∨hi=some (.int .i64 c)) (hbc:b≤c) (hcn:c≤n) (hn:n≤cap) :
  (Instr.sliceAt s (.slice A n cap) lo hi none).run P w = .ok (sliced A b c cap te.size) w:=by
 have hu:=hT.el s e h1
 obtain⟨i0,z,dd,hi0,hsz,_⟩:=hT.ty e te h2
 have ht:P.underlying s=some (.slice (P.elem s)):=by rw[ZMM hu];exact hu
 have hso:(sizeOf (P.elem s)).run P w = .ok te.size w:=by rw[ZMM hu];simp[sizeOf,typeInfo,hi0,hsz]
 rw[run_sliceAt_slice _ _ _ _ _ _ ht]
 rcases hb with⟨rfl,rfl⟩|rfl<;>rcases hc with⟨rfl,rfl⟩|rfl
 ·rw[run_slice_all _ _ _ _ _ ht,hso];rfl
 ·rw[run_slice_h _ _ _ _ _ ht _ _ (by omega) (by omega),hso];simp
 ·rw[run_slice_l _ _ _ _ _ ht _ _ (by omega) (by omega),hso];simp
 ·rw[run_slice_lh _ _ _ _ _ ht _ _ _ _ (by omega) (by omega) (by omega),hso];simp
theorem Zo2 (h:Sim Γ val fp ρ st a w) {x:Option Operand} {n:Int} (hx:x.map (ev1 ρ)=some (.c (.int .i64 n))):x.map a.eval=some (.int .i64 n):=by
 cases x with
 |none=>cases hx
 |some y=>
  simp only[Option.map_some,Option.some.injEq]at hx ⊢
  have:=ZU h y
  rw[hx]at this
  exact this.1
theorem Zo3 {β:Type} {f:Operand→AV} {g:Operand→β} {x:Option Operand} (hx:x.map f=none):x.map g=none:=by
 cases x with
 |none=>rfl
 |some y=>cases hx
theorem ZqW {t:TypeId} {x:Operand} {lo hi:Option Operand} (ho:o.op = .slice t x lo hi none) {v:Value} (hr:(Instr.sliceAt t (a.eval x) (lo.map a.eval) (hi.map a.eval) none).run P w = .ok v w) (hK:K (a.put o.dst v) w):o.wp P a w K Q:=by
 refine Zkq (s:=Instr.sliceAt t (a.eval x) (lo.map a.eval) (hi.map a.eval) none) ?_ hr hK
 simp only[execOp,ho,Option.map_none]
theorem ZAO (hT:ZbB P C.y) (h:Sim Γ val fp ρ st a w) {s e:TypeId} {te:Ty} {x:Operand} {lo hi:Option Operand} (ho:o.op = .slice s x lo hi none) (h1:lk C.y.el s=some e) (h2:lk C.y.ty e=some te)
  {t:Ty} {l:List t.den} (hs:te.size=t.size) (hx:Imm w (ZI Γ.X st fp) (.sl t) l [a.eval x]) (he:ZbD (ZpS t l (lo.map (ev1 ρ)) (hi.map (ev1 ρ)) st) k) (hK:Fol Γ val fp st a w o k K):o.wp P a w K Q:=by
 have hx':=hx
 obtain⟨A,cap,hv,q1,q2,_⟩:=hx
 simp only[List.cons.injEq,and_true]at hv
 rw[hv]at hx'
 unfold ZpS at he
 split at he
 ·rename_i e1 e2
  refine ZqW ho (v:=sliced A 0 l.length cap te.size) (by rw[hv];exact Zo4 hT h1 h2 (.inl ⟨Zo3 e1,rfl⟩) (.inl ⟨Zo3 e2,rfl⟩) (by omega) (by omega) q1) ((hK.still h.toObjs).same h.toObjs he ?_)
  have:=Zup hx' (Nat.zero_le l.length) (Nat.le_refl _)
  rw[XaC,List.drop_zero,←hs]at this
  exact this
 ·rename_i b e1 e2
  obtain⟨⟨p1,p2⟩,hk⟩:=he
  have hb:((b.toNat:Nat):Int)=b:=Xbm p1
  refine ZqW ho (v:=sliced A 0 b.toNat cap te.size) (by rw[hv];exact Zo4 hT h1 h2 (.inl ⟨Zo3 e1,rfl⟩) (.inr (by rw[Zo2 h e2,hb])) (by omega) (by omega) q1) ((hK.still h.toObjs).same h.toObjs hk ?_)
  have:=Zup hx' (Nat.zero_le b.toNat) (by omega)
  rw[List.drop_zero,←hs]at this
  exact this
 ·rename_i b e1 e2
  obtain⟨⟨p1,p2⟩,hk⟩:=he
  have hb:((b.toNat:Nat):Int)=b:=Xbm p1
  refine ZqW ho (v:=sliced A b.toNat l.length cap te.size) (by rw[hv];exact Zo4 hT h1 h2 (.inr (by rw[Zo2 h e1,hb])) (.inl ⟨Zo3 e2,rfl⟩) (by omega) (by omega) q1) ((hK.still h.toObjs).same h.toObjs hk ?_)
  have:=Zup hx' (show b.toNat≤l.length by omega) (Nat.le_refl _)
  rw[XaC,←hs]at this
  exact this
 ·rename_i b c e1 e2
  obtain⟨⟨p1,p2,p3⟩,hk⟩:=he
  have hb:((b.toNat:Nat):Int)=b:=Xbm p1
  have hc:((c.toNat:Nat):Int)=c:=Xbm (by omega)
  refine ZqW ho (v:=sliced A b.toNat c.toNat cap te.size) (by rw[hv];exact Zo4 hT h1 h2 (.inr (by rw[Zo2 h e1,hb])) (.inr (by rw[Zo2 h e2,hc])) (by omega) (by omega) q1) ((hK.still h.toObjs).same h.toObjs hk ?_)
  have:=Zup hx' (show b.toNat≤c.toNat by omega) (by omega)
  rw[←hs]at this
  exact this
 ·exact he.elim
theorem ZKG (h:Objs Γ val fp st w) {x d:Nat} {e:TypeId} {t:Ty} {l:List t.den} {n:Nat} {v:Value} (hl:lk st x=some (.sl e t l .shallow)) (hn:lk (Z0 st x .dead) d=none)
  (hv:∀xs,w.ownsRow 0 e t.size (val x) l.length xs→w.ownsRow 0 e t.size v (l.take n).length (xs.take ((l.take n).length*t.size))∧v.ownBlock=(val x).ownBlock) :
  Step Γ val (fun y=>if y=d then v else val y) fp (fun y=>if y=d then fp x else if y=x then[]else fp y) st ((d,Ob.sl e t (l.take n) .shallow)::Z0 st x .dead) w w:=by
 obtain⟨xs,s1,s2,s3⟩:=h.rep x _ hl
 obtain⟨v1,v2⟩:=hv xs s1
 have hlkd:∀y,lk (Z0 st x Ob.dead) y=if y=x then some .dead else lk st y:=fun y=>by rw[Zd4,hl];rfl
 have hdx:d≠x:=fun e0=>by rw[hlkd,if_pos e0]at hn;cases hn
 have hdn:lk st d=none:=by rw[hlkd,if_neg hdx]at hn;exact hn
 have hlk:∀y,lk ((d,Ob.sl e t (l.take n) .shallow)::Z0 st x Ob.dead) y=if y=d then some (.sl e t (l.take n) .shallow)else if y=x then some .dead else lk st y:=fun y=>by rw[Z2,hlkd]
 have which:∀{y:Nat} {ob:Ob},lk ((d,Ob.sl e t (l.take n) .shallow)::Z0 st x Ob.dead) y=some ob→(lk st y=none∨y=x)→y=d∨y=x:=fun {y ob} hy' hn'=>by
  rcases hn' with hn'|hn'
  ·rw[hlk]at hy'
   by_cases e0:y=d
   ·exact .inl e0
   ·rw[if_neg e0]at hy'
    by_cases e1:y=x
    ·exact .inr e1
    ·rw[if_neg e1,hn']at hy';cases hy'
  ·exact .inr hn'
 refine h.step (fun y=>y=x) rfl rfl rfl (Nat.le_refl _) (Nat.le_refl _) (fun _ _ _=>rfl) (fun y ob hy' hnn=>?_) (fun y ob hy' hnn=>?_) (fun y ob hy' hnn b hb'=>?_) (fun y z o1 o2 hne hy' hz' hnn hnn' b hb'=>?_) (fun hkept hstay y ob hy' hnn=>?_)
 ·have hnn:¬y=x:=hnn
  have hyd:y≠d:=fun e0=>by rw[e0,hdn]at hy';cases hy'
  rw[hlk,if_neg hyd,if_neg hnn]
  exact⟨hy',by simp[hyd],by simp[hyd,hnn]⟩
 ·have hnn:y=x:=hnn
  subst hnn
  rw[hl]at hy'
  obtain rfl:=Option.some.inj hy'
  exact⟨.dead,by rw[hlk,if_neg hdx.symm,if_pos rfl],(show Compat (.sl _ _ _ _) .dead from trivial),by simp[hdx.symm]⟩
 ·rcases which hy' hnn with rfl|rfl
  ·simp only[if_true]at hb'
   exact⟨(h.own x _ hl b hb').1,fun _=>⟨x,_,rfl,hl,hb'⟩⟩
  ·simp[hdx.symm]at hb'
 ·rcases which hy' hnn with rfl|rfl
  ·rcases which hz' hnn' with rfl|rfl
   ·exact absurd rfl hne
   ·simp[hdx.symm]
  ·simp[hdx.symm]at hb'
 ·rcases which hy' hnn with rfl|rfl
  ·rw[hlk,if_pos rfl]at hy'
   obtain rfl:=Option.some.inj hy'
   simp only[if_true]
   refine⟨_,v1,by rw[s2,v2],fun j hj=>?_⟩
   have hj':j<l.length:=by simp at hj;omega
   have hjn:j<(l.take n).length:=hj
   have e1:(l.take n)[j]=l[j]:=Xbc
   rw[e1]
   have:=(s3 j hj').kept hkept
   have e2:((xs.take ((l.take n).length*t.size)).drop (j*t.size)).take t.size=(xs.drop (j*t.size)).take t.size:=by
    rw[List.drop_take,List.take_take]
    congr 1
    have:(j+1)*t.size≤(l.take n).length*t.size:=XaE _ hjn
    rw[XaH]at this
    omega
   rw[e2]
   exact this
  ·rw[hlk,if_neg hdx.symm,if_pos rfl]at hy'
   obtain rfl:=Option.some.inj hy'
   show _=_
   simp[hdx.symm]
theorem ZHZ (hT:ZbB P C.y) (h:Sim Γ val fp ρ st a w) {s:TypeId} {x:Operand} {lo hi mx:Option Operand} (ho:o.op = .slice s x lo hi mx) (he:ZbD (Zby C ρ st o) k) (hK:Fol Γ val fp st a w o k K):o.wp P a w K Q:=by
 have hx:=ZU h x
 unfold Zby at he
 simp only[ho]at he
 split at he
 ·unfold ZIc at he
  split at he
  ·rename_i e hel
   split at he
   ·rename_i te hte
    split at he
    ·rename_i t l h1
     rw[h1]at hx
     split at he
     ·rename_i hs
      exact ZAO hT h ho hel hte (ZR.1 hs) hx he hK
     ·exact he.elim
    ·rename_i x' _ h1
     rw[h1]at hx
     split at he
     ·split at he
      ·rename_i e' t l kd hl
       split at he
       ·rename_i hop
        split at he
        ·rename_i hs
         obtain⟨fp1,S1⟩:=ZIi h.toObjs hl hop
         have hl1:lk (Z0 st x' (.sl e' t l .frozen)) x'=some (.sl e' t l .frozen):=by rw[Zd4,if_pos rfl,hl];rfl
         exact ZAO hT (h.step S1) ho hel hte (ZR.1 hs) (ZsG S1.objs (AvRep.kept S1.kept S1.stays hx) hl1) he (fun av st' v val' fp' w' hk hs' hv=>hK av st' v val' fp' w' hk (S1.trans hs') hv)
        ·exact he.elim
       ·exact he.elim
      ·exact he.elim
     split at he
     ·rename_i e' t l hl
      split at he
      ·rename_i hs
       exact ZAO hT h ho hel hte (ZR.1 hs) (ZsG h.toObjs hx hl) he hK
      ·exact he.elim
     ·rename_i e' t l hl
      split at he
      ·rename_i hs
       have hs:=ZR.1 hs
       split at he
       ·rename_i n e1 e2
        obtain⟨d,hd,hn,⟨p1,p2⟩,hk⟩:=ZmO he
        have hb:((n.toNat:Nat):Int)=n:=Xbm p1
        obtain⟨hv0,xs,s1,s2,s3⟩:=Zbk h.toObjs hx hl
        have hlen:(l.take n.toNat).length=n.toNat:=by simp;omega
        have hsh:∃A m cap,val x' = .slice A m cap∧m=l.length∧l.length≤cap:=by
         rcases s1.2 with⟨q1,q2⟩|⟨g,cap,cur,q1,q2,q3,q4,_⟩
         ·exact⟨_,_,_,q1,q2.symm,by omega⟩
         ·exact⟨_,_,_,q1,rfl,q4⟩
        obtain⟨A,m,cap,hA,rfl,hcap⟩:=hsh
        refine ZqW ho (v:=.slice A n.toNat cap) ?_ (hK _ _ _ _ _ _ hk (ZKG (n:=n.toNat) (v:=.slice A n.toNat cap) h.toObjs hl hn ?_) (Zog (by simp) rfl))
        ·rw[hv0,hA,Zo4 hT hel hte (.inl ⟨Zo3 e1,rfl⟩) (.inr (by rw[Zo2 h e2,hb])) (Nat.zero_le _) (by omega) hcap]
         simp only[sliced,Nat.sub_zero]
         split
         ·rfl
         ·cases A<;>simp[Addr.add]
        ·intro xs' hxs
         refine⟨⟨?_,?_⟩,?_⟩
         ·rw[XaB,hxs.1]
          exact Nat.min_eq_left (XaE _ (by omega))
         ·rcases hxs.2 with⟨q1,q2⟩|⟨g,cap',cur,q1,q2,q3,q4,q5,q6,q7⟩
          ·refine .inl ⟨?_,by omega⟩
           rw[hA]at q1
           simp only[Value.slice.injEq]at q1
           obtain⟨rfl,q3,rfl⟩:=q1
           rw[show n.toNat=0 by omega]
          ·rw[hA]at q1
           simp only[Value.slice.injEq]at q1
           obtain⟨rfl,_,rfl⟩:=q1
           refine .inr ⟨g,cap,cur,by rw[hlen],q2,q3,by omega,q5,q6,?_⟩
           rw[←q7,List.take_take,Nat.min_eq_left (XaE _ (by omega))]
         ·rw[hA]
          cases A<;>rfl
       ·rename_i b e1 e2
        obtain⟨⟨p1,p2⟩,hk⟩:=he
        have hb:((b.toNat:Nat):Int)=b:=Xbm p1
        obtain⟨hv0,xs,s1,s2,s3⟩:=Zbk h.toObjs hx hl
        have hsh:∃A m cap,val x' = .slice A m cap∧m=l.length∧l.length≤cap∧(0<l.length→∃g,A=some ⟨g,0,none⟩):=by
         rcases s1.2 with⟨q1,q2⟩|⟨g,cap,cur,q1,q2,q3,q4,_⟩
         ·exact⟨_,_,_,q1,q2.symm,by omega,fun h0=>by omega⟩
         ·exact⟨_,_,_,q1,rfl,q4,fun _=>⟨g,rfl⟩⟩
        obtain⟨A,m,cap,hA,rfl,hcap,hg⟩:=hsh
        obtain⟨i0,z,dd,hi0,hsz,_⟩:=hT.ty e te hte
        refine ZqW ho (v:=sliced A b.toNat l.length cap te.size) (by rw[hv0,hA];exact Zo4 hT hel hte (.inr (by rw[Zo2 h e1,hb])) (.inl ⟨Zo3 e2,rfl⟩) (by omega) (Nat.le_refl _) hcap) ((hK.still h.toObjs).same h.toObjs hk ?_)
        have hA':sliced A b.toNat l.length cap te.size = .slice (if cap=b.toNat then A else A.map (·.add (b.toNat*te.size))) (l.length - b.toNat) (cap - b.toNat):=rfl
        refine And.intro ⟨_,_,_,hA'⟩ ⟨_,hl,fun e2 t2 l2 k2 ho2=>?_⟩
        cases ho2
        refine⟨p1,p2,fun hlt=>?_,fun hq=>⟨_,_,by rw[hA',show l.length - b.toNat=0 by omega]⟩⟩
        obtain⟨g,rfl⟩:=hg (by omega)
        refine⟨g,l.length,cap,cap - b.toNat,hA,?_⟩
        rw[hA',if_neg (by omega),hs]
        simp[Addr.add]
        exact fun h0=>h0.symm
       ·exact he.elim
      ·exact he.elim
     ·exact he.elim
    ·rename_i h1
     rw[h1]at hx
     split at he
     ·rename_i n e1 e2
      obtain⟨p1,hk⟩:=he
      have hv:a.eval x = .slice none 0 0:=hx
      refine ZqW ho (v:=.slice none 0 0) ?_ ((hK.still h.toObjs).same h.toObjs hk rfl)
      rw[hv,Zo4 hT hel hte (b:=0) (c:=0) (.inl ⟨Zo3 e1,rfl⟩) (.inr (by rw[Zo2 h e2,p1];rfl)) (Nat.le_refl _) (Nat.le_refl _) (Nat.le_refl _)]
      simp[sliced]
     ·exact he.elim
    ·exact he.elim
   ·exact he.elim
  ·exact he.elim
 ·exact he.elim
theorem ZJs (h:Objs Γ val fp st w) {x g n cap i:Nat} {e:TypeId} {k:IntKind} {l:List Int} (hx:lk st x=some (.sl e (.int k) l .shallow)) (hg:val x = .slice (some ⟨g,0,none⟩) n cap)
  (hi:i≤l.length) (hk:inR k 0) :
  ∃w',(storeCells ⟨g,i,none⟩ (List.replicate (l.length - i) (.int k 0)) 0).run P w = .ok () w'∧Step Γ val val fp fp st (Z0 st x (.sl e (.int k) (l.take i++List.replicate (l.length - i) (0:Int)) .shallow)) w w':=by
 obtain⟨xs,s1,s2,s3⟩:=h.rep x _ hx
 have hnl:n=l.length:=by
  obtain⟨A,cap',h0⟩:=Zfn s1
  rw[hg]at h0;simp at h0;exact h0.2.1
 subst hnl
 rw[hg]at s1
 have hxl:xs.length=l.length*1:=s1.1
 have hnew:(l.take i++List.replicate (l.length - i) (0:Int)).length=l.length:=by simp;omega
 obtain⟨w',p1,p2,p3,p4,p5,p5',p6,p7⟩:=Zvt (P:=P) s1 (p:=i) (vs:=List.replicate (l.length - i) (.int k 0)) (by simp only[XaG,Ty.size];omega) (fun u hu=>by rw[List.eq_of_mem_replicate hu];rfl)
 refine⟨w',p1,?_⟩
 generalize hl':(l.take i++List.replicate (l.length - i) (0:Int))=l' at hnew ⊢
 have hlk:∀y,lk (Z0 st x (.sl e (.int k) l' .shallow)) y=if y=x then some (.sl e (.int k) l' .shallow)else lk st y:=fun y=>by rw[Zd4,hx];rfl
 have only:∀{y:Nat} {ob:Ob},lk (Z0 st x (.sl e (.int k) l' .shallow)) y=some ob→(lk st y=none∨y=x)→y=x:=fun {y ob} hy hn=>by
  rcases hn with hn|hn
  ·rw[hlk]at hy
   by_cases e0:y=x
   ·exact e0
   ·rw[if_neg e0,hn]at hy;cases hy
  ·exact hn
 have hgx:g∈fp x:=by rw[s2,hg];simp[Value.ownBlock]
 refine h.step (fun y=>y=x) p3 p4 p5 (Nat.le_of_eq p5'.symm) (by omega) (fun b hb hn=>p7 b (fun e0=>hn x _ rfl hx (e0▸hgx))) (fun y ob hy hn=>?_) (fun y ob hy hn=>?_) (fun y ob hy hn b hb=>?_) (fun y z o1 o2 hne hy hz hn hn' b hb=>?_) (fun hkept hstay y ob hy hn=>?_)
 ·have hn:¬y=x:=hn
  rw[hlk,if_neg hn];exact⟨hy,rfl,rfl⟩
 ·have hn:y=x:=hn
  subst hn
  rw[hx]at hy
  obtain rfl:=Option.some.inj hy
  exact⟨.sl e (.int k) l' .shallow,by rw[hlk,if_pos rfl],(show Compat (.sl _ _ _ _) (.sl _ _ _ _) from And.intro rfl (And.intro rfl hnew.symm)),rfl⟩
 ·obtain rfl:=only hy hn
  obtain⟨q1,q2⟩:=h.own y _ hx b hb
  exact⟨by omega,fun _=>⟨y,_,rfl,hx,hb⟩⟩
 ·exact absurd ((only hy hn).trans (only hz hn').symm) hne
 ·obtain rfl:=only hy hn
  rw[hlk,if_pos rfl]at hy
  obtain rfl:=Option.some.inj hy
  refine⟨_,by rw[hnew,hg];exact p2,s2,fun j hj=>?_⟩
  have hjl:j<l.length:=by rw[hnew]at hj;exact hj
  obtain⟨c1,c2⟩:(xs.drop (j*1)).take 1=[.int k l[j]]∧inR k l[j]:=s3 j hjl
  subst hl'
  have hget:∀(ys:List Value) (v:Value),ys[j]? = some v→(ys.drop (j*1)).take 1=[v]:=fun ys v hv=>by
   rw[XbW]
   obtain⟨hlt,rfl⟩:=Xbn.1 hv
   rw[Xby hlt];rfl
  have hxj:xs[j]? = some (.int k l[j]):=by
   have:=congrArg (·[0]?) c1
   simpa [XaD,Xa0]using this
  by_cases hji:j<i
  ·have e1:(l.take i++List.replicate (l.length - i) (0:Int))[j]'hj=l[j]:=by
    rw[XbB (by simp;omega),Xbc]
   rw[e1]
   refine And.intro (hget _ _ ?_) c2
   rw[XaK,XaU (by simp;omega),XaD,if_pos hji,hxj]
  ·have e1:(l.take i++List.replicate (l.length - i) (0:Int))[j]'hj=0:=by
    rw[Xbz (by simp;omega)];simp
   rw[e1]
   refine And.intro (hget _ _ ?_) hk
   rw[XaK,XaT (by simp;omega),XaU (by simp;omega),List.getElem?_replicate,if_pos (by simp;omega)]
theorem Zza {x:Nat} {o:Ob}:∀{l:St},lk l x=some o→Z0 l x o=l
 |(y,oy)::r,h=>by
  rw[Z2]at h
  unfold Z0
  split
  ·rename_i hb
   rw[if_pos (ZR.1 hb).symm]at h
   cases h;rfl
  ·rename_i hb
   rw[if_neg (fun e=>by rw[ZR.2 e.symm]at hb;cases hb)]at h
   rw[Zza h]
theorem Zxd {z:Value} {n:Nat}:(Builtin.zeroCells #[z] n).toList=List.replicate n z:=by
 simp[Builtin.zeroCells]
 apply XbP
 ·simp
 ·intro i h1 h2
  simp[Nat.mod_one]
theorem ZHx (h:Objs Γ val fp st w) {x g n cap i:Nat} {e:TypeId} {t:Ty} {l:List t.den} (hx:lk st x=some (.sl e t l .shallow)) (hg:val x = .slice (some ⟨g,0,none⟩) n cap)
  (hi:i≤l.length) (ht:t.size=1) {zv:Value} (h1:zv.oneCell'=true) (hk:∀(w:World) (N:Nat→Prop),Imm w N t t.dflt [zv]) :
  ∃w',(storeCells ⟨g,i,none⟩ (List.replicate (l.length - i) zv) 0).run P w = .ok () w'∧Step Γ val val fp fp st (Z0 st x (.sl e t (l.take i++List.replicate (l.length - i) t.dflt) .shallow)) w w':=by
 obtain⟨xs,s1,s2,s3⟩:=h.rep x _ hx
 have hnl:n=l.length:=by
  obtain⟨A,cap',h0⟩:=Zfn s1
  rw[hg]at h0;simp at h0;exact h0.2.1
 subst hnl
 rw[hg]at s1
 rw[ht]at s1
 have hxl:xs.length=l.length*1:=s1.1
 have hnew:(l.take i++List.replicate (l.length - i) t.dflt).length=l.length:=by simp;omega
 obtain⟨w',p1,p2,p3,p4,p5,p5',p6,p7⟩:=Zvt (P:=P) s1 (p:=i) (vs:=List.replicate (l.length - i) zv) (by simp only[XaG,XbW];omega) (fun u hu=>by rw[List.eq_of_mem_replicate hu];exact h1)
 refine⟨w',p1,?_⟩
 generalize hl':(l.take i++List.replicate (l.length - i) t.dflt)=l' at hnew ⊢
 have hlk:∀y,lk (Z0 st x (.sl e t l' .shallow)) y=if y=x then some (.sl e t l' .shallow)else lk st y:=fun y=>by rw[Zd4,hx];rfl
 have only:∀{y:Nat} {ob:Ob},lk (Z0 st x (.sl e t l' .shallow)) y=some ob→(lk st y=none∨y=x)→y=x:=fun {y ob} hy hn=>by
  rcases hn with hn|hn
  ·rw[hlk]at hy
   by_cases e0:y=x
   ·exact e0
   ·rw[if_neg e0,hn]at hy;cases hy
  ·exact hn
 have hgx:g∈fp x:=by rw[s2,hg];simp[Value.ownBlock]
 refine h.step (fun y=>y=x) p3 p4 p5 (Nat.le_of_eq p5'.symm) (by omega) (fun b hb hn=>p7 b (fun e0=>hn x _ rfl hx (e0▸hgx))) (fun y ob hy hn=>?_) (fun y ob hy hn=>?_) (fun y ob hy hn b hb=>?_) (fun y z o1 o2 hne hy hz hn hn' b hb=>?_) (fun hkept hstay y ob hy hn=>?_)
 ·have hn:¬y=x:=hn
  rw[hlk,if_neg hn];exact⟨hy,rfl,rfl⟩
 ·have hn:y=x:=hn
  subst hn
  rw[hx]at hy
  obtain rfl:=Option.some.inj hy
  exact⟨.sl e t l' .shallow,by rw[hlk,if_pos rfl],(show Compat (.sl _ _ _ _) (.sl _ _ _ _) from And.intro rfl (And.intro rfl hnew.symm)),rfl⟩
 ·obtain rfl:=only hy hn
  obtain⟨q1,q2⟩:=h.own y _ hx b hb
  exact⟨by omega,fun _=>⟨y,_,rfl,hx,hb⟩⟩
 ·exact absurd ((only hy hn).trans (only hz hn').symm) hne
 ·obtain rfl:=only hy hn
  rw[hlk,if_pos rfl]at hy
  obtain rfl:=Option.some.inj hy
  refine⟨_,by rw[hnew,hg,ht];exact p2,s2,fun j hj=>?_⟩
  have hjl:j<l.length:=by rw[hnew]at hj;exact hj
  have c1:Imm w' _ t l[j] ((xs.drop (j*t.size)).take t.size):=(s3 j hjl).kept hkept
  rw[ht]at c1 ⊢
  subst hl'
  have hget:∀(ys:List Value) (v:Value),ys[j]? = some v→(ys.drop (j*1)).take 1=[v]:=fun ys v hv=>by
   rw[XbW]
   obtain⟨hlt,rfl⟩:=Xbn.1 hv
   rw[Xby hlt];rfl
  have hxj:xs[j]? = some (xs[j]'(by omega)):=Xac _
  rw[hget xs _ hxj]at c1
  by_cases hji:j<i
  ·have e1:(l.take i++List.replicate (l.length - i) t.dflt)[j]'hj=l[j]:=by
    rw[XbB (by simp;omega),Xbc]
   rw[e1,hget _ (xs[j]'(by omega)) ?_]
   ·exact c1
   rw[XaK,XaU (by simp;omega),XaD,if_pos hji,hxj]
  ·have e1:(l.take i++List.replicate (l.length - i) t.dflt)[j]'hj=t.dflt:=by
    rw[Xbz (by simp;omega)];simp
   rw[e1,hget _ zv ?_]
   ·exact hk _ _
   rw[XaK,XaT (by simp;omega),XaU (by simp;omega),List.getElem?_replicate,if_pos (by simp;omega)]
theorem ZGQ (hT:ZbB P C.y) (h:Sim Γ val fp ρ st a w) {x:Operand} {s e:TypeId} {te:Ty} (ho:o.op = .call { callee:=.builtin .clear,args:=#[x],argTypes:=#[s] }) (hel:lk C.y.el s=some e) (hte:lk C.y.ty e=some te)
  (he:ZbD (ZAu te st (ev1 ρ x)) k) (hK:Fol Γ val fp st a w o k K):o.wp P a w K Q:=by
 have hx:=ZU h x
 unfold ZAu at he
 split at he
 ·rename_i hzo
  split at he
  ·rename_i x' i h1
   rw[h1]at hx
   split at he
   ·rename_i e' t0 l0 hl
    split at he
    ·rename_i l hcl
     obtain⟨e1,e2⟩:=Ze4 hcl
     subst e1
     obtain rfl:l=l0:=e2
     have hu:=hT.el s e hel
     obtain⟨i0,z,dd,hi,hsz,hz,hzc,hby,_⟩:=hT.ty e _ hte
     obtain⟨⟨A,n,c,hv⟩,o2,q1,q2⟩:=hx
     rw[hl]at q1
     cases q1
     obtain⟨p1,p2,p3,p4⟩:=q2 _ _ _ _ rfl
     obtain⟨zv,hzv,ht,h11,hk0⟩:∃zv:Value,z.cells = #[zv]∧t0.size=1∧zv.oneCell'=true∧∀(w:World) (N:Nat→Prop),Imm w N t0 t0.dflt [zv]:=by
      cases t0 with
      |sl t1=>exact⟨.slice none 0 0,by rw[←Array.toList_inj];exact hzc,rfl,rfl,fun w N=>⟨none,0,rfl,Nat.le_refl _,by decide,fun h0=>absurd h0 (by simp[Ty.dflt])⟩⟩
      |str=>exact⟨.string ⟨#[]⟩,by rw[←Array.toList_inj];exact hzc,rfl,rfl,fun w N=>rfl⟩
      |_=>cases hzo
     have hb:((i.toNat:Nat):Int)=i:=Xbm p1
     by_cases hlt:i<l.length
     ·obtain⟨g,n',cap,c',g1,g2⟩:=p3 hlt
      obtain⟨w',r1,r2⟩:=ZHx (P:=P) h.toObjs hl g1 (i:=i.toNat) (by omega) ht h11 hk0
      refine ZeM ho (s:=Builtin.clear_ #[s] o.type #[a.eval x]) (fun cs=>by simp[builtin]) (v:=.tuple #[]) (w':=w') ?_ (hK _ _ _ _ _ _ he r2 trivial)
      rw[g2]
      obtain⟨m,hm⟩:∃m,l.length - i.toNat=m+1:=⟨l.length - i.toNat - 1,by omega⟩
      have hzr:∀w1,(zeroValue e).run P w1 = .ok z w1:=fun w1=>by simp[zeroValue,typeInfo,hi,hz]
      rw[hm]at r1 ⊢
      rw[ht]
      simp only[XbW]
      simp[Builtin.clear_,run_underlying hu,hzr,hzv,Zxd (z:=zv),r1]
     ·obtain⟨A',c',g1⟩:=p4 (by omega)
      have hsame:Z0 st x' (.sl e' t0 (l.take i.toNat++List.replicate (l.length - i.toNat) t0.dflt) .shallow)=st:=by
       rw[show l.length - i.toNat=0 by omega,List.replicate_zero,Xaz,Xa5 (by omega)]
       exact Zza hl
      rw[hsame]at he
      refine ZeM ho (s:=Builtin.clear_ #[s] o.type #[a.eval x]) (fun cs=>by simp[builtin]) (v:=.tuple #[]) (w':=w) ?_ ((hK.still h.toObjs).same h.toObjs he trivial)
      rw[g1]
      cases A'<;>simp[Builtin.clear_,run_underlying hu]
    ·exact he.elim
   ·exact he.elim
  ·exact he.elim
 ·exact he.elim
theorem ZHX (hT:ZbB P C.y) (h:Sim Γ val fp ρ st a w) {x:Operand} {tys:Array TypeId} (ho:o.op = .call { callee:=.builtin .clear,args:=#[x],argTypes:=tys }) (he:ZbD (ZCV C st tys.toList (ev1 ρ x)) k) (hK:Fol Γ val fp st a w o k K):o.wp P a w K Q:=by
 have hx:=ZU h x
 unfold ZCV at he
 split at he
 ·rename_i s hs
  have htys:tys = #[s]:=by cases tys;simpa using hs
  subst htys
  split at he
  ·rename_i e hel
   split at he
   ·rename_i k0 hte
    split at he
    ·rename_i x' i h1
     rw[h1]at hx
     split at he
     ·rename_i e' k' l hl
      split at he
      ·rename_i hs
       obtain rfl:=Zzv hs
       have hu:=hT.el s e hel
       obtain⟨i0,z,dd,hi,hsz,hz,hzc,hby,_,_,hf⟩:=hT.ty e _ hte
       obtain⟨⟨A,n,c,hv⟩,o2,q1,q2⟩:=hx
       rw[hl]at q1
       cases q1
       obtain⟨p1,p2,p3,p4⟩:=q2 _ _ _ _ rfl
       have hk0:inR k0 0:=by cases k0<;>first|exact⟨by decide,by decide⟩|cases hf
       have hzz:z.cells = #[.int k0 0]:=by rw[←Array.toList_inj];exact hzc
       have hb:((i.toNat:Nat):Int)=i:=Xbm p1
       by_cases hlt:i<l.length
       ·obtain⟨g,n',cap,c',g1,g2⟩:=p3 hlt
        obtain⟨w',r1,r2⟩:=ZJs (P:=P) h.toObjs hl g1 (i:=i.toNat) (by omega) hk0
        refine ZeM ho (s:=Builtin.clear_ #[s] o.type #[a.eval x]) (fun cs=>by simp[builtin]) (v:=.tuple #[]) (w':=w') ?_ (hK _ _ _ _ _ _ he r2 trivial)
        rw[g2]
        obtain⟨m,hm⟩:∃m,l.length - i.toNat=m+1:=⟨l.length - i.toNat - 1,by omega⟩
        have hzr:∀w1,(zeroValue e).run P w1 = .ok z w1:=fun w1=>by simp[zeroValue,typeInfo,hi,hz]
        rw[hm]at r1 ⊢
        simp only[Ty.size,XbW]
        simp[Builtin.clear_,run_underlying hu,hzr,hzz,Zxd (z:=.int k0 0),r1]
       ·obtain⟨A',c',g1⟩:=p4 (by omega)
        have hsame:Z0 st x' (.sl e' (.int k0) (l.take i.toNat++List.replicate (l.length - i.toNat) (0:Int)) .shallow)=st:=by
         rw[show l.length - i.toNat=0 by omega,List.replicate_zero,Xaz,Xa5 (by omega)]
         exact Zza hl
        rw[hsame]at he
        refine ZeM ho (s:=Builtin.clear_ #[s] o.type #[a.eval x]) (fun cs=>by simp[builtin]) (v:=.tuple #[]) (w':=w) ?_ ((hK.still h.toObjs).same h.toObjs he trivial)
        rw[g1]
        cases A'<;>simp[Builtin.clear_,run_underlying hu]
      ·exact he.elim
     ·exact he.elim
    ·exact he.elim
   ·rename_i te _ hte
    exact ZGQ hT h ho hel hte he hK
   ·exact he.elim
  ·exact he.elim
 ·exact he.elim
theorem ZEZ (hT:ZbB P C.y) (h:Sim Γ val fp ρ st a w) {x y:Operand} {tys:Array TypeId} (ho:o.op = .call { callee:=.builtin .append,args:=#[x,y],argTypes:=tys }) (he:ZbD (Zyb C st o.dst tys.toList (ev1 ρ x) (ev1 ρ y)) k) (hK:Fol Γ val fp st a w o k K):o.wp P a w K Q:=by
 unfold Zyb at he
 split at he
 ·obtain⟨fp1,S1⟩:=Zhu (ZNJ (ev1 ρ y)) h.toObjs
  exact Zy6 hT (h.step S1) ho he (fun av st' v val' fp' w' hk hs' hv=>hK av st' v val' fp' w' hk (S1.trans hs') hv)
 ·exact Zy6 hT h ho he hK
end
end Go.AE
namespace Go.AE
open Go Go.RowKit
def ZsO (o:Oper):Bool:=
 match o.op with
 | .move _=>true
 | .assign _=>true
 | .pick _ _ _=>true
 | .binOp _ _ _ _ _=>true
 | .unOp _ _ _=>true
 | .convert _ _ _=>true
 | .nilCheck _=>true
 | .indexAddr _ _ _=>true
 | .fieldAddr _ _ _=>true
 | .load _ _=>true
 | .extract _ _=>true
 | .makeFunc _ _ _=>true
 | .call c=>match c.callee with
  | .builtin .len=>true
  |_=>false
 |_=>false
section
variable {P:Program} {C:Cfg} {Γ:Ctx} {val val' val'':Nat→Value} {fp fp' fp'':Nat→List Nat} {ρ:Env} {st st' st'':St} {a:Act} {w w' w'':World} {o:Oper} {k:AV→St→Prop} {K:Act→World→Prop} {Q:Exit→Act→World→Prop}
theorem Zvr {x:AV} {args:Array Operand} (h:args.toList.map (ev1 ρ)=[x]):∃y,args = #[y]∧ev1 ρ y=x:=by
 cases args with
 |mk l=>
  cases l with
  |nil=>simp at h
  |cons y r=>
   cases r with
   |nil=>exact⟨y,rfl,by simpa using h⟩
   |cons z r=>simp at h
theorem ZA3 {x x':AV} {args:Array Operand} (h:args.toList.map (ev1 ρ)=[x,x']):∃y y',args = #[y,y']∧ev1 ρ y=x∧ev1 ρ y'=x':=by
 cases args with
 |mk l=>
  cases l with
  |nil=>simp at h
  |cons y r=>
   cases r with
   |nil=>simp at h
   |cons z r=>
    cases r with
    |nil=>
     simp only[XaQ,List.map_nil,List.cons.injEq,and_true]at h
     exact⟨y,z,rfl,h.1,h.2⟩
    |cons u r=>simp at h
theorem ZJH {f:Fn} {first cap:Array Operand} (ho:o.op = .makeFunc f first cap) (he:ZbD (Zby C ρ st o) k):∃g,f = .func g:=by
 cases f with
 |func g=>exact⟨g,rfl⟩
 |_=>unfold Zby at he;simp only[ho]at he;exact he.elim
theorem ZGy (hT:ZbB P C.y) (h:Sim Γ val fp ρ st a w) (hr:ZsO o=true) (he:ZbD (Zby C ρ st o) k) (hK:FolS Γ val fp st a w o k K):o.wp P a w K Q:=by
 unfold ZsO at hr
 split at hr
 ·rename_i ho;exact(ZLT h ho he hK).wp trivial
 ·rename_i ho;exact(ZHr h ho he hK).wp trivial
 ·rename_i ho;exact(ZLU h ho he hK).wp trivial
 ·rename_i ho;exact(ZMS hT h ho he hK).wp trivial
 ·rename_i ho;exact(ZNW h ho he hK).wp trivial
 ·rename_i ho;exact(ZEr hT h ho he hK).wp trivial
 ·rename_i ho;exact ZDg h ho he hK
 ·rename_i ho;exact(ZAj hT h ho he hK).wp trivial
 ·rename_i ho;exact(ZAi hT h ho he hK).wp trivial
 ·rename_i ho;exact ZJ1 hT h ho he hK
 ·rename_i ho;exact(ZEs h ho he hK).wp trivial
 ·rename_i ho
  obtain⟨g,rfl⟩:=ZJH ho he
  exact ZDf h ho he hK
 ·rename_i c ho
  split at hr
  ·rename_i hc
   obtain⟨callee,args,tys⟩:=c
   simp only at hc
   subst hc
   unfold Zby at he
   simp only[ho]at he
   unfold Zuj at he
   split at he
   ·rename_i x _ hx
    obtain⟨y,rfl,rfl⟩:=Zvr hx
    exact(ZJ6 hT h ho he hK).wp trivial
   ·rename_i hb _;cases hb
   ·rename_i hb _;cases hb
   ·rename_i hb _;cases hb
   ·rename_i hb _;cases hb
   ·rename_i hb _;cases hb
   ·exact he.elim
  ·cases hr
 ·cases hr
def ZrI (ρ:Env) (o:Oper):Bool:=
 match o.op with
 | .move _=>true
 | .assign _=>true
 | .pick _ _ _=>true
 | .binOp _ _ _ _ _=>true
 | .unOp _ _ _=>true
 | .convert _ _ _=>true
 | .indexAddr _ _ _=>true
 | .fieldAddr _ _ _=>true
 | .extract _ _=>true
 | .nilCheck _=>true
 | .load _ x=>match ev1 ρ x with | .c (.iptr _ _ _)=>true | .c .skip=>true|_=>false
 | .call c=>match c.callee with
  | .builtin .len=>true
  |_=>false
 |_=>false
theorem ZHz {ρ':Env} (hρ:∀x,(∀b,ev1 ρ x ≠ .c (.bool b))→ev1 ρ' x=ev1 ρ x) (h:ZrI ρ o=true):ZrI ρ' o=true:=by
 unfold ZrI at *
 cases ho:o.op with
 |load t x=>
  rw[ho]at h
  dsimp only at h ⊢
  split at h
  ·rename_i hp
   rw[hρ _ (fun b=>by rw[hp];intro e;cases e),hp]
  ·rename_i hp
   rw[hρ _ (fun b=>by rw[hp];intro e;cases e),hp]
  ·cases h
 |_=>first|(rw[ho]at h;exact h)|rw[ho]at h
theorem ZMp (hT:ZbB P C.y) (h:Sim Γ val fp ρ st a w) (hr:ZrI ρ o=true) (he:ZbD (Zby C ρ st o) k) (hK:FolS Γ val fp st a w o k K) :
  ∃B:List Nat,(∀b∈B,b<w.heap.size∧¬ZI Γ.X st fp b)∧OpY P o a (fun w1=>∀b∈B,w1.heap[b]? = w.heap[b]?) w K:=by
 have go:OpT P o a w K→∃B:List Nat,(∀b∈B,b<w.heap.size∧¬ZI Γ.X st fp b)∧OpY P o a (fun w1=>∀b∈B,w1.heap[b]? = w.heap[b]?) w K:=fun ⟨v,h1,h2⟩=>
  ⟨[],(fun b hb=>by cases hb),v,fun w1 _=>h1 w1 trivial,h2⟩
 unfold ZrI at hr
 split at hr
 ·rename_i ho;exact go (ZLT h ho he hK)
 ·rename_i ho;exact go (ZHr h ho he hK)
 ·rename_i ho;exact go (ZLU h ho he hK)
 ·rename_i ho;exact go (ZMS hT h ho he hK)
 ·rename_i ho;exact go (ZNW h ho he hK)
 ·rename_i ho;exact go (ZEr hT h ho he hK)
 ·rename_i ho;exact go (ZAj hT h ho he hK)
 ·rename_i ho;exact go (ZAi hT h ho he hK)
 ·rename_i ho;exact go (ZEs h ho he hK)
 ·rename_i ho;exact go (ZJ7 h ho he hK)
 ·rename_i ho
  split at hr
  ·rename_i hp
   obtain⟨b,h1,h2,v,h3,h4⟩:=ZNV hT h ho hp he hK
   exact⟨[b],fun b' hb=>by rw[Xah.1 hb];exact⟨h1,h2⟩,v,fun w1 hw1=>h3 w1 (hw1 b (Xah.2 rfl)),h4⟩
  ·rename_i hp
   unfold Zby at he
   simp only[ho]at he
   split at he
   ·unfold Zwe at he
    simp only[hp]at he
    exact he.elim
   unfold ZBt at he
   simp only[hp]at he
   split at he<;>exact he.elim
  ·cases hr
 ·rename_i c ho
  split at hr
  ·rename_i hc
   obtain⟨callee,args,tys⟩:=c
   simp only at hc
   subst hc
   unfold Zby at he
   simp only[ho]at he
   unfold Zuj at he
   split at he
   ·rename_i x _ hx
    obtain⟨y,rfl,rfl⟩:=Zvr hx
    exact go (ZJ6 hT h ho he hK)
   ·rename_i hb _;cases hb
   ·rename_i hb _;cases hb
   ·rename_i hb _;cases hb
   ·rename_i hb _;cases hb
   ·rename_i hb _;cases hb
   ·exact he.elim
  ·cases hr
 ·cases hr
theorem ZGx (hT:ZbB P C.y) (hC:ZkD P C) (h:Sim Γ val fp ρ st a w) (he:ZbD (Zby C ρ st o) k) (hK:Fol Γ val fp st a w o k K):o.wp P a w K Q:=by
 cases hr:ZsO o with
 |true=>exact ZGy hT h hr he (hK.still h.toObjs)
 |false=>
  cases ho:o.op with
  |alloc t=>exact ZHV hT h ho he hK
  |index t x i=>exact ZHY hT h ho he (hK.still h.toObjs)
  |box t x=>exact ZKX h ho he hK
  |build t ps=>exact ZHW hT h ho he (hK)
  |buildSlice t len ps=>exact ZAU hT h ho he hK
  |makeSlice t x y=>exact ZB8 hT h ho he hK
  |store t x y=>exact ZH0 hT h ho he hK
  |slice t x lo hi mx=>exact ZHZ hT h ho he hK
  |call c=>
   obtain⟨callee,args,tys⟩:=c
   cases callee with
   |value f=>exact ZJ0 hC h ho he hK
   |builtin b=>
    unfold Zby at he
    simp only[ho]at he
    unfold Zuj at he
    split at he
    ·rename_i x _ hx
     obtain⟨y,rfl,rfl⟩:=Zvr hx
     exact(ZJ6 hT h ho he (hK.still h.toObjs)).wp trivial
    ·rename_i x x' _ hx
     obtain⟨y,y',rfl,rfl,rfl⟩:=ZA3 hx
     exact ZEZ hT h ho he hK
    ·rename_i x _ hx
     obtain⟨y,rfl,rfl⟩:=Zvr hx
     exact ZHX hT h ho he hK
    ·rename_i hx
     obtain⟨y,y',rfl,h1,h2⟩:=ZA3 hx
     have e1:=ZU h y
     have e2:=ZU h y'
     rw[h1]at e1
     rw[h2]at e2
     obtain⟨e1,r1⟩:=e1
     obtain⟨e2,r2⟩:=e2
     refine ZeM ho (s:=Builtin.max_ tys o.type #[a.eval y,a.eval y']) (fun cs=>by simp[builtin]) (v:=.int .i64 _) ?_ ((hK.still h.toObjs).same h.toObjs he (ZfB ?_ rfl))
     ·rw[e1,e2];exact Lib.run_max_ints ..
     ·simp only[inR]at r1 r2 ⊢;omega
    ·rename_i hx
     obtain⟨y,y',rfl,h1,h2⟩:=ZA3 hx
     have e1:=ZU h y
     have e2:=ZU h y'
     rw[h1]at e1
     rw[h2]at e2
     obtain⟨e1,r1⟩:=e1
     obtain⟨e2,r2⟩:=e2
     refine ZeM ho (s:=Builtin.min_ tys o.type #[a.eval y,a.eval y']) (fun cs=>by simp[builtin]) (v:=.int .i64 _) ?_ ((hK.still h.toObjs).same h.toObjs he (ZfB ?_ rfl))
     ·rw[e1,e2];exact Lib.run_min_ints ..
     ·simp only[inR]at r1 r2 ⊢;omega
    ·rename_i x _ hx
     obtain⟨y,rfl,rfl⟩:=Zvr hx
     exact(ZOq hT h ho he (hK.still h.toObjs)).wp trivial
    ·exact he.elim
   |_=>unfold Zby at he;simp only[ho]at he;exact he.elim
  |_=>
   first
    |(exfalso;unfold ZsO at hr;rw[ho]at hr;exact Bool.noConfusion hr)
    |(unfold Zby at he;simp only[ho]at he;exact he.elim)
theorem Zls {s:Sem Value} {w1 w2:World} {n:Next} (h:(do pure (Next.value (←s)):Sem Next).run P w1 = .ok n w2):∃v,n = .value v:=by
 simp only[Sem.run_bind,Sem.run_pure]at h
 cases hq:s.run P w1 with
 |ok v w'=>
  rw[hq]at h
  simp only[Result.andThen_ok,Result.ok.injEq]at h
  exact⟨v,h.1.symm⟩
 |halt x w'=>
  rw[hq]at h
  cases h
theorem ZMt (hr:ZsO o=true) {w1 w2:World} {n:Next} (h:(execOp a.eval o).run P w1 = .ok n w2):∃v,n = .value v:=by
 unfold ZsO at hr
 split at hr
 ·rename_i ho;simp only[execOp,ho,Sem.run_pure,Result.ok.injEq]at h;exact⟨_,h.1.symm⟩
 ·rename_i ho;simp only[execOp,ho,Sem.run_pure,Result.ok.injEq]at h;exact⟨_,h.1.symm⟩
 ·rename_i c x y ho
  simp only[execOp,ho,Sem.run_bind]at h
  cases hq:(asBool (a.eval c)).run P w1 with
  |ok v w'=>
   rw[hq]at h
   simp only[Result.andThen_ok,Sem.run_pure,Result.ok.injEq]at h
   exact⟨_,h.1.symm⟩
  |halt x w'=>rw[hq]at h;cases h
 ·rename_i ho;simp only[execOp,ho]at h;exact Zls h
 ·rename_i ho;simp only[execOp,ho]at h;exact Zls h
 ·rename_i ho;simp only[execOp,ho]at h;exact Zls h
 ·rename_i x ho
  simp only[execOp,ho]at h
  split at h
  ·cases h
  ·cases h
  ·cases h
  ·split at h
   ·cases h
   ·simp only[Sem.run_bind]at h
    generalize hq:Sem.run P program w1=r at h
    cases r with
    |halt x w'=>cases h
    |ok pr w'=>
     simp only[Result.andThen_ok]at h
     generalize hq2:Sem.run P (nilAhead _ _ _ _) w'=r2 at h
     cases r2 with
     |halt x w'=>cases h
     |ok b w3=>
      simp only[Result.andThen_ok]at h
      split at h
      ·cases h
      ·simp only[Sem.run_pure,Result.ok.injEq]at h
       exact⟨_,h.1.symm⟩
   ·simp only[Sem.run_pure,Result.ok.injEq]at h
    exact⟨_,h.1.symm⟩
  ·simp only[Sem.run_pure,Result.ok.injEq]at h
   exact⟨_,h.1.symm⟩
 ·rename_i ho;simp only[execOp,ho]at h;exact Zls h
 ·rename_i ho;simp only[execOp,ho]at h;exact Zls h
 ·rename_i ho;simp only[execOp,ho]at h;exact Zls h
 ·rename_i ho;simp only[execOp,ho]at h;exact Zls h
 ·rename_i ho;simp only[execOp,ho]at h;exact Zls h
 ·rename_i c ho
  split at hr
  ·rename_i hc
   obtain⟨callee,args,tys⟩:=c
   simp only at hc
   subst hc
   simp only[execOp,ho,resolve,invoke,builtin,pure_bind]at h
   exact Zls h
  ·cases hr
 ·cases hr
theorem ZH2 (hr:ZsO o=true) {K:Act→Prop} (h:o.wp P a w (fun a' w'=>w'=w∧K a') (fun _ _ _=>False)):o.still P a w K:=by
 unfold Oper.wp at h
 unfold Oper.still
 cases hq:(execOp a.eval o).run P w with
 |ok n w'=>
  rw[hq]at h
  obtain⟨v,rfl⟩:=ZMt hr hq
  exact h
 |halt x w'=>
  rw[hq]at h
  cases x<;>exact h.elim
end
end Go.AE
namespace Go.AE
open Go Go.RowKit
def ZNw:Ex→Exit
  | .normal=>.normal
  | .exit id=>.exit id
  | .ret=>.ret
def ZH5 (C:Cfg) (st0:St):Prop:=∀x o,lk st0 x=some o→x<C.h
def SemC (P:Program) (C:Cfg) (c:Code) (k:Ex→Env→St→Prop) (ρ:Env) (st:St):Prop:=
  ∀(Γ:Ctx) (val0:Nat→Value) (st0:St) (val:Nat→Value) (fp:Nat→List Nat) (a:Act) (w:World) (Q:Exit→Act→World→Prop),
    Γ.n=C.n→ZH5 C st0→Sim Γ val fp ρ st a w→Stays val0 val st0 st →
    (∀e ρ' st' val' fp' a' w',k e ρ' st'→Sim Γ val' fp' ρ' st' a' w'→Stays val0 val' st0 st'→Q (ZNw e) a' w')→c.wp P Q a w
def Zqw:List Oper→Bool
  |[]=>true
  |o::r=>match ZsO o with|true=>Zqw r|false=>false
theorem ZFw {o:Oper} {r:List Oper} (h:Zqw (o::r)=true):ZsO o=true∧Zqw r=true:=by
  unfold Zqw at h
  split at h
  · rename_i hr;exact⟨hr,h⟩
  · cases h
def Sched.alts:Sched→List Nat
  | .alt i _ m=>i::m.alts
  |_=>[]
def okS (ops:Array Oper):Sched→Bool→Nat→Array Bool→Bool
  | .done,false,_,listed=>(Region.ready .any ops listed).isEmpty
  | .first i r,false,f+1,listed=>(Region.ready .any ops listed).contains i&&Region.free .any ops listed i&&okS ops r false f (listed.setIfInBounds i true)
  | .alt i r m,false,f+1,listed=>decide (Region.ready .any ops listed=i::m.alts)&&okS ops r false f (listed.setIfInBounds i true)&&okS ops m true f listed
  | .alt i r m,true,f,listed=>okS ops r false f (listed.setIfInBounds i true)&&okS ops m true f listed
  | .stop,true,_,_=>true
  |_,_,_,_=>false
noncomputable def evS (C:Cfg) (ops:List Oper) (kk:Env→St→Prop) (s:Sched):Env→St→Prop:=
  Sched.rec (motive:=fun _=>Env→St→Prop)
    (fun ρ st=>kk ρ st)
    (fun i _ hr ρ st=>match ops[i]? with
      |some o=>match ZrI ρ o with
        |true=>Zwf C ops o hr ρ st
        |false=>False
      |none=>False)
    (fun i _ _ hr hm ρ st=>match ops[i]? with
      |some o=>Zwf C ops o hr ρ st∧hm ρ st
      |none=>False)
    (fun _ _=>True) s
def lkS (l:List (Nat×Sched)) (i:Nat):Option Sched:=match l with
  |[]=>none
  |(j,s)::r=>match Nat.beq j i with|true=>some s|false=>lkS r i
def blk (id:Nat) (k:Ex→Env→St→Prop):Ex→Env→St→Prop
  | .exit i,ρ,st=>match Nat.beq i id with|true=>k .normal ρ st|false=>k (.exit i) ρ st
  | .normal,ρ,st=>k .normal ρ st
  | .ret,ρ,st=>k .ret ρ st
def thn (m:Env→St→Prop) (k:Ex→Env→St→Prop):Ex→Env→St→Prop
  | .normal,ρ,st=>m ρ st
  | .exit i,ρ,st=>k (.exit i) ρ st
  | .ret,ρ,st=>k .ret ρ st
def ZGd (ρ:Env) (c:Operand) (b:Bool):Env:=match c with | .tmp t=>upd ρ t (.c (.kb b))|_=>ρ
def Zwg:Code→Option Nat
  | .region i _ _=>some i
  | .seq a _=>Zwg a
  | .block _ b=>Zwg b
  | .loop b=>Zwg b
  |_=>none
def ZIa (l:List Nat) (c:Code):Bool:=match Zwg c with|some i=>l.any (Nat.beq i)|none=>false
def Leads (C:Cfg) (ρ:Env) (st:St) (ρ':Env) (st':St):Prop:=
  ∀(Γ:Ctx) (val0:Nat→Value) (st0:St) (val:Nat→Value) (fp:Nat→List Nat) (a:Act) (w:World),
    Γ.n=C.n→ZH5 C st0→Sim Γ val fp ρ st a w→Stays val0 val st0 st→∃val' fp',Sim Γ val' fp' ρ' st' a w∧Stays val0 val' st0 st'
noncomputable def evC (P:Program) (C:Cfg) (c:Code):(Ex→Env→St→Prop)→Env→St→Prop:=
  Code.rec (motive:=fun _=>(Ex→Env→St→Prop)→Env→St→Prop)
    (fun k ρ st=>k .normal ρ st)
    (fun id ops draw k ρ st=>match draw with
      |false=>ZsE C ops.toList (k .normal) ops.toList ρ st
      |true=>match lkS C.sched id with
        |none=>(Zqw ops.toList&&Region.lexB .any ops)=true∧ZsE C ops.toList (k .normal) ops.toList ρ st
        |some s=>(Region.noSelect ops&&okS ops s false ops.size (Array.replicate ops.size false))=true∧evS C ops.toList (k .normal) s ρ st)
    (fun a b ha hb k ρ st=>match ZIa C.cut b with
      |false=>ha (thn (hb k) k) ρ st
      |true=>SemC P C (.seq a b) k ρ st)
    (fun c _ _ hx hy k ρ st=>
      match ev1 ρ c with
      | .c (.kb true)=>hx k ρ st
      | .c (.kb false)=>hy k ρ st
      | .c (.bool b)=>(b=true→hx k (ZGd ρ c true) st)∧(b=false→hy k (ZGd ρ c false) st)
      |_=>False)
    (fun id _ hb k ρ st=>hb (blk id k) ρ st)
    (fun b _ k ρ st=>SemC P C (.loop b) k ρ st)
    (fun _ _ _ _ _ _ _ _ _=>False)
    (fun id k ρ st=>k (.exit id) ρ st)
    (fun _ _ _ _ _=>False)
    (fun _ _ _ _=>False)
    (fun _ _ _ _=>False)
    (fun k ρ st=>k .ret ρ st)
    (fun _ _ _ _=>False) c
section
variable {P:Program} {C:Cfg} {Γ:Ctx} {val val' val'' val0:Nat→Value} {fp fp' fp'':Nat→List Nat} {ρ ρ':Env} {st st' st'' st0:St} {a:Act} {w w' w'':World} {o:Oper} {k:AV→St→Prop} {K:Act→World→Prop} {Q:Exit→Act→World→Prop}
theorem ZBr {ops:Array Oper}:∀{l:List Oper} {j d:Nat},Zwc l j=some d→(l[j]?).bind (·.dst)=some d
  |[],_,_,h=>by cases h
  |o::r,0,d,h=>by simpa [Zwc]using h
  |o::r,j+1,d,h=>by simpa using ZBr (ops:=ops) (l:=r) (by simpa [Zwc]using h)
theorem ZNX {ops:Array Oper} {j d:Nat} (h:Zwc ops.toList j=some d):yielded ops a.tmps j=match a.tmps.getD d undef with | .bool b=>some b|_=>none:=by
  have h1:=ZBr (ops:=ops) h
  rw[Xbv]at h1
  unfold yielded
  rw[h1]
  simp only[XaP,Array.getD_eq_getD_getElem?]
  cases hv:a.tmps[d]? with
  |none=>rfl
  |some v=>cases v<;>rfl
theorem ZLc {ops:Array Oper} {j d:Nat} {want:Bool} (hg:o.guard=some (j,want)) (h:Zwc ops.toList j=some d):Region.wanted o (yielded ops a.tmps)=(match a.tmps.getD d undef with | .bool b=>b==want|_=>false):=by
  unfold Region.wanted
  rw[hg]
  simp only[ZNX h]
  cases a.tmps.getD d undef<;>first|rfl|(rename_i b;cases b<;>cases want<;>rfl)
theorem ZJi {b want:Bool}:xb b want=(b==want):=by cases b<;>cases want<;>rfl
theorem Zyh {ops:Array Oper} {next:Env→St→Prop} (h:Sim Γ val fp ρ st a w) (hn:Γ.n=C.n) (he:Zwf C ops.toList o next ρ st) {R:Prop}
    (hwant:∀ρ',(∀x,(∀b,ev1 ρ x ≠ .c (.bool b))→ev1 ρ' x=ev1 ρ x)→Sim Γ val fp ρ' st a w→Region.wanted o (yielded ops a.tmps)=true→Zzn Γ.n o.dst=true→ZbD (Zby C ρ' st o) (fun v st'=>next (Zp7 ρ' o.dst v) st')→R)
    (hskip:∀ρ',Sim Γ val fp ρ' st a w→Region.wanted o (yielded ops a.tmps)=false→Sim Γ val fp (Zp7 ρ' o.dst (.c .skip)) st (a.put o.dst undef) w→next (Zp7 ρ' o.dst (.c .skip)) st→R):R:=by
  unfold Zwf at he
  simp only[ZN3,ZFT]at he
  split at he
  · exact he.elim
  · rename_i hd
    have hd':Zzn Γ.n o.dst=true:=by rw[hn];exact hd
    split at he
    · rename_i hg
      exact hwant ρ (fun _ _=>rfl) h (by unfold Region.wanted;rw[hg]) hd' he
    · rename_i j want hg
      split at he
      · rename_i d hj
        have hw:=ZLc (a:=a) (ops:=ops) hg hj
        have hv:=h.env d
        split at he
        · rename_i b hb
          rw[hb]at hv
          rw[show a.tmps.getD d undef = .bool b from hv]at hw
          split at he
          · rename_i hx
            rw[ZJi]at hx
            exact hwant ρ (fun _ _=>rfl) h (by rw[hw];exact hx) hd' he
          · rename_i hx
            rw[ZJi]at hx
            exact hskip ρ h (by rw[hw];exact hx) (h.put hd' (x:=.c .skip) (v:=undef) rfl) he
        · rename_i b hb
          rw[hb]at hv
          have hv':a.tmps.getD d undef = .bool b:=hv
          rw[hv']at hw
          by_cases e:b=want
          · refine hwant _ (fun x e=>?_) (h.upd_env (d:=d) (x:=.c (.kb want)) (show a.tmps.getD d undef = .bool want by rw[hv',e])) (by rw[hw,e];simp) hd' (he.1 e)
            cases x with
            |tmp t0=>
              by_cases e2:t0=d
              · subst e2
                exact absurd hb (e b)
              · show upd ρ d (.c (.kb want)) t0=_
                unfold upd
                rw [show Nat.beq t0 d = false from by cases hq : Nat.beq t0 d; · rfl
                                                      · exact absurd (ZR.1 hq) e2]
                rfl
            |_=>rfl
          · have e2:b = !want:=by cases b<;>cases want<;>simp_all
            have hs:=h.upd_env (d:=d) (x:=.c (.kb (!want))) (show a.tmps.getD d undef = .bool (!want) by rw[hv',e2])
            exact hskip _ hs (by rw[hw,e2];cases want<;>rfl) (hs.put hd' (x:=.c .skip) (v:=undef) rfl) (he.2 e2)
        · rename_i hb
          rw[hb]at hv
          rw[show a.tmps.getD d undef=undef from hv]at hw
          exact hskip ρ h (by rw[hw];rfl) (h.put hd' (x:=.c .skip) (v:=undef) rfl) he
        · exact he.elim
      · exact he.elim
theorem Zz6 {ops:Array Oper} {r:List Oper} {kk:Env→St→Prop} (h:Sim Γ val fp ρ st a w) (hn:Γ.n=C.n) (he:ZsE C ops.toList kk (o::r) ρ st) {R:Prop}
    (hwant:∀ρ',Sim Γ val fp ρ' st a w→Region.wanted o (yielded ops a.tmps)=true→Zzn Γ.n o.dst=true→ZbD (Zby C ρ' st o) (fun v st'=>ZsE C ops.toList kk r (Zp7 ρ' o.dst v) st')→R)
    (hskip:∀ρ',Sim Γ val fp ρ' st a w→Region.wanted o (yielded ops a.tmps)=false→Sim Γ val fp (Zp7 ρ' o.dst (.c .skip)) st (a.put o.dst undef) w→ZsE C ops.toList kk r (Zp7 ρ' o.dst (.c .skip)) st→R):R:=
  Zyh h hn (next:=ZsE C ops.toList kk r) he (fun ρ' _=>hwant ρ') hskip
theorem ZAM (hT:ZbB P C.y) (hC:ZkD P C) (hn:Γ.n=C.n) {ops:Array Oper} {kk:Env→St→Prop}:∀(l:List Oper) {ρ:Env} {st:St} {val:Nat→Value} {fp:Nat→List Nat} {a:Act} {w:World},
    ZsE C ops.toList kk l ρ st→Sim Γ val fp ρ st a w→Stays val0 val st0 st →
    (∀ρ' st' val' fp' a' w',kk ρ' st'→Sim Γ val' fp' ρ' st' a' w'→Stays val0 val' st0 st'→Q .normal a' w')→wpList P ops Q l a w
  |[],ρ,st,val,fp,a,w,he,h,hs,hk=>hk ρ st val fp a w he h hs
  |o::r,ρ,st,val,fp,a,w,he,h,hs,hk=>by
    refine wpList_step fun K hK=>?_
    refine Zz6 h hn he (fun ρ' h' hw hd he'=>?_) (fun ρ' h' hw hsim he'=>?_)
    · rw[if_pos hw]
      refine ZGx hT hC h' he' fun av st' v val' fp' w' hk' hstep hav=>hK _ _ ?_
      exact ZAM hT hC hn r hk' ((h'.step hstep).put hd hav) (hs.trans hstep.stays) hk
    · rw[if_neg (by rw[hw];simp)]
      exact hK _ _ (ZAM hT hC hn r he' hsim hs hk)
theorem ZyN (hT:ZbB P C.y) (hn:Γ.n=C.n) {ops:Array Oper} {kk:Env→St→Prop} {R:Act→Prop}:∀(l:List Oper) {ρ:Env} {st:St} {val:Nat→Value} {fp:Nat→List Nat} {a:Act},Zqw l=true →
    ZsE C ops.toList kk l ρ st→Sim Γ val fp ρ st a w→Stays val0 val st0 st→(∀ρ' st' val' fp' a',kk ρ' st'→Sim Γ val' fp' ρ' st' a' w→Stays val0 val' st0 st'→R a')→wpStill P ops w R l a
  |[],ρ,st,val,fp,a,_,he,h,hs,hk=>hk ρ st val fp a he h hs
  |o::r,ρ,st,val,fp,a,hr,he,h,hs,hk=>by
    obtain⟨hr1,hr2⟩:=ZFw hr
    refine wpStill_step fun K hK=>?_
    refine Zz6 h hn he (fun ρ' h' hw hd he'=>?_) (fun ρ' h' hw hsim he'=>?_)
    · rw[if_pos hw]
      refine ZH2 hr1 (ZGy hT h' hr1 he' fun av st' v val' fp' hk' hstep hav=>And.intro rfl (hK _ ?_))
      exact ZyN hT hn r hr2 hk' ((h'.step hstep).put hd hav) (hs.trans hstep.stays) hk
    · rw[if_neg (by rw[hw];simp)]
      exact hK _ (ZyN hT hn r hr2 he' hsim hs hk)
theorem ZDV (h:Objs Γ val fp st w) (hh:w'.heap=w.heap) (hos:w'.os=w.os) (ht:w'.tape=w.tape) (ho:w'.output=w.output) (hd:w.drawn≤w'.drawn):Step Γ val val fp fp st st w w':=
  h.step (fun _=>False) hos ht ho hd (by rw[hh];exact Nat.le_refl _) (fun b _ _=>by rw[hh]) (fun y o hy _=>⟨hy,rfl,rfl⟩) (fun _ _ _ hf=>hf.elim)
    (fun y o hy hn => by rcases hn with hn | hn; · rw [hy] at hn; cases hn
                         · exact hn.elim)
    (fun y z o o' _ hy _ hn _ => by rcases hn with hn | hn; · rw [hy] at hn; cases hn
                                    · exact hn.elim)
    (fun _ _ y o hy hn => by rcases hn with hn | hn; · rw [hy] at hn; cases hn
                             · exact hn.elim)
theorem ZAh {ops:Array Oper} {md:Region.Mode} {S S':World→Prop} (hS:∀w,S w→S' w):∀(f:Nat) (listed:Array Bool) (a:Act) (w:World),wpAnyH P md ops Q S f listed a w→wpAnyH P md ops Q S' f listed a w
  |0,_,_,_,h=>h
  |f+1,_,_,_,h=>⟨h.1,fun i hi=>wpOp_mono (fun a' w' h'=>⟨hS _ h'.1,ZAh hS f _ a' w' h'.2⟩) (h.2 i hi)⟩
theorem ZCi {ops:Array Oper} {i:Nat} {o:Oper} (h:ops.toList[i]? = some o):ops[i]? = some o:=by rw[←Xbv];exact h
theorem ZHP (hT:ZbB P C.y) (hC:ZkD P C) (hn:Γ.n=C.n) {ops:Array Oper} (hsel:Region.noSelect ops=true) {kk:Env→St→Prop} {G:Act→World→Prop}
    (hfin:∀ρ' st' val' fp' a' w',kk ρ' st'→Sim Γ val' fp' ρ' st' a' w'→Stays val0 val' st0 st'→G a' w') (s:Sched) :
    (∀(f:Nat) (listed:Array Bool) (ρ:Env) (st:St) (val:Nat→Value) (fp:Nat→List Nat) (a:Act) (w:World) (B:List (Nat×Option Obj)),okS ops s false f listed=true→evS C ops.toList kk s ρ st →
      Sim Γ val fp ρ st a w→Stays val0 val st0 st→(∀p∈B,p.1<w.heap.size∧¬ZI Γ.X st fp p.1∧w.heap[p.1]? = p.2) →
      wpAnyH P .any ops (fun e a w=>e = .normal∧G a w) (fun w1=>∀p∈B,w1.heap[p.1]? = p.2) f listed a w) ∧
    (∀(f:Nat) (listed:Array Bool) (ρ:Env) (st:St) (val:Nat→Value) (fp:Nat→List Nat) (a:Act) (w:World) (B:List (Nat×Option Obj)),okS ops s true f listed=true→evS C ops.toList kk s ρ st →
      Sim Γ val fp ρ st a w→Stays val0 val st0 st→(∀p∈B,p.1<w.heap.size∧¬ZI Γ.X st fp p.1∧w.heap[p.1]? = p.2) →
      ∀i∈s.alts,wpOp P ops (fun e a w=>e = .normal∧G a w) i (fun a' w'=>(∀p∈B,w'.heap[p.1]? = p.2)∧wpAnyH P .any ops (fun e a w=>e = .normal∧G a w) (fun w1=>∀p∈B,w1.heap[p.1]? = p.2) f (listed.setIfInBounds i true) a' w') a w):=by
  induction s with
  |done=>
    refine⟨fun f listed ρ st val fp a w B hok he h hs hB=>?_,fun f listed ρ st val fp a w B hok=>?_⟩
    · have hr:Region.ready .any ops listed=[]:=by simpa [okS]using hok
      have hG:=hfin ρ st val fp a w he h hs
      cases f with
      |zero=>exact⟨hr,rfl,hG⟩
      |succ f=>exact⟨fun _=>⟨rfl,hG⟩,fun i hi=>by rw[hr]at hi;cases hi⟩
    · simp[okS]at hok
  |stop=>
    refine⟨fun f listed ρ st val fp a w B hok=>?_,fun f listed ρ st val fp a w B hok he h hs hB i hi=>by cases hi⟩
    simp[okS]at hok
  |first i r ih=>
    refine⟨fun f listed ρ st val fp a w B hok he h hs hB=>?_,fun f listed ρ st val fp a w B hok=>?_⟩
    · cases f with
      |zero=>simp[okS]at hok
      |succ f=>
        simp only[okS,Xae]at hok
        obtain⟨⟨hr,hf⟩,hok⟩:=hok
        have he:match ops.toList[i]? with
          |some o=>match ZrI ρ o with
            |true=>Zwf C ops.toList o (evS C ops.toList kk r) ρ st
            |false=>False
          |none=>False:=he
        split at he
        · rename_i o ho
          have ho':=ZCi ho
          split at he
          · rename_i hfo
            refine Zyh h hn he (fun ρ' hρ h' hw hd he'=>?_) (fun ρ' h' hw hsim he'=>?_)
            · have hfo':ZrI ρ' o=true:=ZHz hρ hfo
              obtain⟨B0,hB0,v,hy,hK⟩:=ZMp hT h' hfo' he' (K:=fun a' w'=>∀B':List (Nat×Option Obj),(∀p∈B',p.1<w.heap.size∧¬ZI Γ.X st fp p.1∧w.heap[p.1]? = p.2) →
                  wpAnyH P .any ops (fun e a w=>e = .normal∧G a w) (fun w1=>∀p∈B',w1.heap[p.1]? = p.2) f (listed.setIfInBounds i true) a' w')
                (fun av st' v val' fp' hk hstep hav B' hB'=>ih.1 f _ _ _ _ _ _ _ B' hok hk ((h'.step hstep).put hd hav) (hs.trans hstep.stays) (fun p hp=>by
                  obtain⟨q1,q2,q3⟩:=hB' p hp
                  exact⟨q1,fun hno=>q2 (hstep.kept.more _ q1 hno),q3⟩))
              have hB':∀p∈B0.map (fun b=>(b,w.heap[b]?))++B,p.1<w.heap.size∧¬ZI Γ.X st fp p.1∧w.heap[p.1]? = p.2:=by
                intro p hp
                rcases List.mem_append.1 hp with hp|hp
                · obtain⟨b,hb,rfl⟩:=XaF.1 hp
                  exact⟨(hB0 b hb).1,(hB0 b hb).2,rfl⟩
                · exact hB p hp
              have hH:=hK _ hB'
              refine ZAh (S:=fun w1=>∀p∈B0.map (fun b=>(b,w.heap[b]?))++B,w1.heap[p.1]? = p.2) (fun w1 h1 p hp=>h1 p (Xa2 _ hp)) _ _ _ _
                (wpAnyH_take ho' hsel hf hr (fun c a w hq=>by cases hq.1) (.inl ⟨hw,fun w1 hw1=>hy w1 fun b hb=>hw1 (b,w.heap[b]?) (Xa4 _ (XaF.2 ⟨b,hb,rfl⟩))⟩) (fun p hp=>(hB' p hp).2.2) hH)
            · exact wpAnyH_take ho' hsel hf hr (fun c a w hq=>by cases hq.1) (.inr ⟨hw,rfl⟩) (fun p hp=>(hB p hp).2.2) (ih.1 f _ _ _ _ _ _ _ B hok he' hsim hs hB)
          · exact he.elim
        · exact he.elim
    · simp[okS]at hok
  |alt i r m ihr ihm=>
    have main:∀(f:Nat) (listed:Array Bool) (ρ:Env) (st:St) (val:Nat→Value) (fp:Nat→List Nat) (a:Act) (w:World) (B:List (Nat×Option Obj)),okS ops (.alt i r m) true f listed=true→evS C ops.toList kk (.alt i r m) ρ st →
      Sim Γ val fp ρ st a w→Stays val0 val st0 st→(∀p∈B,p.1<w.heap.size∧¬ZI Γ.X st fp p.1∧w.heap[p.1]? = p.2) →
      ∀i'∈(Sched.alt i r m).alts,wpOp P ops (fun e a w=>e = .normal∧G a w) i' (fun a' w'=>(∀p∈B,w'.heap[p.1]? = p.2)∧wpAnyH P .any ops (fun e a w=>e = .normal∧G a w) (fun w1=>∀p∈B,w1.heap[p.1]? = p.2) f (listed.setIfInBounds i' true) a' w') a w:=by
      intro f listed ρ st val fp a w B hok he h hs hB i' hi'
      simp only[okS,Xae]at hok
      have he:match ops.toList[i]? with
        |some o=>Zwf C ops.toList o (evS C ops.toList kk r) ρ st∧evS C ops.toList kk m ρ st
        |none=>False:=he
      split at he
      · rename_i o ho
        have ho':=ZCi ho
        obtain⟨he1,he2⟩:=he
        rcases XaA.1 hi' with rfl|hi'
        · unfold wpOp
          simp only[ho']
          refine Zyh h hn he1 (fun ρ' hρ h' hw hd he'=>?_) (fun ρ' h' hw hsim he'=>?_)
          · rw[if_pos hw]
            refine .inl (ZGx hT hC h' he' fun av st' v val' fp' w' hk' hstep hav=>?_)
            have hB':∀p∈B,p.1<w'.heap.size∧¬ZI Γ.X st' fp' p.1∧w'.heap[p.1]? = p.2:=fun p hp=>by
              obtain⟨q1,q2,q3⟩:=hB p hp
              exact⟨XaS q1 hstep.kept.size,fun hno=>q2 (hstep.kept.more _ q1 hno),by rw[hstep.kept.block _ q1 q2,q3]⟩
            exact⟨fun p hp=>(hB' p hp).2.2,ihr.1 f _ _ _ _ _ _ _ B hok.1 hk' ((h'.step hstep).put hd hav) (hs.trans hstep.stays) hB'⟩
          · rw[if_neg (by rw[hw];simp)]
            exact⟨fun p hp=>(hB p hp).2.2,ihr.1 f _ _ _ _ _ _ _ B hok.1 he' hsim hs hB⟩
        · exact ihm.2 f listed ρ st val fp a w B hok.2 he2 h hs hB i' hi'
      · exact he.elim
    refine⟨fun f listed ρ st val fp a w B hok he h hs hB=>?_,main⟩
    cases f with
    |zero=>simp[okS]at hok
    |succ f=>
      simp only[okS,Xae,Xaf]at hok
      exact wpAnyH_all hok.1.1 (by simp) (main f listed ρ st val fp a w B (by simp only[okS,Xae];exact⟨hok.1.2,hok.2⟩) he h hs hB)
theorem Ze5 (hM:P.follows .mixedOrders=true) (hT:ZbB P C.y) (hC:ZkD P C):∀(c:Code) (k:Ex→Env→St→Prop) (ρ:Env) (st:St),evC P C c k ρ st→SemC P C c k ρ st
  | .skip,k,ρ,st,he=>fun Γ val0 st0 val fp a w Q hn h0 h hs hk=>wp_skip (hk .normal _ _ _ _ _ _ he h hs)
  | .region id ops false,k,ρ,st,he=>fun Γ val0 st0 val fp a w Q hn h0 h hs hk=>
    wp_region_list (ZAM hT hC hn ops.toList he h hs fun ρ' st' val' fp' a' w' h1 h2 h3=>hk .normal ρ' st' val' fp' a' w' h1 h2 h3)
  | .region id ops true,k,ρ,st,he=>fun Γ val0 st0 val fp a w Q hn h0 h hs hk=>by
    have he:match lkS C.sched id with
      |none=>(Zqw ops.toList&&Region.lexB .any ops)=true∧ZsE C ops.toList (k .normal) ops.toList ρ st
      |some s=>(Region.noSelect ops&&okS ops s false ops.size (Array.replicate ops.size false))=true∧evS C ops.toList (k .normal) s ρ st:=he
    have hdr:Sim Γ val fp ρ st a { w with drawn:=w.drawn+1 }:=h.step (ZDV h.toObjs (w':={ w with drawn:=w.drawn+1 }) rfl rfl rfl rfl (Nat.le_succ _))
    split at he
    rotate_left
    · rename_i s _
      obtain⟨hb,he⟩:=he
      simp only[Xae]at hb
      refine wp_mono (wp_region_held hM ((ZHP hT hC hn hb.1 (G:=fun a' w'=>Q .normal a' w') (kk:=k .normal) (fun ρ' st' val' fp' a' w' h1 h2 h3=>hk .normal ρ' st' val' fp' a' w' h1 h2 h3) s).1 _ _ _ _ _ _ _ _ [] hb.2 he hdr hs (fun p hp=>by cases hp))) ?_
      intro e a w hq
      rw[hq.1]
      exact hq.2
    obtain⟨hb,he⟩:=he
    simp only[Xae]at hb
    refine wp_region_still hM hb.2 (ZyN hT hn ops.toList hb.1 he (h.step (ZDV h.toObjs (w':={ w with drawn:=w.drawn+1 }) rfl rfl rfl rfl (Nat.le_succ _))) hs ?_)
    exact fun ρ' st' val' fp' a' h1 h2 h3=>hk .normal ρ' st' val' fp' a' _ h1 h2 h3
  | .seq x y,k,ρ,st,he=>fun Γ val0 st0 val fp a w Q hn h0 h hs hk=>by
    have he:match ZIa C.cut y with
      |false=>evC P C x (thn (evC P C y k) k) ρ st
      |true=>SemC P C (.seq x y) k ρ st:=he
    split at he
    · refine wp_seq (Ze5 hM hT hC x _ ρ st he Γ val0 st0 val fp a w _ hn h0 h hs ?_)
      intro e ρ' st' val' fp' a' w' h1 h2 h3
      cases e with
      |normal=>exact Ze5 hM hT hC y k ρ' st' h1 Γ val0 st0 val' fp' a' w' Q hn h0 h2 h3 hk
      |exit i=>exact hk _ _ _ _ _ _ _ h1 h2 h3
      |ret=>exact hk _ _ _ _ _ _ _ h1 h2 h3
    · exact he Γ val0 st0 val fp a w Q hn h0 h hs hk
  | .cond c x y,k,ρ,st,he=>fun Γ val0 st0 val fp a w Q hn h0 h hs hk=>by
    have hc:=ZU h c
    have he:match ev1 ρ c with
      | .c (.kb true)=>evC P C x k ρ st
      | .c (.kb false)=>evC P C y k ρ st
      | .c (.bool b)=>(b=true→evC P C x k (ZGd ρ c true) st)∧(b=false→evC P C y k (ZGd ρ c false) st)
      |_=>False:=he
    split at he
    · rename_i hb
      rw[hb]at hc
      exact wp_cond_true hc (Ze5 hM hT hC x k ρ st he Γ val0 st0 val fp a w Q hn h0 h hs hk)
    · rename_i hb
      rw[hb]at hc
      exact wp_cond_false hc (Ze5 hM hT hC y k ρ st he Γ val0 st0 val fp a w Q hn h0 h hs hk)
    · rename_i b hb
      rw[hb]at hc
      have hc':a.eval c = .bool b:=hc
      have hknow:∀b',b=b'→Sim Γ val fp (ZGd ρ c b') st a w:=fun b' e=>by
        cases c with
        |tmp t=>exact h.upd_env (d:=t) (x:=.c (.kb b')) (show a.tmps.getD t undef = .bool b' by rw[←e];exact hc')
        |_=>exact h
      cases b with
      |true=>exact wp_cond_true hc' (Ze5 hM hT hC x k _ st (he.1 rfl) Γ val0 st0 val fp a w Q hn h0 (hknow true rfl) hs hk)
      |false=>exact wp_cond_false hc' (Ze5 hM hT hC y k _ st (he.2 rfl) Γ val0 st0 val fp a w Q hn h0 (hknow false rfl) hs hk)
    · exact he.elim
  | .block id b,k,ρ,st,he=>fun Γ val0 st0 val fp a w Q hn h0 h hs hk=>by
    refine wp_block (Ze5 hM hT hC b _ ρ st he Γ val0 st0 val fp a w _ hn h0 h hs ?_)
    intro e ρ' st' val' fp' a' w' h1 h2 h3
    cases e with
    |normal=>exact hk .normal _ _ _ _ _ _ h1 h2 h3
    |ret=>exact hk .ret _ _ _ _ _ _ h1 h2 h3
    |exit i=>
      simp only[ZNw,Exit.inBlock]
      simp only[blk]at h1
      cases hi:Nat.beq i id with
      |true=>
        rw[hi]at h1
        rw[if_pos (ZR.1 hi)]
        exact hk .normal _ _ _ _ _ _ h1 h2 h3
      |false=>
        rw[hi]at h1
        rw[if_neg (fun e=>by rw[ZR.2 e]at hi;cases hi)]
        exact hk (.exit i) _ _ _ _ _ _ h1 h2 h3
  | .loop b,k,ρ,st,he=>he
  | .exit id,k,ρ,st,he=>fun Γ val0 st0 val fp a w Q hn h0 h hs hk=>wp_exit (hk (.exit id) _ _ _ _ _ _ he h hs)
  | .ret,k,ρ,st,he=>fun Γ val0 st0 val fp a w Q hn h0 h hs hk=>wp_ret (hk .ret _ _ _ _ _ _ he h hs)
  | .rangeFunc ..,_,_,_,he=>he.elim
  | .scope _,_,_,_,he=>he.elim
  | .label _,_,_,_,he=>he.elim
  | .goto _,_,_,_,he=>he.elim
  | .refuse _,_,_,_,he=>he.elim
theorem Leads.refl (ρ:Env) (st:St):Leads C ρ st ρ st:=fun _ _ _ val fp _ _ _ _ h hs=>⟨val,fp,h,hs⟩
theorem Leads.trans {ρ'':Env} (h:Leads C ρ st ρ' st') (k:Leads C ρ' st' ρ'' st''):Leads C ρ st ρ'' st'':=fun Γ val0 st0 val fp a w hn h0 hs hst=>by
  obtain⟨val',fp',h1,h2⟩:=h Γ val0 st0 val fp a w hn h0 hs hst
  exact k Γ val0 st0 val' fp' a w hn h0 h1 h2
theorem SemC.leads {c:Code} {kk:Ex→Env→St→Prop} (h:SemC P C c kk ρ' st') (hl:Leads C ρ st ρ' st'):SemC P C c kk ρ st:=fun Γ val0 st0 val fp a w Q hn h0 hs hst hk=>by
  obtain⟨val',fp',h1,h2⟩:=hl Γ val0 st0 val fp a w hn h0 hs hst
  exact h Γ val0 st0 val' fp' a w Q hn h0 h1 h2 hk
theorem SemC.mono {c:Code} {kk kk':Ex→Env→St→Prop} (h:SemC P C c kk ρ st) (hl:∀e ρ st,kk e ρ st→kk' e ρ st):SemC P C c kk' ρ st:=fun Γ val0 st0 val fp a w Q hn h0 hs hst hk=>
  h Γ val0 st0 val fp a w Q hn h0 hs hst fun e ρ' st' val' fp' a' w' h1 h2 h3=>hk e ρ' st' val' fp' a' w' (hl _ _ _ h1) h2 h3
theorem ZKE (hM:P.follows .mixedOrders=true) (hT:ZbB P C.y) (hC:ZkD P C) {S:Type} (I:S→Env×St) (μ:S→Nat) {b:Code} {kk:Ex→Env→St→Prop} (s0:S) (h0:Leads C ρ st (I s0).1 (I s0).2)
    (round:∀s,evC P C b (thn (fun ρ' st'=>∃s',μ s' < μ s∧Leads C ρ' st' (I s').1 (I s').2) kk) (I s).1 (I s).2):SemC P C (.loop b) kk ρ st:=by
  refine SemC.leads (ρ':=(I s0).1) (st':=(I s0).2) ?_ h0
  intro Γ val0 st0 val fp a w Q hn hh hs hst hk
  refine wp_loop_ghost (fun n a w=>∃s val fp,μ s=n∧Sim Γ val fp (I s).1 (I s).2 a w∧Stays val0 val st0 (I s).2) (μ s0) ⟨s0,val,fp,rfl,hs,hst⟩ ?_
  rintro n a1 w1 ⟨s,val1,fp1,rfl,hs1,hst1⟩
  refine Ze5 hM hT hC b _ _ _ (round s) Γ val0 st0 val1 fp1 a1 w1 _ hn hh hs1 hst1 ?_
  intro e ρ' st' val' fp' a' w' h1 h2 h3
  cases e with
  |normal=>
    obtain⟨s',hlt,hl⟩:=h1
    obtain⟨val2,fp2,h4,h5⟩:=hl Γ val0 st0 val' fp' a' w' hn hh h2 h3
    exact⟨μ s',hlt,s',val2,fp2,rfl,h4,h5⟩
  |exit i=>exact hk _ _ _ _ _ _ _ h1 h2 h3
  |ret=>exact hk _ _ _ _ _ _ _ h1 h2 h3
end
end Go.AE
namespace Go.AE
open Go Go.RowKit
def nth:List AV→Nat→AV
 |[],_=>.c .undef
 |x::_,0=>x
 |_::r,i+1=>nth r i
def ZJz:AV→Bool
 | .tup _=>true
 |_=>false
def Zzu (C:Cfg) (st:St) (v:AV) (t:TypeId):Option AV:=
 match v with
 | .c (.ptr x 0)=>match lk st x with
  |some (.rc cs)=>match lk C.y.ty t,lk C.y.ag t with
   |some ty,some ag=>ZpG ty.size ag (cut ty.size 0 cs)
   |_,_=>none
  |_=>none
 |_=>none
def Zns (C:Cfg) (st:St) (ρ:Env):List ResultVar→Option (List AV)
 |[]=>some []
 | .tmp t::r=>match ZJz (ρ t)with
  |true=>none
  |false=>match Zns C st ρ r with|some l=>some (ρ t::l)|none=>none
 | .cell a t::r=>match Zzu C st (ρ a) t with
  |some v=>match Zns C st ρ r with|some l=>some (v::l)|none=>none
  |none=>none
def ZJV (C:Cfg) (st:St) (l:List ResultVar) (ρ:Env):Option AV:=
 match l with
 |[.tmp t]=>some (ρ t)
 |[.cell a t]=>Zzu C st (ρ a) t
 |l=>match Zns C st ρ l with|some l=>some (.tup l)|none=>none
def wkC:CV→CV
 | .kb b=>.bool b
 |x=>x
def wk1:AV→AV
 | .c x=>.c (wkC x)
 |x=>x
def wkA:AV→AV
 | .c x=>.c (wkC x)
 | .agg l=>.agg l
 | .tup l=>.tup (l.map wk1)
def ZE4 (C:Cfg) (res:List ResultVar) (k:AV→St→Prop) (ρ:Env) (st:St):Prop:=
 match ZJV C st res ρ with|some av=>k (wkA av) st|none=>False
def ZJy:Ex→Bool
 | .exit _=>false
 |_=>true
structure ZLV (C:Cfg) (res:List ResultVar) (k:AV→St→Prop) (e:Ex) (ρ:Env) (st:St):Prop where
 fin:ZJy e=true
 out:∃ρ' st',Leads C ρ st ρ' st'∧ZE4 C res k ρ' st'
def ZE8 (h:Nat):St→Bool
 |[]=>true
 |(i,_)::r=>match Nat.blt i h with|true=>ZE8 h r|false=>false
def ZJm (P:Program) (C:Cfg) (fn:Func) (c:Code) (con:Con):Prop:=
 ∀(args:List AV) (st:St) (k:AV→St→Prop),ZbD (con args st) k→Nat.ble args.length C.n=true∧ZE8 C.h st=true∧evC P C c (ZLV C fn.results.toList k) (nth args) st
section
variable {P:Program} {C:Cfg} {Γ:Ctx} {val val' val'' val0:Nat→Value} {fp fp' fp'':Nat→List Nat} {ρ ρ':Env} {st st' st'' st0:St} {a:Act} {w w' w'':World} {o:Oper} {k:AV→St→Prop} {K:Act→World→Prop} {Q:Exit→Act→World→Prop}
theorem Zv1 {h:Nat}:∀{st:St},ZE8 h st=true→∀x o,lk st x=some o→x<h
 |(i,o')::r,hb,x,o,hx=>by
  unfold ZE8 at hb
  split at hb
  ·rename_i hi
   rw[Z2]at hx
   split at hx
   ·rename_i e;rw[e];exact Zeq hi
   ·exact Zv1 hb x o hx
  ·cases hb
theorem ZIs {N:Nat→Prop}:∀{args:List AV} {vs:List Value},All2 (AvRep w N val st) args vs→∀t,AvRep w N val st (nth args t) (vs.getD t undef)
 |[],[],_,t=>trivial
 |_::_,_::_,⟨h,_⟩,0=>h
 |x::r,v::vs,⟨_,h⟩,t+1=>by
  have:=ZIs h t
  show AvRep w N val st (nth r t) ((v::vs).getD (t+1) undef)
  simpa using this
 |[],_::_,h,_=>h.elim
 |_::_,[],h,_=>h.elim
theorem ZGr:∀{args:List AV} {t:Nat},args.length≤t→nth args t = .c .undef
 |[],_,_=>rfl
 |_::r,t+1,h=>ZGr (args:=r) (by simpa using h)
 |_::_,0,h=>by simp at h
theorem ZKb {N:Nat→Prop} {x:AV} {v:Value} (ht:ZJz x=false) (h:AvRep w N val st x v):Av1 w N val st x v:=by
 cases x with
 |c x=>exact h
 |agg l=>exact h
 |tup l=>cases ht
theorem ZGG (hT:ZbB P C.y) {ty:TypeId} {t:Ty} {ag:Bool} (h1:lk C.y.ty ty=some t) (h2:lk C.y.ag ty=some ag) {b o:Nat} {vs:List Value} {cs:List CV} {N:Nat→Prop} {av:AV}
  (hav:ZpG t.size ag cs=some av) (hr:All2 (CvRep w N val st) cs vs) (hc:∀i,i<t.size→w.cell? ⟨b,o+i,none⟩=vs[i]?) :
  ∃v,(loadVar ty ⟨b,o,none⟩).run P w = .ok v w∧AvRep w N val st av v:=by
 obtain⟨i,z,d,hi,hsz,_,_,_,hu,_⟩:=hT.ty ty t h1
 obtain⟨d',hu',hag⟩:=hT.ag ty ag h2
 rw[hu]at hu'
 obtain rfl:=Option.some.inj hu'
 obtain⟨hl,hcase⟩:=ZiV hav
 have hlen:vs.length=t.size:=by rw[←hr.length];exact hl
 have hisagg:(isAgg ty).run P w = .ok ag w:=by
  unfold isAgg
  simp only[Sem.run_bind,run_underlying hu,Result.andThen_ok]
  cases d<;>simp at hag<;>subst hag<;>rfl
 have hsize:(sizeOf ty).run P w = .ok t.size w:=by simp[sizeOf,typeInfo,hi,hsz]
 rcases hcase with⟨rfl,rfl⟩|⟨rfl,x,rfl,rfl⟩
 ·have hload:=run_loadCells_list (P:=P) w ⟨b,o,none⟩ vs (fun j v hj=>by
   have hj':j<vs.length:=(Xbn.1 hj).1
   rw[Addr.add_lit,hc j (by omega)];exact hj)
  rw[hlen]at hload
  refine⟨.agg vs.toArray,?_,vs.toArray,rfl,by simpa using hr⟩
  simp[loadVar,hisagg,hsize,hload]
 ·match vs,hr with
  |[v],hr=>
   have h0:=hc 0 (t.size_pos)
   refine⟨v,?_,hr.1⟩
   simp at h0
   simp[loadVar,hisagg,h0]
theorem ZyS (hT:ZbB P C.y) (ho:Objs Γ val fp st w) {v:AV} {u:Value} {t:TypeId} {av:AV} (hu:AvRep w (ZI Γ.X st fp) val st v u) (h:Zzu C st v t=some av) :
  ∃r,(do loadVar t (←asAddr u):Sem Value).run P w = .ok r w∧AvRep w (ZI Γ.X st fp) val st av r∧ZJz av=false:=by
 unfold Zzu at h
 split at h
 ·rename_i x
  split at h
  ·rename_i cs hx
   split at h
   ·rename_i ty ag h1 h2
    obtain⟨cs0,g,q1,q2,q3⟩:=hu
    rw[hx]at q1
    cases q1
    obtain⟨g',cur,e,r1,r2,r3,r4⟩:=ho.rep x _ hx
    rw[q2]at r1
    obtain rfl:g=g':=by simpa using r1
    obtain⟨r,k1,k2⟩:=ZGG (P:=P) (b:=g) (o:=0) hT h1 h2 h (r4.cut ty.size 0) (fun i hi=>by
     rw[ZQ hi,cell_of_row w g (0+i) cur e (0,0) r3]
     simp)
    refine⟨r,?_,k2,?_⟩
    ·rw[q3]
     simp[asAddr,k1]
    ·obtain⟨_,hc⟩:=ZiV h
     rcases hc with⟨_,rfl⟩|⟨_,_,_,rfl⟩<;>rfl
   ·cases h
  ·cases h
 ·cases h
theorem ZtH (hT:ZbB P C.y) (ho:Objs Γ val fp st w) {tmps:Array Value} (h:∀t,AvRep w (ZI Γ.X st fp) val st (ρ t) (tmps.getD t undef)):∀{l:List ResultVar} {avs:List AV},Zns C st ρ l=some avs →
  ∃vs:List Value,(l.mapM (m:=Sem) fun | .tmp t=>pure (tmps.getD t undef) | .cell a t=>do loadVar t (←asAddr (tmps.getD a undef))).run P w = .ok vs w∧All2 (Av1 w (ZI Γ.X st fp) val st) avs vs
 |[],avs,e=>by cases e;exact⟨[],by simp,trivial⟩
 | .tmp t::r,avs,e=>by
  unfold Zns at e
  split at e
  ·cases e
  ·rename_i ht
   split at e
   ·rename_i l hl
    cases e
    obtain⟨vs,h1,h2⟩:=ZtH hT ho h hl
    refine⟨tmps.getD t undef::vs,?_,ZKb ht (h t),h2⟩
    rw[List.mapM_cons]
    simp only[Sem.run_bind,Sem.run_pure,Result.andThen_ok]
    rw[h1]
    rfl
   ·cases e
 | .cell a t::r,avs,e=>by
  unfold Zns at e
  split at e
  ·rename_i v hv
   split at e
   ·rename_i l hl
    cases e
    obtain⟨vs,h1,h2⟩:=ZtH hT ho h hl
    obtain⟨u,k1,k2,k3⟩:=ZyS hT ho (h a) hv
    refine⟨u::vs,?_,ZKb k3 k2,h2⟩
    rw[List.mapM_cons]
    simp only[Sem.run_bind,Sem.run_pure,Result.andThen_ok]at k1 h1 ⊢
    rw[k1]
    simp only[Result.andThen_ok]
    rw[h1]
    rfl
   ·cases e
  ·cases e
theorem ZHN (hT:ZbB P C.y) (ho:Objs Γ val fp st w) {tmps:Array Value} {fn:Func} {av:AV} (h:∀t,AvRep w (ZI Γ.X st fp) val st (ρ t) (tmps.getD t undef)) (hr:ZJV C st fn.results.toList ρ=some av) :
  ∃v,(results fn tmps).run P w = .ok v w∧AvRep w (ZI Γ.X st fp) val st av v:=by
 have key:∀{vs:List Value},(fn.results.toList.mapM (m:=Sem) fun | .tmp t=>pure (tmps.getD t undef) | .cell a t=>do loadVar t (←asAddr (tmps.getD a undef))).run P w = .ok vs w →
   (results fn tmps).run P w = .ok (if h:vs.length=1 then vs[0]else .tuple vs.toArray) w:=fun {vs} hvs=>by
  unfold results
  rw[Array.mapM_eq_mapM_toList]
  simp only[Sem.run_bind,bind_assoc,map_eq_pure_bind]
  erw [hvs]
  simp[Xbj]
 unfold ZJV at hr
 split at hr
 ·rename_i t hl
  cases hr
  refine⟨tmps.getD t undef,?_,h t⟩
  rw[key (vs:=[tmps.getD t undef]) (by rw[hl];simp)]
  simp
 ·rename_i a t hl
  obtain⟨u,k1,k2,k3⟩:=ZyS hT ho (h a) hr
  refine⟨u,?_,k2⟩
  rw[key (vs:=[u]) (by
   rw[hl,List.mapM_cons]
   simp only[Sem.run_bind,Sem.run_pure,Result.andThen_ok]at k1 ⊢
   rw[k1]
   rfl)]
  simp
 ·rename_i hne hne2
  split at hr
  ·rename_i l hl
   cases hr
   obtain⟨vs,h1,h2⟩:=ZtH (P:=P) hT ho h hl
   refine⟨.tuple vs.toArray,?_,vs.toArray,rfl,by simpa using h2⟩
   rw[key h1]
   have hlen:=h2.length
   have:vs.length≠1:=fun e=>by
    rw[e]at hlen
    have hl':∀{L:List ResultVar} {l:List AV},Zns C st ρ L=some l→L.length=l.length:=by
     intro L
     induction L with
     |nil=>intro l e;cases e;rfl
     |cons x r ih=>
      intro l e
      cases x with
      |cell _ _=>
       unfold Zns at e
       split at e
       ·split at e
        ·rename_i l2 hl2;cases e;simp[ih hl2]
        ·cases e
       ·cases e
      |tmp t=>
       unfold Zns at e
       split at e
       ·cases e
       ·split at e
        ·rename_i l2 hl2;cases e;simp[ih hl2]
        ·cases e
    have h3:=hl' hl
    rw[hlen]at h3
    match hq:fn.results.toList,h3 with
    |[.tmp t],_=>exact hne t hq
    |[.cell a t],_=>exact hne2 a t hq
   rw[dif_neg this]
  ·cases hr
theorem ZIH {N:Nat→Prop} {x:CV} {v:Value} (h:CvRep w N val st x v):CvRep w N val st (wkC x) v:=by
 cases x<;>exact h
theorem ZNk {N:Nat→Prop} {x:AV} {v:Value} (h:Av1 w N val st x v):Av1 w N val st (wk1 x) v:=by
 cases x with
 |c x=>exact ZIH h
 |agg l=>exact h
 |tup l=>exact h
theorem ZNl {N:Nat→Prop} {x:AV} {v:Value} (h:AvRep w N val st x v):AvRep w N val st (wkA x) v:=by
 cases x with
 |c x=>exact ZIH h
 |agg l=>exact h
 |tup l=>
  obtain⟨vs,h1,h2⟩:=h
  refine⟨vs,h1,?_⟩
  generalize vs.toList=m at h2
  induction l generalizing m with
  |nil=>exact h2
  |cons x r ih=>
   cases m with
   |nil=>exact h2.elim
   |cons v m=>exact⟨ZNk h2.1,ih m h2.2⟩
theorem ZHy (hM:P.follows .mixedOrders=true) (hT:ZbB P C.y) (hC:ZkD P C) {f:FuncId} {fn:Func} {c:Code} {con:Con} (hf:P.funcs[f]? = some fn) (hb:fn.body=some c) (hnt:fn.ntmps=C.n)
  (h:ZJm P C fn c con):ZJl P f con:=by
 intro args st k he X n val fp w vs hO hA
 obtain⟨h1,h2,h3⟩:=h args st k he
 have hlen:args.length≤C.n:=by simpa using h1
 have hsz:vs.size=args.length:=by have:=hA.length;simp[this]
 refine calls_of_wp hf hb ?_
 have hsim:Sim ⟨w,X,ZrY st fp,C.n⟩ val fp (nth args) st { tmps:=vs++Array.replicate (fn.ntmps - vs.size) undef,defers:=[] } w:=by
  refine { toObjs:=⟨hO.fr,hO.rep,hO.own,hO.apart,hO.low⟩,defers:=rfl,size:=by simp only[Array.size_append,Array.size_replicate,hnt];omega,env:=fun t=>?_ }
  have:=ZIs hA t
  by_cases ht:t<vs.size
  ·have e:(vs++Array.replicate (fn.ntmps - vs.size) undef).getD t undef=vs.toList.getD t undef:=by
    simp[Array.getD_eq_getD_getElem?,Array.getElem?_append,ht]
   rw[e];exact this
  ·rw[ZGr (by omega)];trivial
 refine Ze5 hM hT hC c _ _ _ h3 ⟨w,X,ZrY st fp,C.n⟩ val st val fp _ w _ rfl (Zv1 h2) hsim (Stays.refl _ _) ?_
 intro e ρ' st' val' fp' a' w' hk hs hst
 obtain⟨hfin,ρ2,st2,hl,hout⟩:=hk
 obtain⟨val2,fp2,hs2,hst2⟩:=hl ⟨w,X,ZrY st fp,C.n⟩ val st val' fp' a' w' rfl (Zv1 h2) hs hst
 unfold ZE4 at hout
 split at hout
 ·rename_i av hav
  obtain⟨v,hv1,hv2⟩:=ZHN (P:=P) (fn:=fn) hT hs2.toObjs hs2.env hav
  have hb:bodyPost P fn (fun e w'=>∃v av st' val' fp',e = .returned v∧k av st'∧Objs ⟨w,X,ZrY st fp,n⟩ val' fp' st' w'∧Stays val val' st st'∧AvRep w' (ZI X st' fp') val' st' av v) .ret a' w':=
   bodyPost_ret hv1 hs2.defers ⟨v,wkA av,st2,val2,fp2,rfl,hout,⟨hs2.fr,hs2.rep,hs2.own,hs2.apart,hs2.low⟩,hst2,ZNl hv2⟩
  cases e with
  |exit i=>cases hfin
  |normal=>exact hb
  |ret=>exact hb
 ·exact hout.elim
end
end Go.AE
namespace Go.AE
open Go Go.RowKit
def Zm (l:List (Nat×AV)):Env:=fun t=>match lk l t with|some v=>v|none=>.c .undef
def EnvOk (ρ:Env):List (Nat×AV)→Prop
 |[]=>True
 |(t,v)::r=>ρ t=v∧EnvOk ρ r
def ren (m:List (Nat×Nat)) (x:Nat):Nat:=match lk m x with|some y=>y|none=>x
def Zgn (st:St) (x:Nat):Bool:=match lk st x with|some _=>true|none=>false
def ZGD (m:List (Nat×Nat)) (st':St):List Nat→List Nat→Prop
 |[],[]=>True
 |x::r,y::s=>(ren m x=y∧Zgn st' x=true)∧ZGD m st' r s
 |_,_=>False
def ZBj:Option Ob→Prop
 |some (.sl _ _ [] .shallow)=>True
 |some (.sl _ _ [] (.deep _ .no))=>True
 |_=>False
def ZMJ (st:St):Bool→Bool→Nat→Prop
 |true,false,y=>match lk st y with|some (.sl _ _ l _)=>l≠[]|_=>False
 |_,_,_=>True
def ZOe:Option Ob→Prop
 |some (.sl _ _ _ .frozen)=>True
 |_=>False
def ZFv (st:St):List Nat→Prop
 |[]=>True
 |z::r=>ZOe (lk st z)∧ZFv st r
def ZML (st:St) (t:Ty) (d:t.den) (x:Nat):Prop:=match lk st x with
 |some (.rc cs)=>ZuS st t cs=some d∧ZFv st (ZeZ cs)
 |_=>False
theorem ZFY {st:St} {z:Nat} {e:TypeId} {t:Ty} {l:List t.den} {kd:ZuI}:∀{r:List Nat},ZFv st r→z∈r→lk st z=some (.sl e t l kd)→lk st z=some (.sl e t l .frozen)
 |[],_,h,_=>by cases h
 |y::r,h1,h2,h3=>by
  rcases XaA.1 h2 with rfl|h2
  ·have h1:=h1.1
   rw[h3]at h1 ⊢
   cases kd with
   |frozen=>rfl
   |_=>exact h1.elim
  ·exact ZFY h1.2 h2 h3
def Zzm (m:List (Nat×Nat)) (x:Nat):St→Bool
 |[]=>true
 |(y,_)::r=>match Nat.beq (ren m y) x with|true=>false|false=>Zzm m x r
def Zmz (m:List (Nat×Nat)) (st' st:St):CV→CV→Prop
 | .undef,_=>True
 | .own x n,.own y n'=>(ren m x=y∧Zgn st' x=true)∧ZMJ st n n' y
 | .own x _,.nil=>lk st (ren m x)=none∧ZBj (lk st' x)
 | .ptr x c,.ptr y c'=>(ren m x=y∧Zgn st' x=true)∧c=c'
 | .eptr x i c,.eptr y j c'=>(ren m x=y∧Zgn st' x=true)∧i=j∧c=c'
 | .fn f cap,.fn g cap'=>f=g∧ZGD m st' cap cap'
 | .view x i,.view y j=>(ren m x=y∧Zgn st' x=true)∧i=j
 | .int k n,y=>y = .int k n
 | .bool b,y=>y = .bool b∨y = .kb b
 | .kb b,y=>y = .kb b
 | .str s,y=>y = .str s
 | .nil,y=>y = .nil
 | .imm t l,y=>y = .imm t l∨(y = .nil∧l=[])∨∃x n e,y = .own x n∧lk st x=some (.sl e t l .frozen)
 | .iptr t d c,y=>y = .iptr t d c∨∃x,y = .ptr x c∧ZML st t d x∧Zzm m x st'=true
 | .skip,y=>y = .skip
 |_,_=>False
def ZJn (m:List (Nat×Nat)) (st' st:St):List CV→List CV→Prop
 |[],[]=>True
 |x::r,y::s=>Zmz m st' st x y∧ZJn m st' st r s
 |_,_=>False
def ZFq (m:List (Nat×Nat)) (st' st:St):AV→AV→Prop
 | .c .undef,_=>True
 | .c x,.c y=>Zmz m st' st x y
 | .agg l,.agg l'=>ZJn m st' st l l'
 |_,_=>False
def ZLX (m:List (Nat×Nat)) (st' st:St) (ρ:Env):List (Nat×AV)→Prop
 |[]=>True
 |(t,v)::r=>ZFq m st' st v (ρ t)∧ZLX m st' st ρ r
def ZFb (m:List (Nat×Nat)) (st' st:St):List Nat→Bool
 |[]=>true
 |y::r=>match Nat.beq (ren m y) y&&Zgn st' y&&Zgn st y with|true=>ZFb m st' st r|false=>false
def ZOb (m:List (Nat×Nat)) (st' st:St) (t:Ty):ZuI→Bool
 | .deep _ (.at _ lo n base)=>ZFb m st' st (ZhW lo n base (ZF t 0))
 |_=>true
def ZpE (m:List (Nat×Nat)) (st' st:St):Ob→Ob→Prop
 | .rc cs,.rc cs'=>ZJn m st' st cs cs'
 | .rc _,_=>False
 | .sl e t l kd,o'=>o' = .sl e t l kd∧ZOb m st' st t kd=true
 | .dead,.rc _=>False
 | .dead,_=>True
def ZvZ:St→St
 |[]=>[]
 |(x,o)::r=>match o with | .dead=>ZvZ r|_=>(x,o)::ZvZ r
def RenS (m:List (Nat×Nat)) (st' st:St):St→Prop
 |[]=>True
 |(x,o')::r=>(match lk st (ren m x)with|some o=>ZpE m st' st o' o|none=>ZBj (some o'))∧RenS m st' st r
def Zzo (m:List (Nat×Nat)) (st':St) (h:Nat):St→Bool
 |[]=>true
 |(x,_)::r=>match Nat.blt x h with
  |true=>match Nat.beq (ren m x) x&&Zgn st' x with|true=>Zzo m st' h r|false=>false
  |false=>Zzo m st' h r
section
variable {P:Program} {C:Cfg} {Γ:Ctx} {val val' val'' val0:Nat→Value} {fp fp' fp'':Nat→List Nat} {ρ ρ':Env} {st st' st'' st0:St} {a:Act} {w w' w'':World} {o:Oper} {k:AV→St→Prop} {K:Act→World→Prop} {Q:Exit→Act→World→Prop}
theorem ZhO {x:Nat} (h:Zgn st x=true):∃o,lk st x=some o:=by
 unfold Zgn at h
 split at h
 ·rename_i o ho;exact⟨o,ho⟩
 ·cases h
theorem EnvOk.at_:∀{l:List (Nat×AV)} {t:Nat} {v:AV},EnvOk ρ l→lk l t=some v→ρ t=v
 |(t',v')::r,t,v,⟨h1,h2⟩,hl=>by
  rw[Z2]at hl
  split at hl
  ·rename_i e;cases hl;rw[e];exact h1
  ·exact h2.at_ hl
theorem Zgg {α:Type _}:∀{l:List (Nat×α)} {x:Nat} {o:α},lk l x=some o→(x,o)∈l
 |(j,oj)::r,x,o,h=>by
  rw[Z2]at h
  split at h
  ·rename_i e;cases h;subst e;exact Xas
  ·exact Xao _ (Zgg h)
theorem RenS.at_ {m:List (Nat×Nat)}:∀{l:St} {x:Nat} {o':Ob},RenS m st' st l→(x,o')∈l→(∃o,lk st (ren m x)=some o∧ZpE m st' st o' o)∨(lk st (ren m x)=none∧ZBj (some o'))
 |(y,oy)::r,x,o',⟨h1,h2⟩,hm=>by
  rcases XaA.1 hm with e|hm
  ·cases e
   split at h1
   ·rename_i o ho;exact .inl ⟨o,ho,h1⟩
   ·rename_i ho;exact .inr ⟨ho,h1⟩
  ·exact h2.at_ hm
theorem ZBx {m:List (Nat×Nat)}:∀{l:List Nat},ZFb m st' st l=true→∀y∈l,ren m y=y∧Zgn st' y=true∧Zgn st y=true
 |z::r,h,y,hy=>by
  unfold ZFb at h
  split at h
  ·rename_i hb
   simp only[Xae]at hb
   rcases XaA.1 hy with rfl|hy
   ·exact⟨ZR.1 hb.1.1,hb.1.2,hb.2⟩
   ·exact ZBx h y hy
  ·cases h
theorem Zwi {m:List (Nat×Nat)} {h:Nat}:∀{l:St},Zzo m st' h l=true→∀x o,lk l x=some o→x<h→ren m x=x∧Zgn st' x=true
 |(y,oy)::r,hf,x,o,hx,hlt=>by
  unfold Zzo at hf
  rw[Z2]at hx
  split at hf
  ·rename_i hb
   split at hf
   ·rename_i h1
    simp only[Xae]at h1
    split at hx
    ·rename_i e;subst e;exact⟨ZR.1 h1.1,h1.2⟩
    ·exact Zwi hf x o hx hlt
   ·cases hf
  ·rename_i hb
   split at hx
   ·rename_i e
    subst e
    rw[show Nat.blt x h=true from by simpa [Nat.blt_eq]using hlt]at hb
    cases hb
   ·exact Zwi hf x o hx hlt
theorem ZD9 {f:Nat→Nat}:∀{l:List Nat},(l.map f).Nodup→∀x∈l,∀y∈l,f x=f y→x=y
 |z::r,h,x,hx,y,hy,e=>by
  rw[XaQ,Xba]at h
  rcases XaA.1 hx with h1|h1
  ·rcases XaA.1 hy with h2|h2
   ·rw[h1,h2]
   ·exact absurd (by rw[←h1,e];exact List.mem_map_of_mem h2) h.1
  ·rcases XaA.1 hy with h2|h2
   ·exact absurd (by rw[←h2,←e];exact List.mem_map_of_mem h1) h.1
   ·exact ZD9 h.2 x h1 y h2 e
theorem Zx9 {m:List (Nat×Nat)} {x:Nat}:∀{l:St} {y:Nat} {o:Ob},Zzm m x l=true→(y,o)∈l→ren m y≠x
 |(z,oz)::r,y,o,hd,hm=>by
  unfold Zzm at hd
  split at hd
  ·cases hd
  ·rename_i hb
   rcases XaA.1 hm with e|hm
   ·cases e
    intro e0
    rw[ZR.2 e0]at hb
    cases hb
   ·exact Zx9 hd hm
theorem Zud {x:Nat} {o:Ob}:∀{l:St},(x,o)∈l→o ≠ .dead→(x,o)∈ZvZ l
 |(y,oy)::r,hm,hd=>by
  unfold ZvZ
  rcases XaA.1 hm with e|hm1
  ·cases e
   split
   ·exact absurd rfl hd
   ·exact Xas
  ·split
   ·exact Zud hm1 hd
   ·exact Xao _ (Zud hm1 hd)
theorem Zc9 (m:List (Nat×Nat)) {l:List (Nat×AV)} (hinj:Zvp ((ZvZ st').map fun p=>ren m p.1)=true) (hfix:Zzo m st' C.h st=true) (hobj:RenS m st' st st') (henv:ZLX m st' st ρ l) :
  Leads C ρ st (Zm l) st':=fun Γ val0 st0 val fp a w hn h0 hs hst=>by
 have hob0:∀x o',lk st' x=some o'→(∃o,lk st (ren m x)=some o∧ZpE m st' st o' o)∨(lk st (ren m x)=none∧ZBj (some o')):=fun x o' hx=>hobj.at_ (Zgg hx)
 have hob:∀x o',lk st' x=some o'→ZBj (some o')∨∃o,lk st (ren m x)=some o∧ZpE m st' st o' o:=fun x o' hx=>(hob0 x o' hx).elim .inr (fun h=>.inl h.2)
 let val':Nat→Value:=fun x=>match lk st (ren m x)with|some _=>val (ren m x)|none=>.slice none 0 0
 let fp':Nat→List Nat:=fun x=>match lk st' x with|some .dead=>[]|_=>match lk st (ren m x)with|some _=>fp (ren m x)|none=>[]
 have hval:∀x o,lk st (ren m x)=some o→val' x=val (ren m x):=fun x o hx=>by simp only[val',hx]
 have hfp:∀x o,lk st (ren m x)=some o→lk st' x≠some .dead→fp' x=fp (ren m x):=fun x o hx hd=>by
  simp only[fp',hx]
 have hfpd:∀x,lk st' x=some .dead→fp' x=[]:=fun x hx=>by simp only[fp',hx]
 have hval0:∀x,lk st (ren m x)=none→val' x = .slice none 0 0:=fun x hx=>by simp only[val',hx]
 have hfp0:∀x,lk st (ren m x)=none→fp' x=[]:=fun x hx=>by
  simp only[fp',hx]
  cases lk st' x with
  |none=>rfl
  |some o=>cases o<;>rfl
 have hinj':∀x y o o',lk st' x=some o→lk st' y=some o'→o ≠ .dead→o' ≠ .dead→ren m x=ren m y→x=y:=fun x y o o' hx hy hd hd' e=>by
  have hnd:=ZuR hinj
  have hnd':(((ZvZ st').map Prod.fst).map (ren m)).Nodup:=by rw[XbH];exact hnd
  exact ZD9 hnd' x (XaF.2 ⟨_,Zud (Zgg hx) hd,rfl⟩) y (XaF.2 ⟨_,Zud (Zgg hy) hd',rfl⟩) e
 have hnogo:∀b,ZI Γ.X st' fp' b→ZI Γ.X st fp b:=by
  rintro b (h1|⟨x,o',h1,h2⟩)
  ·exact .inl h1
  ·rcases hob0 x o' h1 with⟨o,h3,_⟩|⟨h3,_⟩
   ·by_cases hd:o' = .dead
    ·subst hd;rw[hfpd x h1]at h2;cases h2
    ·rw[hfp x o h3 (fun e=>hd (Option.some.inj (h1.symm.trans e)))]at h2;exact .inr ⟨_,o,h3,h2⟩
   ·rw[hfp0 x h3]at h2;cases h2
 have hk:Kept w w (ZI Γ.X st fp) (ZI Γ.X st' fp'):=⟨Nat.le_refl _,fun _ _ _=>rfl,fun b _ h=>hnogo b h⟩
 have hrc:∀{x:Nat} {cs:List CV},lk st (ren m x)=some (.rc cs)→Zgn st' x=true→∃cs',lk st' x=some (.rc cs'):=by
  intro x cs q1 hx
  obtain⟨o',ho'⟩:=ZhO hx
  rcases hob0 x o' ho' with⟨o,p1,p2⟩|⟨p1,_⟩
  ·rw[p1]at q1
   cases q1
   cases o' with
   |rc cs'=>exact⟨cs',ho'⟩
   |sl _ _ _ _=>simp only[ZpE]at p2;cases p2.1
   |dead=>simp only[ZpE]at p2
  ·rw[p1]at q1;cases q1
 have hfn:∀{cap cap':List Nat} {vs:List Value},ZGD m st' cap cap'→fnCaps val st cap' vs→fnCaps val' st' cap vs:=by
  intro cap
  induction cap with
  |nil=>
   intro cap' vs h1 h2
   cases cap' with
   |nil=>cases vs with
    |nil=>trivial
    |cons _ _=>exact h2.elim
   |cons _ _=>exact h1.elim
  |cons x r ih=>
   intro cap' vs h1 h2
   cases cap' with
   |nil=>exact h1.elim
   |cons y s=>
    cases vs with
    |nil=>exact h2.elim
    |cons v vs=>
     obtain⟨⟨e,hx⟩,h3⟩:=h1
     obtain⟨⟨cs,g,q1,q2,q3⟩,h4⟩:=h2
     subst e
     obtain⟨cs',ho'⟩:=hrc q1 hx
     exact⟨⟨cs',g,ho',(hval x _ q1).trans q2,q3⟩,ih h3 h4⟩
 have hcv:∀{x y:CV} {v:Value},Zmz m st' st x y→CvRep w (ZI Γ.X st fp) val st y v→CvRep w (ZI Γ.X st' fp') val' st' x v:=by
  intro x y v hr hv
  cases x with
  |undef=>trivial
  |int k n=>simp only[Zmz]at hr;subst hr;exact hv
  |bool b=>
   simp only[Zmz]at hr
   rcases hr with rfl|rfl
   ·exact hv
   ·exact hv
  |kb b=>simp only[Zmz]at hr;subst hr;exact hv
  |str b=>simp only[Zmz]at hr;subst hr;exact hv
  |nil=>simp only[Zmz]at hr;subst hr;exact hv
  |skip=>simp only[Zmz]at hr;subst hr;exact hv
  |imm t d=>
   simp only[Zmz]at hr
   rcases hr with rfl|⟨rfl,rfl⟩|⟨x,n,e,rfl,hx⟩
   ·exact Imm.kept (t:=.sl t) hk hv
   ·rw[show v=_ from hv]
    exact⟨none,0,rfl,Nat.le_refl _,Nat.zero_le _,fun h=>absurd h (by simp)⟩
   ·exact Imm.kept (t:=.sl t) hk (ZsG hs.toObjs hv hx)
  |iptr t d c=>
   simp only[Zmz]at hr
   rcases hr with hr|⟨x,rfl,hrec,hdr⟩
   ·subst hr
    obtain⟨b,o,es,h1,h2,h3,h4,h5⟩:=hv
    exact⟨b,o,es,h1,fun hq=>h2 (hnogo b hq),h3,h4,h5.kept hk⟩
   ·obtain⟨cs0,g,q1,q2,q3⟩:=hv
    unfold ZML at hrec
    rw[q1]at hrec
    obtain⟨hof,hown⟩:=hrec
    obtain⟨g',cur,e,r1,r2,r3,r4⟩:=hs.rep x _ q1
    rw[q2]at r1
    simp only[Value.pointer.injEq,Option.some.injEq,Addr.mk.injEq,and_true]at r1
    subst r1
    have hgx:g∈fp x:=by rw[r2];exact Xah.2 rfl
    obtain⟨o1,o2,o3⟩:=hs.own x _ q1 g hgx
    have hi:=ZwG hs.toObjs hof (fun z n hz e t l kd _ hk=>ZFY hown (ZtA.2 ⟨n,hz⟩) hk) r4
    refine⟨g,0,cur.toList,by rw[q3,Nat.zero_add],?_,o1,fun i hi'=>?_,hi.kept hk⟩
    ·rintro(hX|⟨y,oy,hy,hgy⟩)
     ·exact o2 hX
     ·have hne:=Zx9 hdr (Zgg hy)
      rcases hob0 y oy hy with⟨oz,p1,_⟩|⟨p1,_⟩
      ·by_cases hd:oy = .dead
       ·subst hd;rw[hfpd y hy]at hgy;cases hgy
       ·rw[hfp y oz p1 (fun e=>hd (Option.some.inj (hy.symm.trans e)))]at hgy
        exact hs.apart _ _ _ _ hne p1 q1 g hgy hgx
      ·rw[hfp0 y p1]at hgy;cases hgy
    ·rw[Nat.zero_add]
     simp[World.cell?,r3]
  |own x n=>
   cases y with
   |own y n'=>
    obtain⟨⟨e,hx⟩,hto⟩:=hr
    subst e
    obtain⟨o',ho'⟩:=ZhO hx
    obtain⟨hsl,o2,q1,q2,q3⟩:=hv
    rcases hob0 x o' ho' with⟨o,p1,p2⟩|⟨p1,_⟩
    ·rw[p1]at q1
     cases q1
     refine And.intro hsl ⟨o',ho',?_,fun hn=>?_⟩
     rotate_left
     ·subst hn
      cases n' with
      |true=>
       refine(q3 rfl).imp id fun h e t l k ho=>?_
       subst ho
       simp only[ZpE]at p2
       exact h _ _ _ _ p2.1
      |false=>
       refine .inr fun e t l k ho=>?_
       subst ho
       simp only[ZpE]at p2
       simp only[ZMJ]at hto
       rw[p1,p2.1]at hto
       exact hto
     rcases q2 with rfl|q2
     ·cases o' with
      |dead=>exact .inl rfl
      |sl _ _ _ _=>simp only[ZpE]at p2;cases p2.1
      |rc _=>simp only[ZpE]at p2
     ·exact .inr (q2.trans (hval x _ p1).symm)
    ·rw[p1]at q1;cases q1
   |nil=>
    obtain⟨h1,h2⟩:=hr
    have hv:v = .slice none 0 0:=hv
    cases ho:lk st' x with
    |none=>rw[ho]at h2;exact h2.elim
    |some o'=>exact And.intro ⟨_,_,_,hv⟩ ⟨o',ho,.inr (hv.trans (hval0 x h1).symm),fun _=>.inl hv⟩
   |_=>simp only[Zmz]at hr
  |ptr x c=>
   cases y with
   |ptr y c'=>
    obtain⟨⟨e,hx⟩,rfl⟩:=hr
    subst e
    obtain⟨cs,g,q1,q2,q3⟩:=hv
    obtain⟨cs',ho'⟩:=hrc q1 hx
    exact⟨cs',g,ho',(hval x _ q1).trans q2,q3⟩
   |_=>simp only[Zmz]at hr
  |eptr x i c=>
   cases y with
   |eptr y j c'=>
    obtain⟨⟨e,hx⟩,rfl,rfl⟩:=hr
    subst e
    obtain⟨o',ho'⟩:=ZhO hx
    obtain⟨hp,o2,q1,q2⟩:=hv
    rcases hob0 x o' ho' with⟨o,p1,p2⟩|⟨p1,_⟩
    ·rw[p1]at q1
     cases q1
     refine And.intro hp ⟨o',ho',fun e t l kd ho=>?_⟩
     subst ho
     simp only[ZpE]at p2
     rw[hval x _ p1]
     exact q2 e t l kd p2.1
    ·rw[p1]at q1;cases q1
   |_=>simp only[Zmz]at hr
  |view x i=>
   cases y with
   |view y j=>
    obtain⟨⟨e,hx⟩,rfl⟩:=hr
    subst e
    obtain⟨o',ho'⟩:=ZhO hx
    obtain⟨hp,o2,q1,q2⟩:=hv
    rcases hob0 x o' ho' with⟨o,p1,p2⟩|⟨p1,_⟩
    ·rw[p1]at q1
     cases q1
     refine And.intro hp ⟨o',ho',fun e t l kd ho=>?_⟩
     subst ho
     simp only[ZpE]at p2
     rw[hval x _ p1]
     exact q2 e t l kd p2.1
    ·rw[p1]at q1;cases q1
   |_=>simp only[Zmz]at hr
  |fn f cap=>
   cases y with
   |fn g cap'=>
    obtain⟨rfl,h2⟩:=hr
    obtain⟨vs,q1,q2⟩:=hv
    exact⟨vs,q1,hfn h2 q2⟩
   |_=>simp only[Zmz]at hr
 have hcl:∀{x y:List CV} {v:List Value},ZJn m st' st x y→All2 (CvRep w (ZI Γ.X st fp) val st) y v→All2 (CvRep w (ZI Γ.X st' fp') val' st') x v:=by
  intro x
  induction x with
  |nil=>
   intro y v h1 h2
   cases y with
   |nil=>cases v with
    |nil=>trivial
    |cons _ _=>exact h2.elim
   |cons _ _=>exact h1.elim
  |cons x r ih=>
   intro y v h1 h2
   cases y with
   |nil=>exact h1.elim
   |cons y s=>cases v with
    |nil=>exact h2.elim
    |cons v vs=>exact⟨hcv h1.1 h2.1,ih h1.2 h2.2⟩
 refine⟨val',fp',{ toObjs:=⟨hs.fr,fun x o' hx=>?_,fun x o' hx=>?_,fun x y o o' hne hx hy=>?_,hs.low⟩,defers:=hs.defers,size:=hs.size,env:=fun t=>?_ },fun x o hx=>?_⟩
 ·rcases hob0 x o' hx with⟨o,p1,p2⟩|⟨p1,p2⟩
  ·by_cases hd:o' = .dead
   ·subst hd;exact hfpd x hx
   rw[hval x o p1,hfp x o p1 (fun e=>hd (Option.some.inj (hx.symm.trans e)))]
   have hr:=hs.rep _ o p1
   cases o' with
   |dead=>exact absurd rfl hd
   |rc cs'=>
    cases o with
    |rc cs=>
     obtain⟨g,cur,e,q1,q2,q3,q4⟩:=hr
     exact⟨g,cur,e,q1,q2,q3,hcl p2 q4⟩
    |sl _ _ _ _=>exact p2.elim
    |dead=>exact p2.elim
   |sl e t l kd=>
    simp only[ZpE]at p2
    obtain⟨p2,p3⟩:=p2
    subst p2
    cases kd with
    |deep kn hh=>
     cases hh with
     |no=>
      obtain⟨_,e',xs,Fs,q1,q2,q3,q4⟩:=hr
      exact⟨trivial,e',xs,Fs,q1,q2,q3,fun j hj=>(q4 j hj).kept (fun _ _=>rfl) (fun _ _ _ hp=>by cases hp)⟩
     | _=>
      rename_i i lo n base
      obtain⟨⟨r0,r1⟩,e',xs,Fs,q1,q2,q3,q4⟩:=hr
      have hok:∀q∈ZF t 0,∀y,ZdQ lo n base q=some y→val' y=val y∧∃o,lk st' y=some o:=fun q hq y hy=>by
       obtain⟨k1,k2,k3⟩:=ZBx p3 y (ZhV.2 ⟨q,hq,hy⟩)
       obtain⟨o,ho⟩:=ZhO k3
       exact⟨(hval y o (by rw[k1];exact ho)).trans (congrArg val k1),ZhO k2⟩
      refine⟨⟨r0,fun q hq y hy=>(hok q hq y hy).2⟩,e',xs,Fs,q1,q2,q3,fun j hj=>(q4 j hj).kept (fun _ _=>rfl) (fun q hq y hp=>?_)⟩
      simp only[Ze6]at hp
      split at hp
      ·exact(hok q hq y hp).1
      ·cases hp
    |frozen=>exact⟨hr.1,Imm.kept (t:=.sl t) hk hr.2.1,hr.2.2⟩
    |mix kk=>
     obtain⟨q0,xs,Fs,q1,q2,q3,q4⟩:=hr
     exact⟨q0,xs,Fs,q1,q2,fun j hj hjk=>(q3 j hj hjk).kept (fun _ _=>rfl) (fun _ _ _ hp=>by cases hp),fun j hj hjk=>(q4 j hj hjk).kept hk⟩
    |shallow=>
     obtain⟨xs,q1,q2,q3⟩:=hr
     exact⟨xs,q1,q2,fun j hj=>(q3 j hj).kept hk⟩
  ·rw[hval0 x p1,hfp0 x p1]
   match o',p2 with
   | .sl e t [] .shallow,_=>exact⟨[],⟨by simp,.inl ⟨rfl,rfl⟩⟩,rfl,fun j hj=>absurd hj (by simp)⟩
   | .sl e t [] (.deep kn .no),_=>exact⟨trivial,e,[],fun _ _=>False,fun _=>rfl,⟨by simp,.inl ⟨rfl,rfl⟩⟩,⟨fun b=>by simp[Value.ownBlock],fun b j hj=>absurd hj (by simp),fun j k b hj=>absurd hj (by simp)⟩,fun j hj=>absurd hj (by simp)⟩
 ·rcases hob0 x o' hx with⟨o,p1,_⟩|⟨p1,_⟩
  ·by_cases hd:o' = .dead
   ·subst hd;rw[hfpd x hx];intro b hb;cases hb
   ·rw[hfp x o p1 (fun e=>hd (Option.some.inj (hx.symm.trans e)))];exact hs.own _ o p1
  ·rw[hfp0 x p1];intro b hb;cases hb
 ·rcases hob0 x o hx with⟨ox,p1,_⟩|⟨p1,_⟩
  ·rcases hob0 y o' hy with⟨oy,p2,_⟩|⟨p2,_⟩
   ·by_cases hd:o = .dead
    ·subst hd;rw[hfpd x hx];intro b hb;cases hb
    by_cases hd':o' = .dead
    ·subst hd';rw[hfpd y hy];intro b _ hb;cases hb
    rw[hfp x ox p1 (fun e=>hd (Option.some.inj (hx.symm.trans e))),hfp y oy p2 (fun e=>hd' (Option.some.inj (hy.symm.trans e)))]
    exact hs.apart _ _ ox oy (fun e=>hne (hinj' x y o o' hx hy hd hd' e)) p1 p2
   ·rw[hfp0 y p2];intro b _ hb;cases hb
  ·rw[hfp0 x p1];intro b hb;cases hb
 ·unfold Zm
  cases hl:lk l t with
  |none=>trivial
  |some v=>
   have hA:ZFq m st' st v (ρ t):=by
    clear hfix hobj
    induction l with
    |nil=>cases hl
    |cons p r ih=>
     obtain⟨t',v'⟩:=p
     rw[Z2]at hl
     split at hl
     ·rename_i e;cases hl;subst e;exact henv.1
     ·exact ih henv.2 hl
   have hv:=hs.env t
   cases v with
   |tup l=>simp only[ZFq]at hA
   |c x=>
    by_cases hu:x = .undef
    ·subst hu;trivial
    ·cases hρ:ρ t with
     |c y=>
      rw[hρ]at hv hA
      have hA':Zmz m st' st x y:=by
       cases x<;>first|exact absurd rfl hu|exact hA
      exact hcv hA' hv
     |agg y=>rw[hρ]at hA;cases x<;>first|exact absurd rfl hu|exact hA.elim
     |tup y=>rw[hρ]at hA;cases x<;>first|exact absurd rfl hu|exact hA.elim
   |agg cs=>
    cases hρ:ρ t with
    |c y=>rw[hρ]at hA;simp only[ZFq]at hA
    |tup y=>rw[hρ]at hA;simp only[ZFq]at hA
    |agg cs'=>
     rw[hρ]at hv hA
     obtain⟨vs,q1,q2⟩:=hv
     exact⟨vs,q1,hcl hA q2⟩
 ·obtain⟨o1,p1,p2,p3⟩:=hst x o hx
  obtain⟨h1,h2⟩:=Zwi hfix x o1 p1 (h0 x o hx)
  obtain⟨o',ho'⟩:=ZhO h2
  rcases hob0 x o' ho' with⟨o2,q1,q2⟩|⟨q1,_⟩
  ·have q1':=q1
   rw[h1]at q1
   rw[p1]at q1
   cases q1
   refine⟨o',ho',p2.trans ?_,by rw[hval x _ q1',h1];exact p3⟩
   cases o' with
   |dead=>cases o1 with
    |rc _=>exact q2.elim
    |sl _ _ _ _=>trivial
    |dead=>trivial
   |sl _ _ _ _=>simp only[ZpE]at q2;rw[q2.1];exact Compat.refl _
   |rc cs'=>cases o1 with
    |rc cs=>trivial
    |sl _ _ _ _=>exact q2.elim
    |dead=>exact q2.elim
  ·rw[h1,p1]at q1;cases q1
theorem Za (m:List (Nat×Nat)) {l:List (Nat×AV)} (hinj:Zvp ((ZvZ st').map fun p=>ren m p.1)=true:=by exact rfl) (hfix:Zzo m st' C.h st=true:=by exact rfl)
  (hobj:RenS m st' st st':=by repeat' first|exact rfl|exact trivial|exact Or.inl rfl|exact Or.inr rfl|exact Or.inr (Or.inr ⟨_,_,_,rfl,rfl⟩)|refine And.intro ?_ ?_)
  (henv:ZLX m st' st ρ l:=by repeat' first|exact rfl|exact trivial|exact Or.inl rfl|exact Or.inr rfl|exact Or.inr (Or.inr ⟨_,_,_,rfl,rfl⟩)|refine And.intro ?_ ?_) :
  Leads C ρ st (Zm l) st':=Zc9 m hinj hfix hobj henv
theorem Zz9 (ns:List Nat) (h:Ztr st ns=some st'):Leads C ρ st ρ st':=fun Γ val0 st0 val fp a w _ _ hs hst=>by
 obtain⟨fp',h1⟩:=Zr8 hs.toObjs h
 exact⟨val,fp',hs.step h1,hst.trans h1.stays⟩
theorem Zgf (ns:List Nat):Leads C ρ st ρ (Zf6 st ns):=fun Γ val0 st0 val fp a w _ _ hs hst=>by
 obtain⟨fp',h1⟩:=Zhu ns hs.toObjs
 exact⟨val,fp',hs.step h1,hst.trans h1.stays⟩
def ZOK (st:St) (x:Nat):St:=match lk st x with
 |some (.sl e t l .shallow)=>Z0 st x (.sl e t l (.mix 0))
 |_=>st
def ZOJ (st:St) (x:Nat):St:=match lk st x with
 |some (.sl e t l (.mix _))=>Z0 st x (.sl e t l (.deep true .no))
 |_=>st
def ZOI (st:St) (x:Nat):Prop:=match lk st x with
 |some (.sl _ _ l (.mix k))=>k=l.length
 |_=>True
theorem ZAs (h:Objs Γ val fp st w) {x:Nat} {e:TypeId} {t:Ty} {l:List t.den} {kk:Int} (hx:lk st x=some (.sl e t l (.mix kk))) (hk:kk=l.length) :
  ∃fp',Step Γ val val fp fp' st (Z0 st x (.sl e t l (.deep true .no))) w w:=by
 obtain⟨_,xs,Fs,r2,r3,r4,_⟩:=h.rep x _ hx
 have hkn:kk.toNat=l.length:=by omega
 rw[hkn]at r3 r4
 have hl:∀y,lk (Z0 st x (.sl e t l (.deep true .no))) y=if y=x then some (.sl e t l (.deep true .no))else lk st y:=fun y=>by rw[Zd4,hx];rfl
 have only:∀{y:Nat} {ob:Ob},lk (Z0 st x (.sl e t l (.deep true .no))) y=some ob→(lk st y=none∨y=x)→y=x:=fun {y ob} hy hn=>by
  rcases hn with hn|hn
  ·rw[hl]at hy
   by_cases e0:y=x
   ·exact e0
   ·rw[if_neg e0,hn]at hy;cases hy
  ·exact hn
 refine⟨fp,h.step (fun y=>y=x) rfl rfl rfl (Nat.le_refl _) (Nat.le_refl _) (fun _ _ _=>rfl) (fun y o hy hn=>?_) (fun y o hy hn=>?_) (fun y o hy hn b hb=>?_) (fun y z o o' hne hy hz hn hn' b hb=>?_) (fun hkept hstay y o hy hn=>?_)⟩
 ·have hn:¬y=x:=hn
  rw[hl,if_neg hn];exact⟨hy,rfl,rfl⟩
 ·have hn:y=x:=hn
  subst hn
  rw[hx]at hy
  obtain rfl:=Option.some.inj hy
  exact⟨.sl e t l (.deep true .no),by rw[hl,if_pos rfl],And.intro rfl (And.intro rfl rfl),rfl⟩
 ·obtain rfl:=only hy hn
  exact⟨(h.own y _ hx b hb).1,fun _=>⟨y,_,rfl,hx,hb⟩⟩
 ·exact absurd ((only hy hn).trans (only hz hn').symm) hne
 ·obtain rfl:=only hy hn
  rw[hl,if_pos rfl]at hy
  obtain rfl:=Option.some.inj hy
  exact⟨trivial,e,xs,Fs,fun _=>rfl,r2,r3,fun j hj=>r4 j hj hj⟩
def ZOr (st:St) (x:Nat):St:=match lk st x with
 |some (.sl e t l (.deep true .no))=>Z0 st x (.sl e t l .shallow)
 |_=>st
def ZGm:CV→Bool
 | .own _ _=>false
 | .ptr _ _=>false
 | .eptr _ _ _=>false
 | .view _ _=>false
 | .fn _ (_::_)=>false
 |_=>true
def ZD7:List CV→Bool
 |[]=>true
 |x::r=>match ZGm x with|true=>ZD7 r|false=>false
def ZKI:AV→Bool
 | .c x=>ZGm x
 | .agg l=>ZD7 l
 | .tup _=>false
def ZKJ (ρ:Env):List Nat→Bool
 |[]=>true
 |t::r=>match ZKI (ρ t)with|true=>ZKJ ρ r|false=>false
end
end Go.AE
namespace Go.AE
open Go Go.RowKit
def ZlD (P:Program) (id:TypeId):TypeInfo:=(P.info? id).getD default
def ZvR (P:Program) (id:TypeId):Value:=((ZlD P id).zero).getD undef
def Zoj (P:Program) (id:TypeId):TypeDesc:=(P.underlying id).getD .bool
def fieldsOf (P:Program) (id:TypeId):Array Field:=match Zoj P id with | .struct fs=>fs|_=>#[]
structure Ze2 (P:Program) (id:TypeId) (t:Ty):Prop where
 info:P.info? id=some (ZlD P id)
 size:(ZlD P id).size=t.size
 zero:(ZlD P id).zero=some (ZvR P id)
 cells:(ZvR P id).cells.toList=Zpb t
 bytes:Nat.ble (ZlD P id).bytes 256=true
 under:P.underlying id=some (Zoj P id)
 desc:ZB3 t (Zoj P id)
 fine:fine t=true
structure ZqX (P:Program) (id:TypeId) (l:List (Nat×TypeId)):Prop where
 under:P.underlying id=some (.struct (fieldsOf P id))
 size:(fieldsOf P id).toList.map (fun f=>(f.offset,f.type))=l
 some_:∀p∈l,P.info? p.2=some (ZlD P p.2)∧Nat.blt 0 (ZlD P p.2).size=true
structure Eq1 (P:Program) (t:TypeId):Prop where
 under:P.underlying t=some (.struct (P.fieldsOf t))
 held:P.stoodInHeld t=false
 guard:P.eqGuardType P.depth t=false
 fields : (P.fieldsOf t).toList.map (fun f => (f.offset, f.name == "_", P.underlying f.type, P.plainKey f.type)) = [(0, false, some (.int .i64), true), (1, false, some (.int .i64), true)]
theorem Eq1.run {P:Program} {t:TypeId} (h:Eq1 P t) (X Y:Operand) (a b c d:Int) (w:World) :
  (do eqGuard .eql t X Y (.agg #[.int .i64 a,.int .i64 b]) (.agg #[.int .i64 c,.int .i64 d]);binOp .eql t (.agg #[.int .i64 a,.int .i64 b]) (.agg #[.int .i64 c,.int .i64 d]):Sem Value).run P w = .ok (.bool (a==c&&b==d)) w ∧
  (do eqGuard .neq t X Y (.agg #[.int .i64 a,.int .i64 b]) (.agg #[.int .i64 c,.int .i64 d]);binOp .neq t (.agg #[.int .i64 a,.int .i64 b]) (.agg #[.int .i64 c,.int .i64 d]):Sem Value).run P w = .ok (.bool (!(a==c&&b==d))) w:=by
 have hf:=h.fields
 generalize hq:(P.fieldsOf t).toList=fs at hf
 have hlen:=congrArg List.length hf
 match fs,hlen with
 |[f1,f2],_=>
  simp only[XaQ,List.map_nil,List.cons.injEq,Prod.mk.injEq,and_true]at hf
  obtain⟨⟨o1,n1,u1,k1⟩,o2,n2,u2,k2⟩:=hf
  have n1 : f1.name ≠ "_" := by simpa using n1
  have n2 : f2.name ≠ "_" := by simpa using n2
  have core:(Op.equalIn 10000 t (.agg #[.int .i64 a,.int .i64 b]) (.agg #[.int .i64 c,.int .i64 d])).run P w = .ok (a==c&&b==d) w:=by
   rw[run_equalIn_agg w 9999 t _ _ h.under h.held,hq]
   have p1:∀(u v:Int) (w:World),(part f1.type #[.int .i64 u,.int .i64 v] f1.offset).run P w = .ok (.int .i64 u) w:=fun u v w=>by rw[o1];exact run_part_plain w k1 rfl
   have p2:∀(u v:Int) (w:World),(part f2.type #[.int .i64 u,.int .i64 v] f2.offset).run P w = .ok (.int .i64 v) w:=fun u v w=>by rw[o2];exact run_part_plain w k2 rfl
   have q1:=run_equalIn_int w 9998 f1.type .i64 .i64 a c u1
   have q2:=run_equalIn_int w 9998 f2.type .i64 .i64 b d u2
   simp only[Op.eqFields,n1,n2,ne_eq,not_false_eq_true,if_true,Sem.run_bind,p1,Result.andThen_ok,q1]
   cases hac:(a==c)
   ·simp
   ·simp[p2,q2]
    by_cases e:b=d<;>simp[e]
  refine⟨?_,?_⟩
  ·simp only[Sem.run_bind,run_eqGuard_agg w _ _ _ _ _ _ h.guard,Result.andThen_ok,run_eql_struct,core]
  ·simp only[Sem.run_bind,run_eqGuard_agg w _ _ _ _ _ _ h.guard,Result.andThen_ok,run_neq_struct,core]
structure ZN0 (P:Program) (id:TypeId):Prop where
 info:P.info? id=some (ZlD P id)
 size:(ZlD P id).size=1
 zero:(ZlD P id).zero=some (ZvR P id)
 cells:(ZvR P id).cells.size=1
 under:P.underlying id=some (Zoj P id)
 flat:(match Zoj P id with | .struct _=>true | .array _ _=>true|_=>false)=false
structure ZNZ (P:Program) (id:TypeId) (m:Nat) (e:TypeId) (y:Tys):Prop where
 under:P.underlying id=some (.array m e)
 elem:lk y.ty e=some (.int .i64)
 info:P.info? id=some (ZlD P id)
 zero:(ZlD P id).zero=some (ZvR P id)
 cells:(ZvR P id).cells.toList=List.replicate m (.int .i64 0)
theorem ZMF {P:Program} {y:Tys} (h1:∀p∈y.ty,Ze2 P p.1 p.2)
  (h2:∀p∈y.ag,P.underlying p.1=some (Zoj P p.1)∧(match Zoj P p.1 with | .struct _=>true | .array _ _=>true|_=>false)=p.2)
  (he:∀t,y.eq.any (Nat.beq t)=true→Eq1 P t) (h3:∀p∈y.el,P.underlying p.1=some (.slice p.2)) (h4:∀p∈y.fl,ZqX P p.1 p.2) (h5:∀p∈y.ar,ZNZ P p.1 p.2.1 p.2.2 y) (h6:∀p∈y.fnT,ZN0 P p):ZbB P y:=by
 refine⟨fun id t h=>?_,fun id b h=>?_,fun s e h=>h3 _ (Zgg h),fun t h X Y a b c d w=>(he t h).run X Y a b c d w,fun s l h=>?_,fun t m e h=>?_,fun t h=>?_⟩
 ·have:=h1 _ (Zgg h)
  exact⟨_,_,_,this.info,this.size,this.zero,this.cells,by have:=this.bytes;simpa using this,this.under,this.desc,this.fine⟩
 ·exact⟨_,h2 _ (Zgg h)⟩
 ·have:=h4 _ (Zgg h)
  dsimp only at this
  refine⟨_,this.under,?_,fun i off ty hi=>?_⟩
  ·have hs:=this.size
   rw[←hs];simp
  ·have hm:=XaZ hi
   obtain⟨k1,k2⟩:=this.some_ _ hm
   have hs:=this.size
   rw[←hs,Xbl]at hi
   obtain⟨f,hf,e⟩:=Xbr.1 hi
   cases e
   refine⟨f,by rw[←Xbv];exact hf,rfl,rfl,_,k1,?_⟩
   have:=Zeq k2
   omega
 ·have:=h5 _ (Zgg h)
  exact⟨this.under,this.elem,_,_,this.info,this.zero,this.cells⟩
 ·obtain⟨q,hq,e⟩:=Xbo.1 h
  obtain rfl:t=q:=ZR.1 e
  have:=h6 t hq
  exact⟨⟨_,_,this.info,this.size,this.zero,this.cells⟩,_,this.under,this.flat⟩
structure Zn (P:Program) (f:FuncId) (con:Con):Prop where
 ok:ZJl P f con
 there : ∃ fn c, P.funcs[f]? = some fn ∧ (fn.name == "runtime.NumGoroutine") = false ∧ fn.body = some c
theorem ZG1 {P:Program} {C:Cfg} (h:∀p∈C.tab,Zn P p.1 p.2):ZkD P C:=fun f con hl=>by
 have:=h _ (Zgg hl)
 exact⟨this.ok,this.there⟩
end Go.AE
namespace Go.AE
open Go Go.RowKit
def i64 (n:Int):Prop:=-9223372036854775808≤n∧n≤9223372036854775807
instance (n:Int):Decidable (i64 n):=inferInstanceAs (Decidable (_∧_))
instance (k:IntKind) (n:Int):Decidable (inR k n):=by unfold inR;cases k<;>infer_instance
def rq {α:Type} (p:Prop) [Decidable p] (m:Option α):Option α:=if p then m else none
def Ok {α:Type} (m:Option α) (K:α→Prop):Prop:=∃x,m=some x∧K x
theorem ZP {α:Type} {p:Prop} [Decidable p] {m:Option α} {K:α→Prop} (h:Ok (rq p m) K):p∧Ok m K:=by
 unfold rq at h
 split at h
 ·rename_i hp;exact⟨hp,h⟩
 ·obtain⟨x,h1,_⟩:=h;cases h1
theorem ZGv {α:Type} {b:Bool} {m m':Option α} {K:α→Prop} (h:Ok (cond b m m') K) (hb:b=true):Ok m K:=by subst hb;exact h
theorem ZGu {α:Type} {b:Bool} {m m':Option α} {K:α→Prop} (h:Ok (cond b m m') K) (hb:b=false):Ok m' K:=by subst hb;exact h
theorem ZX {α β:Type} {m:Option α} {f:α→Option β} {K:β→Prop} (h:Ok (m.bind f) K):∃x,m=some x∧Ok (f x) K:=by
 obtain⟨y,h1,h2⟩:=h
 cases m with
 |none=>cases h1
 |some x=>exact⟨x,rfl,y,h1,h2⟩
open Classical in
noncomputable def nt {α:Type} (p:Prop) (m m':Option α):Option α:=if p then(if m=m' then m else none)else m'
theorem ZDa {α:Type} {K:α→Prop} (h:Ok (none:Option α) K):False:=by
 obtain⟨y,h1,_⟩:=h
 cases h1
theorem Zg {α:Type} {p G:Prop} [Decidable p] {m:Option α} {K:α→Prop} (he:Ok (rq p m) K) (h:Ok m K→G):p∧G:=⟨(ZP he).1,h (ZP he).2⟩
theorem Zh {α:Type} {b:Bool} {m m':Option α} {K:α→Prop} {A B:Prop} (he:Ok (cond b m m') K) (h1:Ok m K→A) (h2:Ok m' K→B):(b=true→A)∧(b=false→B):=⟨fun hb=>h1 (ZGv he hb),fun hb=>h2 (ZGu he hb)⟩
theorem ZD {α:Type} {b:Bool} {m m':Option α} {K:α→Prop} {A B:Prop} (he:Ok (cond b m m') K) (h1:Ok m' K→A) (h2:Ok m K→B):(b=false→A)∧(b=true→B):=⟨fun hb=>h1 (ZGu he hb),fun hb=>h2 (ZGv he hb)⟩
theorem Zi {α β:Type} {m:Option α} {f:α→Option β} {K:β→Prop} {G:α→Prop} (he:Ok (m.bind f) K) (h:∀x,Ok (f x) K→G x):∃x,m=some x∧G x:=by
 obtain⟨x,h1,h2⟩:=ZX he
 exact⟨x,h1,h x h2⟩
theorem ZJN {α:Type} {p:Prop} {m m':Option α} {K:α→Prop} (h:Ok (nt p m m') K) {b:Bool} (hb:b=true→p):Ok (cond b m m') K:=by
 unfold nt at h
 split at h
 ·split at h
  ·rename_i e;subst e;cases b<;>exact h
  ·obtain⟨x,h1,_⟩:=h;cases h1
 ·rename_i hp
  cases b with
  |false=>exact h
  |true=>exact absurd (hb rfl) hp
theorem Zj {α:Type} {x:α} {K:α→Prop} (h:Ok (some x) K):K x:=by
 obtain⟨y,h1,h2⟩:=h
 cases h1
 exact h2
def up {α β:Type} (m:Option β):Option (α⊕β):=m.map .inr
theorem Zbp {α β:Type} {m:Option β} {K:α⊕β→Prop} (h:Ok (up m:Option (α⊕β)) K):Ok m fun x=>K (.inr x):=by
 obtain⟨y,h1,h2⟩:=h
 cases m with
 |none=>cases h1
 |some x=>cases h1;exact⟨x,rfl,h2⟩
def ZcJ {S R:Type} (f:S→Option (S⊕R)):Nat→S→Option R
 |0,_=>none
 |n+1,s=>(f s).bind fun | .inl s'=>ZcJ f n s' | .inr r=>some r
theorem Zq3 {S R:Type} {f:S→Option (S⊕R)}:∀{n m:Nat} {s:S} {r:R},n≤m→ZcJ f n s=some r→ZcJ f m s=some r
 |0,_,_,_,_,h=>by cases h
 |n+1,0,_,_,h,_=>by omega
 |n+1,m+1,s,r,h,hr=>by
  unfold ZcJ at hr ⊢
  cases hf:f s with
  |none=>rw[hf]at hr;cases hr
  |some x=>
   rw[hf]at hr
   cases x with
   |inl s'=>exact Zq3 (by omega) hr
   |inr r'=>exact hr
open Classical in
noncomputable def loop {S R:Type} (f:S→Option (S⊕R)) (s:S):Option R:=if h:∃n r,ZcJ f n s=some r then some h.choose_spec.choose else none
theorem Zvn {S R:Type} {f:S→Option (S⊕R)} {s:S} {n:Nat} {r:R} (h:ZcJ f n s=some r):loop f s=some r:=by
 have hex:∃n r,ZcJ f n s=some r:=⟨n,r,h⟩
 unfold loop
 rw[dif_pos hex]
 have h2:=hex.choose_spec.choose_spec
 have h3:=Zq3 (Nat.le_max_left n hex.choose) h
 have h4:=Zq3 (Nat.le_max_right n hex.choose) h2
 rw[h3]at h4
 cases h4
 rfl
theorem Zhz {S R:Type} {f:S→Option (S⊕R)} {s:S} {r:R} (h:loop f s=some r):∃n,ZcJ f n s=some r:=by
 unfold loop at h
 split at h
 ·rename_i hex
  cases h
  exact⟨_,hex.choose_spec.choose_spec⟩
 ·cases h
theorem ZcO {S R:Type} (f:S→Option (S⊕R)) (s:S):loop f s=(f s).bind fun | .inl s'=>loop f s' | .inr r=>some r:=by
 cases hf:f s with
 |none=>
  unfold loop
  rw[dif_neg]
  ·rfl
  ·rintro⟨n,r,h⟩
   cases n with
   |zero=>cases h
   |succ n=>unfold ZcJ at h;rw[hf]at h;cases h
 |some x=>
  cases x with
  |inr r=>exact Zvn (n:=1) (by unfold ZcJ;rw[hf];rfl)
  |inl s'=>
   show loop f s=loop f s'
   cases hl:loop f s' with
   |some r=>
    obtain⟨n,hn⟩:=Zhz hl
    exact Zvn (n:=n+1) (by unfold ZcJ;rw[hf];exact hn)
   |none=>
    cases hl2:loop f s with
    |none=>rfl
    |some r=>
     obtain⟨n,hn⟩:=Zhz hl2
     cases n with
     |zero=>cases hn
     |succ n=>
      unfold ZcJ at hn
      rw[hf]at hn
      rw[Zvn (show ZcJ f n s'=some r from hn)]at hl
      cases hl
def LK {S R:Type} (J:S→Prop) (K:R→Prop):S⊕R→Prop
 | .inl s=>J s
 | .inr r=>K r
noncomputable def bd (fn:Func):Code:=match fn.body with|some c=>c|none=>.skip
section
variable {P:Program} {C:Cfg} {ρ:Env} {st:St}
theorem ZMa (hM:P.follows .mixedOrders=true) (hT:ZbB P C.y) (hC:ZkD P C) {f:FuncId} {fn:Func} {c:Code} {con:Con} (hf:P.funcs[f]? = some fn)
  (hname : (fn.name == "runtime.NumGoroutine") = false) (hb : fn.body = some c) (hnt : fn.ntmps = C.n) (h : ZJm P C fn c con) : Zn P f con :=
 ⟨ZHy hM hT hC hf hb hnt h,fn,c,hf,hname,hb⟩
theorem ZJG (hM:P.follows .mixedOrders=true) (hT:ZbB P C.y) (hC:ZkD P C) {S R:Type} (I:S→Env×St) {f:S→Option (S⊕R)} {K:R→Prop} {b:Code} {kk:Ex→Env→St→Prop} {s0:S}
  (he:Ok (loop f s0) K) (h0:Leads C ρ st (I s0).1 (I s0).2)
  (round:∀(s:S) (J:S→Prop),Ok (f s) (LK J K)→evC P C b (thn (fun ρ' st'=>∃s',J s'∧Leads C ρ' st' (I s').1 (I s').2) kk) (I s).1 (I s).2):SemC P C (.loop b) kk ρ st:=by
 obtain⟨r0,h1,h2⟩:=he
 obtain⟨n0,h3⟩:=Zhz h1
 refine SemC.leads (ρ':=(I s0).1) (st':=(I s0).2) ?_ h0
 clear h0
 have key:∀s:{ p:S×Nat // ZcJ f p.2 p.1=some r0 },evC P C b (thn (fun ρ' st'=>∃s':{ p:S×Nat // ZcJ f p.2 p.1=some r0 },s'.1.2<s.1.2∧Leads C ρ' st' (I s'.1.1).1 (I s'.1.1).2) kk) (I s.1.1).1 (I s.1.1).2:=by
  rintro⟨⟨s,n⟩,hs⟩
  cases n with
  |zero=>cases hs
  |succ n=>
   have hs':ZcJ f (n+1) s=some r0:=hs
   unfold ZcJ at hs'
   have:=round s (fun s'=>ZcJ f n s'=some r0)
   cases hf:f s with
   |none=>rw[hf]at hs';cases hs'
   |some x=>
    rw[hf]at hs'
    rw[hf]at this
    have h5:=this ⟨x,rfl,by
     cases x with
     |inl s'=>exact hs'
     |inr r=>cases hs';exact h2⟩
    refine cast (congrArg (fun m=>evC P C b (thn m kk) (I s).1 (I s).2) (funext fun ρ'=>funext fun st'=>propext ⟨?_,?_⟩)) h5
    ·rintro⟨s',q1,q2⟩;exact⟨⟨(s',n),q1⟩,Nat.lt_succ_self n,q2⟩
    ·rintro⟨⟨⟨s',m⟩,q1⟩,q3,q2⟩
     exact⟨s',Zq3 (Nat.le_of_lt_succ q3) q1,q2⟩
 refine ZKE hM hT hC (I:=fun s:{ p:S×Nat // ZcJ f p.2 p.1=some r0 }=>I s.1.1) (fun s=>s.1.2) ⟨(s0,n0),h3⟩ (fun Γ val0 st0 val fp a w hn h0 hs hst=>⟨val,fp,hs,hst⟩) key
theorem ZKU (hM:P.follows .mixedOrders=true) (hT:ZbB P C.y) (hC:ZkD P C) {S:Type} (I:S→Env×St) (B:S→Prop) {x y:Code} {kk:Ex→Env→St→Prop}
  (rest:∀s:S,B s→evC P C y kk (I s).1 (I s).2) (part:evC P C x (thn (fun ρ' st'=>∃s,B s∧Leads C ρ' st' (I s).1 (I s).2) kk) ρ st):SemC P C (.seq x y) kk ρ st:=
 fun Γ val0 st0 val fp a w Q hn h0 h hs hk=>by
  refine wp_seq (Ze5 hM hT hC x _ ρ st part Γ val0 st0 val fp a w _ hn h0 h hs ?_)
  intro e ρ' st' val' fp' a' w' h1 h2 h3
  cases e with
  |normal=>
   obtain⟨s,hb,hl⟩:=h1
   obtain⟨val2,fp2,h4,h5⟩:=hl Γ val0 st0 val' fp' a' w' hn h0 h2 h3
   exact Ze5 hM hT hC y kk _ _ (rest s hb) Γ val0 st0 val2 fp2 a' w' Q hn h0 h4 h5 hk
  |exit i=>exact hk _ _ _ _ _ _ _ h1 h2 h3
  |ret=>exact hk _ _ _ _ _ _ _ h1 h2 h3
end
end Go.AE
namespace Go.AE
open Go Go.RowKit
noncomputable def ZB (l:List Nat) (s:Sched):Sched:=List.rec s (fun i _ ih=>.first i ih) l
section
variable {P:Program} {C:Cfg} {ρ:Env} {st:St}
def ZCP (P:Program):List (FuncId×Con)→Prop
 |[]=>True
 |p::r=>Zn P p.1 p.2∧ZCP P r
theorem Zr:ZCP P []:=trivial
theorem Zk {f:FuncId} {c:Con} {r:List (FuncId×Con)} (h:Zn P f c) (h2:ZCP P r):ZCP P ((f,c)::r):=⟨h,h2⟩
theorem ZA1:∀{l:List (FuncId×Con)},ZCP P l→∀p∈l,Zn P p.1 p.2
 |[],_,p,hp=>by cases hp
 |q::r,h,p,hp=>by
  rcases XaA.1 hp with rfl|hp
  ·exact h.1
  ·exact ZA1 h.2 p hp
theorem Zq (fn:Func) (hC:ZCP P C.tab) {f:FuncId} {con:Con} (h:ZkD P C→ZJm P C fn (bd fn) con) (hM:P.follows .mixedOrders=true:=by exact mixed) (hT:ZbB P C.y:=by exact ZG3)
  (hf : P.funcs[f]? = some fn := by kernel_rfl) (hname : (fn.name == "runtime.NumGoroutine") = false := by kernel_rfl) (hb : fn.body = some (bd fn) := by kernel_rfl) (hnt : fn.ntmps = C.n := by kernel_rfl) : Zn P f con :=
 ZMa hM hT (ZG1 (ZA1 hC)) hf hname hb hnt (h (ZG1 (ZA1 hC)))
theorem Zs {α:Type} {m:Option α} {v:α→AV} {s:α→St} {k:AV→St→Prop} {a b:Bool} {G:Prop} (he:ZbD (.opt α m fun r=>.ret (v r) (s r)) k) (h:Ok m (fun r=>k (v r) (s r))→G)
  (ha:a=true:=by exact rfl) (hb:b=true:=by exact rfl):a=true∧b=true∧G:=⟨ha,hb,h he⟩
theorem ZMQ {α:Type} {m:Option α} {t:α→Bool} {v v':α→AV} {s s':α→St} {k:AV→St→Prop} {a b:Bool} {G:Prop} (he:ZbD (.opt α m fun r=>.ite (t r) (.ret (v r) (s r)) (.ret (v' r) (s' r))) k)
  (h:Ok m (fun r=>(t r=true→k (v r) (s r))∧(t r=false→k (v' r) (s' r)))→G)
  (ha:a=true:=by exact rfl) (hb:b=true:=by exact rfl):a=true∧b=true∧G:=⟨ha,hb,h he⟩
theorem Zp {S R:Type} (f:S→Option (S⊕R)) (I:S→Env×St) {K:R→Prop} {b:Code} {kk:Ex→Env→St→Prop} {s0:S}
  (he:Ok (loop f s0) K) (h0:Leads C ρ st (I s0).1 (I s0).2)
  (round:∀(s:S) (J:S→Prop),Ok (f s) (LK J K)→evC P C b (thn (fun ρ' st'=>∃s',J s'∧Leads C ρ' st' (I s').1 (I s').2) kk) (I s).1 (I s).2)
  (hM:P.follows .mixedOrders=true:=by exact mixed) (hT:ZbB P C.y:=by exact ZG3) (hC:ZkD P C:=by assumption):SemC P C (.loop b) kk ρ st:=
 ZJG hM hT hC I he h0 round
theorem ZN {S R:Type} (f:S→Option R) (I:S→Env×St) {m:Option R} {K:R→Prop} {x y:Code} {kk:Ex→Env→St→Prop} (he:Ok m K)
  (rest:∀s:S,Ok (f s) K→evC P C y kk (I s).1 (I s).2) (part:evC P C x (thn (fun ρ' st'=>∃s,Ok (f s) K∧Leads C ρ' st' (I s).1 (I s).2) kk) ρ st)
  (hM:P.follows .mixedOrders=true:=by exact mixed) (hT:ZbB P C.y:=by exact ZG3) (hC:ZkD P C:=by assumption):SemC P C (.seq x y) kk ρ st:=
 have _:=he
 ZKU hM hT hC I (fun s=>Ok (f s) K) rest part
def wkL:List (Nat×List Nat)→List AV→List (Nat×AV)
 |(t,[])::r,v::s=>(t,v)::wkL r s
 |(t,c::_)::r,_::s=>(t,.c (.ptr c 0))::wkL r s
 |_,_=>[]
def wkT:AV→List AV
 | .tup l=>l
 |x=>[x]
theorem ZNP {α:Type} {x:α} {K:α→Prop} {res:List ResultVar} {k:AV→St→Prop} {e:Ex} (he:Ok (some x) K) (h:K x→ZE4 C res k ρ st:=by exact fun h=>h) (h0:ZJy e=true:=by exact rfl):ZLV C res k e ρ st:=
 ⟨h0,_,_,Leads.refl _ _,h (Zj he)⟩
theorem Zt (ts:List (Nat×List Nat)) {v:AV} {s:St} {res:List ResultVar} {k:AV→St→Prop} {e:Ex} (he:k v s)
  (hl:Leads C ρ st (Zm (wkL ts (wkT v))) s) (h:k v s→ZE4 C res k (Zm (wkL ts (wkT v))) s:=by exact fun h=>h) (h0:ZJy e=true:=by exact rfl):ZLV C res k e ρ st:=
 ⟨h0,_,_,hl,h he⟩
end
end Go.AE
namespace Go.AE
open Go Go.RowKit
noncomputable def ZFf (l:List Int):Option (List Int):=if l.length≤4000000000 then some (l.mergeSort fun x y=>decide (x≤y))else none
noncomputable def ZGO:Con:=fun args st=>match args,st with
 |[.c (.own 0 _)],[(0,.sl e (.int .i64) l .shallow)]=>.opt (List Int) (ZFf l) (fun l'=>.ret (.tup []) [(0,.sl e (.int .i64) l' .shallow)])
 |_,_=>.fail
section
variable {P:Program} {ρ:Go.Shelf.Ren}
set_option maxHeartbeats 1000000 in
theorem ZHU (L:Go.Proofs.Lays.n189 P ρ):Zn P (ρ.f 189) ZGO:=by
 refine⟨?_,?_⟩
 rotate_left
 ·exact⟨_,_,L.f189,rfl,rfl⟩
 intro args st k he X n val fp w vs hO hA
 unfold ZGO at he
 split at he
 rotate_left
 ·exact he.elim
 rename_i b0 e l
 obtain⟨l',hl',hk⟩:=he
 obtain⟨hfew,hle⟩:l.length≤4000000000∧l'=l.mergeSort fun x y=>decide (x≤y):=by
  unfold ZFf at hl'
  split at hl'
  ·rename_i h
   cases hl'
   exact⟨h,rfl⟩
  ·cases hl'
 obtain⟨v0,rfl,hv0⟩:∃v0,vs = #[v0]∧AvRep w (ZI X [(0,.sl e (.int .i64) l .shallow)] fp) val [(0,.sl e (.int .i64) l .shallow)] (.c (.own 0 b0)) v0:=by
  have hlen:=hA.length
  obtain⟨vl⟩:=vs
  match vl,hlen,hA with
  |[v0],_,⟨h1,_⟩=>exact⟨v0,rfl,h1⟩
 have hlk:lk ([(0,.sl e (.int .i64) l .shallow)]:St) 0=some (.sl e (.int .i64) l .shallow):=rfl
 obtain⟨hv,hr⟩:=Zbk hO hv0 hlk
 obtain⟨xs,hown,hfp,him⟩:=hr
 have hone:∀x y:Ob,lk ([(0,.sl e (.int .i64) l .shallow)]:St) 0=some x→True:=fun _ _ _=>trivial
 have hel:∀j (hj:j<l.length),xs[j]? = some (.int .i64 l[j])∧inR .i64 l[j]:=fun j hj=>by
  obtain⟨h1,h2⟩:=him j hj
  refine⟨?_,h2⟩
  have:((xs.drop (j*1)).take 1)[0]? = some (.int .i64 l[j]):=by
   have h1':(xs.drop (j*1)).take 1=[.int .i64 l[j]]:=h1
   rw[h1'];rfl
  rw[ZDe (by omega)]at this
  simpa using this
 rw[hv]
 rcases Xbf l.length with h0|h0
 ·have hl0:l=[]:=XaJ h0
  subst hl0
  have hl'0:l'=[]:=by rw[hle];simp
  subst hl'0
  obtain⟨a,cap,hshape⟩:=Zfn hown
  rw[hshape]
  refine(Go.Proofs.Any.slices_Sort_int_none L a cap w).mono ?_
  rintro e' w' ⟨rfl,rfl⟩
  exact⟨_,_,_,val,fp,rfl,hk,hO,Stays.refl _ _,⟨#[],rfl,trivial⟩⟩
 obtain⟨g0,cap,cur,hsh,_,hheap,hnc,hcm,hcs,htake⟩:∃g0 cap cur,val 0 = .slice (some ⟨g0,0,none⟩) l.length cap∧0≤g0∧w.heap[g0]? = some (.cells cur e (0,0))∧l.length≤cap∧cap≤maxLen∧cur.size=cap*1∧cur.toList.take (l.length*1)=xs:=by
  rcases hown.2 with⟨_,h⟩|h
  ·omega
  ·exact h
 have hblk:g0<w.heap.size:=(Xbs.1 hheap).1
 have hcell:∀j (hj:j<l.length),cur[j]? = some (.int .i64 l[j]):=fun j hj=>by
  have h1:=(hel j hj).1
  rw[←htake,XaD,if_pos (by omega)]at h1
  simpa using h1
 have hH:Go.Sort.Holds (Value.int .i64) w g0 0 l.toArray:=fun j hj=>by
  have hj':j<l.length:=by simpa using hj
  refine⟨?_,?_⟩
  ·simp only[World.cell?,hheap,Nat.zero_add]
   rw[show (l.toArray)[j]! = l[j] from by rw[getElem!_pos l.toArray j hj];rfl]
   simpa using hcell j hj'
  ·simp[World.frozen?,hheap]
 have hsz:l.length<4611686018427387904:=by omega
 have hcalls:=Go.Proofs.Any.slices_Sort_int L g0 0 cap l w hH hblk hsz
 rw[hsh]
 refine hcalls.mono ?_
 rintro e' w' ⟨rfl,nn,os,rfl⟩
 rw[←hle]
 have hl'l:l'.length=l.length:=by rw[hle,List.length_mergeSort]
 have hnew:(Go.Sort.grow (Go.Sort.putRow (Value.int .i64) (Go.Sort.ahead w nn) g0 0 l'.toArray) os).heap[g0]? = some (.cells (Go.Sort.putCells (Value.int .i64) 0 l'.toArray cur) e (0,0)):=by
  show ((w.heap.modify g0 (Go.Sort.onCells (Go.Sort.putCells (Value.int .i64) 0 l'.toArray)))++os)[g0]? = _
  rw[XbM (by simpa using hblk),Array.getElem?_modify,if_pos rfl,hheap]
  rfl
 have hoth:∀b,b<w.heap.size→b≠g0→(Go.Sort.grow (Go.Sort.putRow (Value.int .i64) (Go.Sort.ahead w nn) g0 0 l'.toArray) os).heap[b]? = w.heap[b]? :=fun b hb hne=>by
  show ((w.heap.modify g0 (Go.Sort.onCells (Go.Sort.putCells (Value.int .i64) 0 l'.toArray)))++os)[b]? = _
  rw[XbM (by simpa using hb),Array.getElem?_modify,if_neg (fun e=>hne e.symm)]
 have hsize:w.heap.size≤(Go.Sort.grow (Go.Sort.putRow (Value.int .i64) (Go.Sort.ahead w nn) g0 0 l'.toArray) os).heap.size:=by
  show w.heap.size≤((w.heap.modify g0 (Go.Sort.onCells (Go.Sort.putCells (Value.int .i64) 0 l'.toArray)))++os).size
  simp
 have hmem:∀j (hj:j<l'.length),inR .i64 l'[j]:=fun j hj=>by
  have:l'[j]∈l:=by
   have h2:=Xbu hj
   generalize l'[j]=z at h2
   rw[hle]at h2
   exact List.mem_mergeSort.1 h2
  obtain⟨i,hi,e⟩:=Xan.1 this
  rw[←e];exact(hel i hi).2
 have hput:(Go.Sort.putCells (Value.int .i64) 0 l'.toArray cur).toList.take l'.length=l'.map (Value.int .i64):=by
  apply Xbb
  intro j
  rw[XaD]
  by_cases hj:j<l'.length
  ·rw[if_pos hj,Xbl,Xac hj]
   have hjc:j<cur.size:=by omega
   simp only[Go.Sort.putCells,Xbv,Array.getElem?_mapIdx,Xbj,Nat.zero_add,Nat.sub_zero]
   rw[Array.getElem?_eq_getElem hjc]
   simp only[Option.map_some]
   rw[if_pos ⟨Nat.zero_le _,hj⟩,getElem!_pos l'.toArray j (by simpa using hj)]
   simp
  ·rw[if_neg hj,Xaw (by simp;omega)]
 have hmine:∀b,(val 0).ownBlock=some b↔b=g0:=fun b=>by rw[hsh];simp[Value.ownBlock,eq_comm]
 have hfp0:fp 0=[g0]:=by rw[hfp,hsh];rfl
 have hlk':∀y,lk ([(0,.sl e (.int .i64) l' .shallow)]:St) y=if y=0 then some (.sl e (.int .i64) l' .shallow)else none:=fun y=>by
  rw[Z2]
  rfl
 have hlk0:∀y,lk ([(0,.sl e (.int .i64) l .shallow)]:St) y=if y=0 then some (.sl e (.int .i64) l .shallow)else none:=fun y=>by
  rw[Z2]
  rfl
 have hstep:Step ⟨w,X,ZrY [(0,.sl e (.int .i64) l .shallow)] fp,n⟩ val val fp fp [(0,.sl e (.int .i64) l .shallow)] [(0,.sl e (.int .i64) l' .shallow)] w (Go.Sort.grow (Go.Sort.putRow (Value.int .i64) (Go.Sort.ahead w nn) g0 0 l'.toArray) os):=by
  refine hO.step (fun y=>y=0) rfl rfl rfl (show w.drawn≤w.drawn+nn by omega) hsize (fun b hb hn=>hoth b hb (fun e=>hn 0 _ rfl hlk (by rw[hfp0];simp[e]))) (fun y o hy hn=>?_) (fun y o hy hn=>?_) (fun y o hy hn b hb=>?_) (fun y z o1 o2 hne hy hz hn hn' b hb=>?_) (fun hkept hstay y o hy hn=>?_)
  ·have hn:¬y=0:=hn
   rw[hlk0,if_neg hn]at hy
   cases hy
  ·have hn:y=0:=hn
   subst hn
   rw[hlk]at hy
   cases hy
   exact⟨_,rfl,And.intro rfl (And.intro rfl hl'l.symm),rfl⟩
  ·have hy0:y=0:=by
    rw[hlk']at hy
    by_cases h:y=0
    ·exact h
    ·rw[if_neg h]at hy;cases hy
   subst hy0
   rw[hfp0]at hb
   have hb:=Xah.1 hb
   subst hb
   exact⟨XaS hblk hsize,fun _=>⟨0,_,rfl,hlk,by rw[hfp0];simp⟩⟩
  ·have hy0:y=0:=by
    rw[hlk']at hy
    by_cases h:y=0
    ·exact h
    ·rw[if_neg h]at hy;cases hy
   have hz0:z=0:=by
    rw[hlk']at hz
    by_cases h:z=0
    ·exact h
    ·rw[if_neg h]at hz;cases hz
   exact absurd (hy0.trans hz0.symm) hne
  ·have hy0:y=0:=by
    rw[hlk']at hy
    by_cases h:y=0
    ·exact h
    ·rw[if_neg h]at hy;cases hy
   subst hy0
   rw[hlk']at hy
   cases hy
   refine⟨l'.map (Value.int .i64),⟨by simp[Ty.size],.inr ⟨g0,cap,_,by rw[hsh,hl'l],Nat.zero_le _,hnew,by omega,hcm,?_,?_⟩⟩,hfp,fun j hj=>?_⟩
   ·simp[Go.Sort.putCells,hcs,Ty.size]
   ·simpa [Ty.size]using hput
   ·refine⟨?_,hmem j hj⟩
    rw[show (Ty.int IntKind.i64).size=1 from rfl,XbW]
    apply Xbb
    intro i
    rw[XaD]
    rcases Xbf i with hi|hi
    ·subst hi
     rw[if_pos (by omega),Xa0,XbX,Xbl,Xac hj]
     rfl
    ·rw[if_neg (by omega),Xaw (by simp;omega)]
 exact⟨_,_,_,val,fp,rfl,hk,hstep.objs,hstep.stays,⟨#[],rfl,trivial⟩⟩
end
end Go.AE
namespace Go.AE
open Go Go.RowKit
def ltM {α:Type} (f:α→α→Option Int) (x y:α):Bool:=match f x y with|some v=>decide (v<0)|none=>false
structure ZJo {α:Type} (f:α→α→Option Int) (l:List α):Prop where
 few:l.length≤4000000000
 there:∀x∈l,∀y∈l,∃v,f x y=some v
 irrefl:∀x∈l,ltM f x x=false
 trans:∀x∈l,∀y∈l,∀z∈l,ltM f x y=true→ltM f y z=true→ltM f x z=true
 ntrans:∀x∈l,∀y∈l,∀z∈l,ltM f x y=false→ltM f y z=false→ltM f x z=false
 total:∀x∈l,∀y∈l,ltM f x y=false→ltM f y x=false→x=y
open Classical in
noncomputable def Zzw {α:Type} (f:α→α→Option Int) (l:List α):Option (List α):=if ZJo f l then some (l.mergeSort fun x y=>!ltM f y x)else none
theorem ZJZ {α:Type} {f:α→α→Option Int} {l l':List α} (h:Zzw f l=some l'):ZJo f l∧l'=l.mergeSort fun x y=>!ltM f y x:=by
 unfold Zzw at h
 split at h
 ·rename_i hs;cases h;exact⟨hs,rfl⟩
 ·cases h
theorem ZLS {w w':World} (h1:w.heap=w'.heap) (h2:w.tape=w'.tape) (h3:w.drawn=w'.drawn) (h4:w.os=w'.os) (h5:w.output=w'.output):w=w':=by
 cases w;cases w';simp_all
theorem ZMe {w w':World} (h2:w'.tape=w.tape) (h3:w.drawn≤w'.drawn) (h4:w'.os=w.os) (h5:w'.output=w.output) (hs:w.heap.size≤w'.heap.size) (hb:∀b,b<w.heap.size→w'.heap[b]? = w.heap[b]?) :
  ∃q os',w'=Go.Sort.grow (w.drewN q) os':=by
 refine⟨w'.drawn - w.drawn,w'.heap.extract w.heap.size w'.heap.size,ZLS ?_ h2 ?_ h4 h5⟩
 ·show w'.heap=w.heap++w'.heap.extract w.heap.size w'.heap.size
  apply Array.ext_getElem?
  intro i
  rw[Array.getElem?_append]
  split
  ·rename_i hi;exact hb i hi
  ·rename_i hi
   rw[Array.getElem?_extract]
   by_cases h:i<w'.heap.size
   ·rw[if_pos (by omega)]
    congr 1
    omega
   ·rw[if_neg (by omega)]
    exact Array.getElem?_eq_none (by omega)
 ·show w'.drawn=w.drawn+(w'.drawn - w.drawn)
  omega
noncomputable def ZGN (g:FuncId) (m:Int→Int→Option Int):Con:=fun args st=>match args,st with
 |[.c (.own 0 _),.c (.fn g' [])],[(0,.sl e (.int .i64) l .shallow)]=>match Nat.beq g' g with
  |true=>.opt (List Int) (Zzw m l) (fun l'=>.ret (.tup []) [(0,.sl e (.int .i64) l' .shallow)])
  |false=>.fail
 |_,_=>.fail
section
variable {P:Program} {ρ:Go.Shelf.Ren}
theorem ZKd {g:FuncId} {cg:Con} (hg:Zn P g cg) {m:Int→Int→Option Int} {x y v:Int} (hm:cg [.c (.int .i64 x),.c (.int .i64 y)] [] = .opt Int (m x y) (fun r=>.ret (.c (.int .i64 r)) []))
  (hv:m x y=some v) (hx:inR .i64 x) (hy:inR .i64 y) (W:World):Calls P g #[.int .i64 x,.int .i64 y] W fun e w'=>e = .returned (.int .i64 v)∧∃q os',w'=Go.Sort.grow (W.drewN q) os':=by
 have he:ZbD (cg [.c (.int .i64 x),.c (.int .i64 y)] []) (fun av st'=>av = .c (.int .i64 v)∧st'=[]):=by
  rw[hm]
  exact⟨v,hv,rfl,rfl⟩
 have h:=hg.ok _ _ _ he (fun _=>False) 0 (fun _=>undef) (fun _=>[]) W #[.int .i64 x,.int .i64 y]
  ⟨⟨rfl,rfl,rfl,Nat.le_refl _,Nat.le_refl _,fun _ _ _=>rfl⟩,fun _ _ h=>(by cases h),fun _ _ h=>(by cases h),fun _ _ _ _ _ h=>(by cases h),fun _ h=>h.elim⟩ ⟨⟨rfl,hx⟩,⟨rfl,hy⟩,trivial⟩
 refine h.mono ?_
 rintro e w' ⟨v',av,st',val',fp',rfl,⟨rfl,rfl⟩,hO,_,hr⟩
 have hv':v' = .int .i64 v:=hr.1
 refine⟨by rw[hv'],ZMe hO.fr.tape hO.fr.drawn hO.fr.os hO.fr.output hO.fr.size (fun b hb=>hO.fr.block b hb ?_)⟩
 rintro⟨x,o,h,_⟩
 cases h
theorem lt_of {α:Type} {m:α→α→Option Int} {x y:α}:ltM m x y=decide ((m x y).getD 0<0):=by
 unfold ltM
 cases m x y with
 |none=>rfl
 |some v=>rfl
set_option maxHeartbeats 1000000 in
theorem ZHT (L:Go.Proofs.SlLaysF.n6 P ρ) {g:FuncId} {cg:Con} (hg:Zn P g cg) {m:Int→Int→Option Int} (hm:∀x y,cg [.c (.int .i64 x),.c (.int .i64 y)] [] = .opt Int (m x y) (fun r=>.ret (.c (.int .i64 r)) [])):Zn P (ρ.f 6) (ZGN g m):=by
 refine⟨?_,?_⟩
 rotate_left
 ·obtain⟨nm,h1,h2⟩:=L.f6
  exact⟨_,_,h2,h1,rfl⟩
 intro args st k he X n val fp w vs hO hA
 unfold ZGN at he
 split at he
 rotate_left
 ·exact he.elim
 rename_i b0 g' e l
 split at he
 rotate_left
 ·exact he.elim
 rename_i hgg
 obtain rfl:=ZR.1 hgg
 obtain⟨l',hl',hk⟩:=he
 obtain⟨hs,hle⟩:=ZJZ hl'
 obtain⟨v0,v1,rfl,hv0,hv1⟩:∃v0 v1,vs = #[v0,v1]∧AvRep w (ZI X [(0,.sl e (.int .i64) l .shallow)] fp) val [(0,.sl e (.int .i64) l .shallow)] (.c (.own 0 b0)) v0∧AvRep w (ZI X [(0,.sl e (.int .i64) l .shallow)] fp) val [(0,.sl e (.int .i64) l .shallow)] (.c (.fn g' [])) v1:=by
  have hlen:=hA.length
  obtain⟨vl⟩:=vs
  match vl,hlen,hA with
  |[v0,v1],_,⟨h1,h2,_⟩=>exact⟨v0,v1,rfl,h1,h2⟩
 have hlk:lk ([(0,.sl e (.int .i64) l .shallow)]:St) 0=some (.sl e (.int .i64) l .shallow):=rfl
 obtain⟨hv,hr⟩:=Zbk hO hv0 hlk
 obtain⟨vs',hf1,hf2⟩:=hv1
 have hvs':vs' = #[]:=by
  obtain⟨vl⟩:=vs'
  match vl,hf2 with
  |[],_=>rfl
 subst hvs'
 subst hf1
 obtain⟨xs,hown,hfp,him⟩:=hr
 have hone:∀x y:Ob,lk ([(0,.sl e (.int .i64) l .shallow)]:St) 0=some x→True:=fun _ _ _=>trivial
 have hel:∀j (hj:j<l.length),xs[j]? = some (.int .i64 l[j])∧inR .i64 l[j]:=fun j hj=>by
  obtain⟨h1,h2⟩:=him j hj
  refine⟨?_,h2⟩
  have:((xs.drop (j*1)).take 1)[0]? = some (.int .i64 l[j]):=by
   have h1':(xs.drop (j*1)).take 1=[.int .i64 l[j]]:=h1
   rw[h1'];rfl
  rw[ZDe (by omega)]at this
  simpa using this
 rw[hv]
 rcases Xbf l.length with h0|h0
 ·have hl0:l=[]:=XaJ h0
  subst hl0
  have hl'0:l'=[]:=by rw[hle];simp
  subst hl'0
  obtain⟨a,cap,hshape⟩:=Zfn hown
  rw[hshape]
  refine(Go.Proofs.AnyF.slices_SortFunc_none { L with } a cap _ w).mono ?_
  rintro e' w' ⟨rfl,rfl⟩
  exact⟨_,_,_,val,fp,rfl,hk,hO,Stays.refl _ _,⟨#[],rfl,trivial⟩⟩
 obtain⟨g0,cap,cur,hsh,_,hheap,hnc,hcm,hcs,htake⟩:∃g0 cap cur,val 0 = .slice (some ⟨g0,0,none⟩) l.length cap∧0≤g0∧w.heap[g0]? = some (.cells cur e (0,0))∧l.length≤cap∧cap≤maxLen∧cur.size=cap*1∧cur.toList.take (l.length*1)=xs:=by
  rcases hown.2 with⟨_,h⟩|h
  ·omega
  ·exact h
 have hblk:g0<w.heap.size:=(Xbs.1 hheap).1
 have hcell:∀j (hj:j<l.length),cur[j]? = some (.int .i64 l[j]):=fun j hj=>by
  have h1:=(hel j hj).1
  rw[←htake,XaD,if_pos (by omega)]at h1
  simpa using h1
 let α:={ x:Int // x∈l }
 haveI:Inhabited α:=⟨⟨l[0],Xbu h0⟩⟩
 let d:Array α:=l.attach.toArray
 let enc:α→Value:=fun x=>.int .i64 x.1
 let cf:α→α→Int:=fun x y=>(m x.1 y.1).getD 0
 have hd:d.size=l.length:=by
  show l.attach.toArray.size=l.length
  rw[Xbj]
  exact List.length_attach
 have hdj:∀j (hj:j<l.length),(d[j]!).1=l[j]:=fun j hj=>by
  rw[getElem!_pos d j (by omega)]
  show (l.attach.toArray[j]'(by rw[Xbj,List.length_attach];exact hj)).1=l[j]
  rw[List.getElem_toArray,List.getElem_attach]
 have hlt:∀x y:α,Go.Proofs.ltOf cf x y=ltM m x.1 y.1:=fun x y=>lt_of.symm
 have hO6:Go.Sort.SWO (Go.Proofs.ltOf cf):=⟨fun x=>by rw[hlt];exact hs.irrefl _ x.2,fun x y z h1 h2=>by rw[hlt]at *;exact hs.trans _ x.2 _ y.2 _ z.2 h1 h2,fun x y z h1 h2=>by rw[hlt]at *;exact hs.ntrans _ x.2 _ y.2 _ z.2 h1 h2⟩
 have hT:∀x y:α,Go.Proofs.ltOf cf x y=false→Go.Proofs.ltOf cf y x=false→x=y:=fun x y h1 h2=>by
  rw[hlt]at h1 h2
  exact Subtype.ext (hs.total _ x.2 _ y.2 h1 h2)
 have hin:∀x:α,inR .i64 x.1:=fun x=>by
  obtain⟨j,hj,e⟩:=Xan.1 x.2
  rw[←e];exact(hel j hj).2
 have eg:∀args w,(callFunc g' args).run P w = .ok (.enter g' args) w:=by
  obtain⟨fn,c,h1,h2,h3⟩:=hg.there
  exact Go.Proofs.enters_of h1 h2 h3
 have hcmp:Go.Proofs.CmpLays1 P g' #[] enc cf g0 0 d.size w:=fun mm os dk _ x y=>by
  obtain⟨v,hv⟩:=hs.there _ x.2 _ y.2
  have hcf:cf x y=v:=by simp[cf,hv]
  rw[hcf]
  exact ZKd hg (hm _ _) hv (hin x) (hin y) _
 have hH:Go.Sort.Holds enc w g0 0 d:=fun j hj=>by
  have hj':j<l.length:=by omega
  refine⟨?_,?_⟩
  ·simp only[World.cell?,hheap,Nat.zero_add]
   rw[show enc d[j]! = .int .i64 l[j] from congrArg (Value.int .i64) (hdj j hj')]
   simpa using hcell j hj'
  ·simp[World.frozen?,hheap]
 have hcalls:=Go.Proofs.Any.slices_SortFunc_total L enc (fun _=>rfl) cf hO6 g' #[] g0 0 cap d w eg hcmp hH hblk (by rw[hd];have:=hs.few;omega) hT
 rw[hsh,←hd]
 refine hcalls.mono ?_
 rintro e' w' ⟨rfl,nn,os,rfl⟩
 generalize hms:d.toList.mergeSort (fun x y=>!Go.Proofs.ltOf cf y x)=ms
 have hmsl:ms.map (·.1)=l':=by
  rw[hle,←hms,List.map_mergeSort (s:=fun x y=>!ltM m y x) (fun a _ b _=>by rw[hlt])]
  show (l.attach.map Subtype.val).mergeSort (fun x y=>!ltM m y x)=_
  rw[List.attach_map_subtype_val]
 have hml:ms.length=l.length:=by rw[←hms,List.length_mergeSort];exact List.length_attach
 have hl'l:l'.length=l.length:=by rw[←hmsl,Xak,hml]
 have hnew:(Go.Proofs.sortWorld enc w g0 0 nn ms.toArray os).heap[g0]? = some (.cells (Go.Sort.putCells enc 0 ms.toArray cur) e (0,0)):=by
  show ((w.heap.modify g0 (Go.Sort.onCells (Go.Sort.putCells enc 0 ms.toArray)))++os)[g0]? = _
  rw[XbM (by simpa using hblk),Array.getElem?_modify,if_pos rfl,hheap]
  rfl
 have hoth:∀b,b<w.heap.size→b≠g0→(Go.Proofs.sortWorld enc w g0 0 nn ms.toArray os).heap[b]? = w.heap[b]? :=fun b hb hne=>by
  show ((w.heap.modify g0 (Go.Sort.onCells (Go.Sort.putCells enc 0 ms.toArray)))++os)[b]? = _
  rw[XbM (by simpa using hb),Array.getElem?_modify,if_neg (fun e=>hne e.symm)]
 have hsize:w.heap.size≤(Go.Proofs.sortWorld enc w g0 0 nn ms.toArray os).heap.size:=by
  show w.heap.size≤((w.heap.modify g0 (Go.Sort.onCells (Go.Sort.putCells enc 0 ms.toArray)))++os).size
  simp
 have hmem:∀j (hj:j<l'.length),inR .i64 l'[j]:=fun j hj=>by
  have:l'[j]∈l:=by
   have h1:l'[j]∈l.mergeSort fun x y=>!ltM m y x:=by
    have h2:=Xbu hj
    generalize l'[j]=z at h2
    rw[hle]at h2
    exact h2
   exact List.mem_mergeSort.1 h1
  obtain⟨i,hi,e⟩:=Xan.1 this
  rw[←e];exact(hel i hi).2
 have hput:(Go.Sort.putCells enc 0 ms.toArray cur).toList.take l'.length=l'.map (Value.int .i64):=by
  apply Xbb
  intro j
  rw[XaD]
  by_cases hj:j<l'.length
  ·rw[if_pos hj,Xbl,Xac hj]
   have hjc:j<cur.size:=by omega
   have hjm:j<ms.length:=by omega
   have he':(ms[j]'hjm).1=l'[j]:=by
    have:(ms.map (·.1))[j]? = some l'[j]:=by rw[hmsl];exact Xac hj
    rw[Xbl,Xac hjm]at this
    simpa using this
   simp only[Go.Sort.putCells,Xbv,Array.getElem?_mapIdx,Xbj,Nat.zero_add,Nat.sub_zero]
   rw[Array.getElem?_eq_getElem hjc]
   simp only[Option.map_some]
   rw[if_pos ⟨Nat.zero_le _,hjm⟩,getElem!_pos ms.toArray j (by simpa using hjm)]
   simp[enc,he']
  ·rw[if_neg hj,Xaw (by simp;omega)]
 have hmine:∀b,(val 0).ownBlock=some b↔b=g0:=fun b=>by rw[hsh];simp[Value.ownBlock,eq_comm]
 have hfp0:fp 0=[g0]:=by rw[hfp,hsh];rfl
 have hlk':∀y,lk ([(0,.sl e (.int .i64) l' .shallow)]:St) y=if y=0 then some (.sl e (.int .i64) l' .shallow)else none:=fun y=>by
  rw[Z2]
  rfl
 have hlk0:∀y,lk ([(0,.sl e (.int .i64) l .shallow)]:St) y=if y=0 then some (.sl e (.int .i64) l .shallow)else none:=fun y=>by
  rw[Z2]
  rfl
 have hstep:Step ⟨w,X,ZrY [(0,.sl e (.int .i64) l .shallow)] fp,n⟩ val val fp fp [(0,.sl e (.int .i64) l .shallow)] [(0,.sl e (.int .i64) l' .shallow)] w (Go.Proofs.sortWorld enc w g0 0 nn ms.toArray os):=by
  refine hO.step (fun y=>y=0) rfl rfl rfl (show w.drawn≤w.drawn+nn by omega) hsize (fun b hb hn=>hoth b hb (fun e=>hn 0 _ rfl hlk (by rw[hfp0];simp[e]))) (fun y o hy hn=>?_) (fun y o hy hn=>?_) (fun y o hy hn b hb=>?_) (fun y z o1 o2 hne hy hz hn hn' b hb=>?_) (fun hkept hstay y o hy hn=>?_)
  ·have hn:¬y=0:=hn
   rw[hlk0,if_neg hn]at hy
   cases hy
  ·have hn:y=0:=hn
   subst hn
   rw[hlk]at hy
   cases hy
   exact⟨_,rfl,And.intro rfl (And.intro rfl hl'l.symm),rfl⟩
  ·have hy0:y=0:=by
    rw[hlk']at hy
    by_cases h:y=0
    ·exact h
    ·rw[if_neg h]at hy;cases hy
   subst hy0
   rw[hfp0]at hb
   have hb:=Xah.1 hb
   subst hb
   exact⟨XaS hblk hsize,fun _=>⟨0,_,rfl,hlk,by rw[hfp0];simp⟩⟩
  ·have hy0:y=0:=by
    rw[hlk']at hy
    by_cases h:y=0
    ·exact h
    ·rw[if_neg h]at hy;cases hy
   have hz0:z=0:=by
    rw[hlk']at hz
    by_cases h:z=0
    ·exact h
    ·rw[if_neg h]at hz;cases hz
   exact absurd (hy0.trans hz0.symm) hne
  ·have hy0:y=0:=by
    rw[hlk']at hy
    by_cases h:y=0
    ·exact h
    ·rw[if_neg h]at hy;cases hy
   subst hy0
   rw[hlk']at hy
   cases hy
   refine⟨l'.map (Value.int .i64),⟨by simp[Ty.size],.inr ⟨g0,cap,_,by rw[hsh,hl'l],Nat.zero_le _,hnew,by omega,hcm,?_,?_⟩⟩,hfp,fun j hj=>?_⟩
   ·simp[Go.Sort.putCells,hcs,Ty.size]
   ·simpa [Ty.size]using hput
   ·refine⟨?_,hmem j hj⟩
    rw[show (Ty.int IntKind.i64).size=1 from rfl,XbW]
    apply Xbb
    intro i
    rw[XaD]
    rcases Xbf i with hi|hi
    ·subst hi
     rw[if_pos (by omega),Xa0,XbX,Xbl,Xac hj]
     rfl
    ·rw[if_neg (by omega),Xaw (by simp;omega)]
 exact⟨_,_,_,val,fp,rfl,hk,hstep.objs,hstep.stays,⟨#[],rfl,trivial⟩⟩
end
end Go.AE
namespace Go.AE
open Go Go.RowKit Go.ChangeShapes Go.WideShapes
def Zot (P:Program):Ty→(TypeId→Prop)×(List Field→Nat→Prop)
 | .int k=>(fun id=>P.underlying id=some (.int k)∧same k k=true,fun fs off=>∃f,fs=[f]∧f.offset=off∧P.cellsOf f.type=1∧P.underlying f.type=some (.int k)∧same k k=true)
 | .bool=>(fun id=>P.underlying id=some .bool,fun fs off=>∃f,fs=[f]∧f.offset=off∧P.cellsOf f.type=1∧P.underlying f.type=some .bool)
 | .str=>(fun id=>P.underlying id=some .string,fun fs off=>∃f,fs=[f]∧f.offset=off∧P.cellsOf f.type=1∧P.underlying f.type=some .string)
 | .sl t=>(fun id=>∃e,P.underlying id=some (.slice e)∧P.cellsOf e=t.size∧(Zot P t).1 e,
   fun fs off=>∃f,fs=[f]∧f.offset=off∧P.cellsOf f.type=1∧∃e,P.underlying f.type=some (.slice e)∧P.cellsOf e=t.size∧(Zot P t).1 e)
 | .pair a b=>(fun id=>∃fs,P.underlying id=some (.struct fs)∧P.cellsOf id=a.size+b.size∧∃f r,fs.toList=f::r∧f.offset=0∧P.cellsOf f.type=a.size∧(Zot P a).1 f.type∧(Zot P b).2 r a.size,
   fun fs off=>(∃f r,fs=f::r∧f.offset=off∧P.cellsOf f.type=a.size∧(Zot P a).1 f.type∧(Zot P b).2 r (off+a.size)) ∨
    (∃f,fs=[f]∧f.offset=off∧P.cellsOf f.type=a.size+b.size∧∃gs,P.underlying f.type=some (.struct gs)∧P.cellsOf f.type=a.size+b.size∧∃g r,gs.toList=g::r∧g.offset=0∧P.cellsOf g.type=a.size∧(Zot P a).1 g.type∧(Zot P b).2 r a.size))
def ZpD (P:Program) (t:Ty) (id:TypeId):Prop:=(Zot P t).1 id
def ZNs:(t:Ty)→t.den→AV
 | .int k,n=>.c (.int k n)
 | .bool,b=>.c (.bool b)
 | .str,s=>.c (.str s)
 | .sl t,l=>.c (.imm t l)
 | .pair a b,d=>.agg (Zlr (.pair a b) d)
section
variable {H:Type} {enc:TypeId×Value→H} {P:Program} {w:World} {base:Nat} {spare:Nat→Bool} {held:Bool}
theorem ZOp {k:IntKind} {n:Int} (hk:same k k=true) (h:(Lit.int k n).wf=true):inR k n:=by
 cases k<;>simp[same]at hk<;>simp[Lit.wf,IntKind.min,IntKind.max,IntKind.signed,IntKind.bits]at h<;>simp only[inR]<;>omega
theorem ZMT {b o x y:Nat}:((⟨b,o,none⟩:Addr).add x).add y=⟨b,o+x+y,none⟩:=by
 unfold Addr.add
 by_cases hx:x=0
 ·subst hx
  by_cases hy:y=0
  ·subst hy;simp
  ·simp[hy]
 ·by_cases hy:y=0
  ·subst hy;simp[hx]
  ·simp[hx,hy]
theorem ZMY {a:Addr} {v:Value} (h:w.cell? a=some v):a.block<w.heap.size:=by
 unfold World.cell? at h
 split at h
 ·rename_i hc
  exact(Xbs.1 hc).1
 ·cases h
def Ztn (enc:TypeId×Value→H) (P:Program) (w:World) (base:Nat) (spare:Nat→Bool) (held:Bool) (n:Nat) (cs:List Value) (fs:List Field):Prop:=
 ∀f∈fs,∃y,DataW.trod enc P w base spare held n f.type ((cs.drop f.offset).take (P.cellsOf f.type))=some y
theorem ZsW {t:Ty} {n:Nat} {cs:List Value} {f:Field} {off:Nat} (ho:f.offset=off) (hc:P.cellsOf f.type=t.size) (hat:Ztn enc P w base spare held n cs [f])
  (hi:∀{id:TypeId} {fuel:Nat} {cs:List Value} {x:DataW H×List MemPlace},ZpD P t id→DataW.trod enc P w base spare held fuel id cs=some x→∃d:t.den,Imm w (fun _=>False) t d cs) (hf:ZpD P t f.type) :
  ∃d:t.den,Imm w (fun _=>False) t d ((cs.drop off).take t.size):=by
 obtain⟨y,hy⟩:=hat f (by simp)
 rw[ho,hc]at hy
 exact hi hf hy
theorem ZGz {a b:Ty} {n:Nat} {cs:List Value} {f:Field} {r:List Field} {off:Nat} (ho:f.offset=off) (hc:P.cellsOf f.type=a.size) (hat:Ztn enc P w base spare held n cs (f::r))
  (ha:∀{id:TypeId} {fuel:Nat} {cs:List Value} {x:DataW H×List MemPlace},ZpD P a id→DataW.trod enc P w base spare held fuel id cs=some x→∃d:a.den,Imm w (fun _=>False) a d cs)
  (hb:∀{fs:List Field} {off n:Nat} {cs:List Value},(Zot P b).2 fs off→Ztn enc P w base spare held n cs fs→∃d:b.den,Imm w (fun _=>False) b d ((cs.drop off).take b.size))
  (h1:ZpD P a f.type) (h2:(Zot P b).2 r (off+a.size)):∃d:(Ty.pair a b).den,Imm w (fun _=>False) (.pair a b) d ((cs.drop off).take (a.size+b.size)):=by
 obtain⟨d0,i0⟩:=ZsW ho hc (fun g hg=>hat g (by rw[Xah.1 hg];simp)) ha h1
 obtain⟨d1,i1⟩:=hb h2 (fun g hg=>hat g (Xao _ hg))
 refine⟨(d0,d1),_,_,?_,i0,i1⟩
 rw[←List.drop_drop,←List.take_add]
theorem ZuC:∀(t:Ty),(∀{id:TypeId} {fuel:Nat} {cs:List Value} {x:DataW H×List MemPlace},ZpD P t id→DataW.trod enc P w base spare held fuel id cs=some x→∃d:t.den,Imm w (fun _=>False) t d cs) ∧
  (∀{fs:List Field} {off n:Nat} {cs:List Value},(Zot P t).2 fs off→Ztn enc P w base spare held n cs fs→∃d:t.den,Imm w (fun _=>False) t d ((cs.drop off).take t.size))
 | .int k=>by
  have h1:∀{id:TypeId} {fuel:Nat} {cs:List Value} {x:DataW H×List MemPlace},ZpD P (.int k) id→DataW.trod enc P w base spare held fuel id cs=some x→∃d:(Ty.int k).den,Imm w (fun _=>False) (.int k) d cs:=by
   intro id fuel cs x hf h
   obtain⟨n,h1,_,h3⟩:=DataW.trod_int hf.1 h
   exact⟨n,h1,ZOp hf.2 h3⟩
  refine⟨h1,?_⟩
  rintro fs off n cs ⟨f,rfl,q1,q2,q3⟩ hat
  exact ZsW q1 q2 hat h1 q3
 | .bool=>by
  have h1:∀{id:TypeId} {fuel:Nat} {cs:List Value} {x:DataW H×List MemPlace},ZpD P .bool id→DataW.trod enc P w base spare held fuel id cs=some x→∃d:(Ty.bool).den,Imm w (fun _=>False) .bool d cs:=by
   intro id fuel cs x hf h
   obtain⟨b,h1,_⟩:=DataW.trod_bool hf h
   exact⟨b,h1⟩
  refine⟨h1,?_⟩
  rintro fs off n cs ⟨f,rfl,q1,q2,q3⟩ hat
  exact ZsW q1 q2 hat h1 q3
 | .str=>by
  have h1:∀{id:TypeId} {fuel:Nat} {cs:List Value} {x:DataW H×List MemPlace},ZpD P .str id→DataW.trod enc P w base spare held fuel id cs=some x→∃d:(Ty.str).den,Imm w (fun _=>False) .str d cs:=by
   intro id fuel cs x hf h
   obtain⟨s,h1,_⟩:=DataW.trod_string hf h
   exact⟨s.data.toList,by rw[h1];rfl⟩
  refine⟨h1,?_⟩
  rintro fs off n cs ⟨f,rfl,q1,q2,q3⟩ hat
  exact ZsW q1 q2 hat h1 q3
 | .pair a b=>by
  obtain⟨ha,_⟩:=ZuC a
  obtain⟨_,hb⟩:=ZuC b
  have h1:∀{id:TypeId} {fuel:Nat} {cs:List Value} {x:DataW H×List MemPlace},ZpD P (.pair a b) id→DataW.trod enc P w base spare held fuel id cs=some x→∃d:(Ty.pair a b).den,Imm w (fun _=>False) (.pair a b) d cs:=by
   intro id fuel cs x hf h
   obtain⟨fs,q1,q2,f,r,q3,q4,q5,q6,q7⟩:=hf
   obtain⟨xs,n,_,_,hl,hlen,hx⟩:=DataW.trod_struct q1 h
   have hat:Ztn enc P w base spare held n cs (f::r):=by
    rw[←q3]
    intro g hg
    obtain⟨i,hi,rfl⟩:=Xan.1 hg
    have hi':i<fs.size:=by simpa using hi
    have:=hx i fs[i] (Array.getElem?_eq_getElem hi')
    rw[Xac (by omega)]at this
    exact⟨_,by simpa using this⟩
   have:=ZGz (off:=0) q4 q5 hat ha hb q6 (by rw[Nat.zero_add];exact q7)
   rwa [List.drop_zero,Xa5 (by omega)]at this
  refine⟨h1,?_⟩
  rintro fs off n cs (⟨f,r,rfl,q1,q2,q3,q4⟩|⟨f,rfl,q1,q2,q3⟩) hat
  ·exact ZGz q1 q2 hat ha hb q3 q4
  ·exact ZsW q1 q2 hat h1 q3
 | .sl t=>by
  obtain⟨ih,_⟩:=ZuC t
  have h1:∀{id:TypeId} {fuel:Nat} {cs:List Value} {x:DataW H×List MemPlace},ZpD P (.sl t) id→DataW.trod enc P w base spare held fuel id cs=some x→∃d:(Ty.sl t).den,Imm w (fun _=>False) (.sl t) d cs:=by
   intro id fuel cs x hf h
   obtain⟨e,h1,h2,h3⟩:=hf
   rcases Go.Deep.open_slice h1 h with⟨rfl,_⟩|⟨a,len,cap,m,n,D,Pl,rfl,hb,hl,hm,hmm,_,hx⟩
   ·exact⟨[],none,0,rfl,Nat.le_refl _,Nat.zero_le _,fun h=>absurd h (by simp)⟩
   ·have hle:len≤m:=by rw[hmm];split<;>omega
    have:Inhabited t.den:=⟨t.dflt⟩
    have hex:∀i,i<len→∃d:t.den,∃es,w.cells? base (a.add (i*P.cellsOf e)) (P.cellsOf e)=some es∧Imm w (fun _=>False) t d es:=fun i hi=>by
     obtain⟨es,q1,q2⟩:=hx i (by omega)
     obtain⟨d,q3⟩:=ih h3 q2
     exact⟨d,es,q1,q3⟩
    obtain⟨f,hf⟩:=Go.Deep.choose_lt hex
    refine⟨(List.range len).map f,some a,cap,by simp,by simpa using hl,hm,fun hpos=>?_⟩
    have hpos:0<len:=by simpa using hpos
    have hts:=t.size_pos
    obtain⟨es,q1,q2⟩:=hf 0 hpos
    obtain⟨_,r2,r3⟩:=World.cells?_some q1
    have r4:=r3 0 (by omega)
    rw[Xac (show 0<es.length by omega)]at r4
    have hsp:=World.cell?_spot r4
    have hlt:=ZMY r4
    obtain⟨bk,off,spot⟩:=a
    have hsp':spot=none:=by simpa [Addr.add]using hsp
    subst hsp'
    have hlt':bk<w.heap.size:=by simpa [Addr.add]using hlt
    refine⟨bk,off,rfl,fun h=>h,hlt',fun j hj=>?_⟩
    have hj':j<len:=by simpa using hj
    obtain⟨es,q1,q2⟩:=hf j hj'
    obtain⟨_,r2,r3⟩:=World.cells?_some q1
    refine⟨es,fun c hc=>?_,by simpa using q2⟩
    have:=r3 c (by omega)
    rw[ZMT,h2]at this
    exact this
  refine⟨h1,?_⟩
  rintro fs off n cs ⟨f,rfl,q1,q2,q3⟩ hat
  exact ZsW q1 q2 hat h1 q3
theorem ZME (t:Ty) {id:TypeId} {fuel:Nat} {cs:List Value} {x:DataW H×List MemPlace} (hf:ZpD P t id) (h:DataW.trod enc P w base spare held fuel id cs=some x):∃d:t.den,Imm w (fun _=>False) t d cs:=(ZuC t).1 hf h
def okD:(t:Ty)→t.den→Prop
 | .int k,n=>inR k n
 | .bool,_=>True
 | .str,_=>True
 | .sl t,l=>l.length≤maxLen∧∀x∈l,okD t x
 | .pair a b,d=>okD a d.1∧okD b d.2
theorem Imm.okD {w:World} {N:Nat→Prop}:∀{t:Ty} {d:t.den} {cs:List Value},Imm w N t d cs→AE.okD t d
 | .int _,_,_,h=>h.2
 | .bool,_,_,_=>trivial
 | .str,_,_,_=>trivial
 | .sl t,l,_,h=>by
  obtain⟨a,cap,_,h1,h2,h3⟩:=h
  refine⟨by omega,fun x hx=>?_⟩
  obtain⟨j,hj,rfl⟩:=Xan.1 hx
  obtain⟨b,o,_,_,_,he⟩:=h3 (by omega)
  obtain⟨es,_,q⟩:=he j hj
  exact Imm.okD q
 | .pair a b,d,_,h=>by
  obtain⟨c1,c2,_,h1,h2⟩:=h
  exact⟨h1.okD,h2.okD⟩
theorem ZMV {t:Ty} {id:TypeId} {v:Value} {d:DataW H} {ps:List MemPlace} {r:Reach} {b0:Nat} {val:Nat→Value} (hf:ZpD P t id) (hval:Value.okWide P w r b0 id v) (hd:DataW.Trod enc P w base spare held id v d ps) :
  ∃x:t.den,AvRep w (fun _=>False) val [] (ZNs t x) v∧AE.okD t x:=by
 obtain⟨fuel,h⟩:=hd
 obtain⟨x,hx⟩:=ZME t hf h
 refine⟨x,?_,hx.okD⟩
 cases t with
 |int k=>
  obtain⟨n,rfl⟩:=okWide_int hf.1 hval
  have h1:=hx.1
  simp only[Value.cells,List.cons.injEq,and_true]at h1
  exact And.intro h1 hx.2
 |bool=>
  obtain⟨n,rfl⟩:=okWide_bool hf hval
  have h1:(Value.bool n).cells.toList=[.bool x]:=hx
  simp only[Value.cells,List.cons.injEq,and_true]at h1
  exact h1
 |str=>
  obtain⟨n,rfl⟩:=okWide_string hf hval
  have h1:(Value.string n).cells.toList=[.string ⟨x.toArray⟩]:=hx
  simp only[Value.cells,List.cons.injEq,and_true]at h1
  exact h1
 |sl t=>
  obtain⟨e,h1,_⟩:=hf
  obtain⟨a,len,cap,rfl⟩:=okWide_slice h1 hval
  exact hx
 |pair a b=>
  obtain⟨fs,h1,_⟩:=hf
  obtain⟨cs,rfl,_⟩:=okWide_struct h1 hval
  exact⟨cs,rfl,Znc hx⟩
def avS (p:Sigma Ty.den):AV:=ZNs p.1 p.2
def ZCO (P:Program):List Ty→List TypeId→Prop
 |[],[]=>True
 |t::ts,id::ids=>ZpD P t id∧ZCO P ts ids
 |_,_=>False
theorem ZFx {r:Reach} {b0:Nat} {val:Nat→Value}:∀{ts:List Ty} {ids:List TypeId} {vs:List Value} {ds:List (DataW H)} {ps:List MemPlace},ZCO P ts ids →
  (∀(j:Nat) t v,ids[j]? = some t→vs[j]? = some v→Value.okWide P w r b0 t v)→DataW.TrodAll enc P w base spare held ids vs ds ps →
  ∃l:List (Sigma Ty.den),l.map (·.1)=ts∧All2 (AvRep w (fun _=>False) val []) (l.map avS) vs∧∀p∈l,AE.okD p.1 p.2
 |[],[],[],[],_,_,_,_=>⟨[],rfl,trivial,fun p h=>by cases h⟩
 |t::ts,id::ids,v::vs,d::ds,_,⟨hf,hfs⟩,hval,⟨p,q,h1,h2,_⟩=>by
  obtain⟨x,hx,ho⟩:=ZMV (val:=val) hf (hval 0 id v rfl rfl) h1
  obtain⟨l,k1,k2,k3⟩:=ZFx hfs (fun j t v a b=>hval (j+1) t v (by simpa using a) (by simpa using b)) h2
  exact⟨⟨t,x⟩::l,by simp[k1],⟨hx,k2⟩,fun p hp=>by
   rcases XaA.1 hp with rfl|hp
   ·exact ho
   ·exact k3 p hp⟩
 |_,_::_,[],_,_,_,_,h=>by simp[DataW.TrodAll]at h
 |_,_::_,_::_,[],_,_,_,h=>by simp[DataW.TrodAll]at h
 |_,[],_::_,_,_,_,_,h=>by simp[DataW.TrodAll]at h
 |_,[],[],_::_,_,_,_,h=>by simp[DataW.TrodAll]at h
 |[],_::_,_::_,_::_,_,h,_,_=>h.elim
 |_::_,[],[],[],_,h,_,_=>h.elim
theorem ZKK {fp:Nat→List Nat}:ZI (fun _=>False) [] fp=fun _=>False:=by
 funext b
 refine propext ⟨fun h=>?_,fun h=>h.elim⟩
 rcases h with h|⟨x,o,h,_⟩
 ·exact h
 ·cases h
theorem ZKN {f:FuncId} {con:Con} {ts:List Ty} {ids:List TypeId} (hE:Zn P f con) (hcon:∀l:List (Sigma Ty.den),l.map (·.1)=ts→(∀p∈l,AE.okD p.1 p.2)→ZbD (con (l.map avS) []) (fun av _=>av = .c (.bool true))) (hfits:ZCO P ts ids)
  {W:World} {r:Reach} {b0:Nat} {args:Array Value} {ds:List (DataW H)} {p:List MemPlace} (hval:∀(j:Nat) t v,ids[j]? = some t→args[j]? = some v→Value.okWide P W r b0 t v)
  (hA:DataW.TrodAll enc P W base spare held ids args.toList ds p):Calls P f args W fun e W'=>e = .returned (.bool true)∧Below W.heap.size W W':=by
 obtain⟨l,h1,h2,h3⟩:=ZFx (val:=fun _=>undef) hfits (fun j t v a b=>hval j t v a (by simpa using b)) hA
 have ho:Objs ⟨W,fun _=>False,ZrY [] (fun _=>[]),0⟩ (fun _=>undef) (fun _=>[]) [] W:=
  ⟨⟨rfl,rfl,rfl,Nat.le_refl _,Nat.le_refl _,fun _ _ _=>rfl⟩,fun _ _ h=>(by cases h),fun _ _ h=>(by cases h),fun _ _ _ _ _ h=>(by cases h),fun _ h=>h.elim⟩
 refine(hE.ok (l.map avS) [] (fun av st=>av = .c (.bool true)) (hcon l h1 h3) (fun _=>False) 0 (fun _=>undef) (fun _=>[]) W args ho (by rw[ZKK];exact h2)).mono ?_
 rintro e W' ⟨v,av,st',val',fp',rfl,rfl,hO,_,hv⟩
 have hv':v = .bool true:=hv
 refine⟨by rw[hv'],⟨hO.fr.os,hO.fr.tape,hO.fr.output,hO.fr.size,fun k hk=>hO.fr.block k hk ?_⟩⟩
 rintro⟨x,o,h,_⟩
 cases h
theorem Zxc (hl:laidOutB P=true) {W W':World} {sp:Nat→Bool} (hb:Below W.heap.size W W'):∀{ids:List TypeId} {vs:List Value} {ds:List (DataW H)} {ps:List MemPlace},
  ids.all (fun t=>P.readableRec t&&decide (t<P.types.size))=true→DataW.TrodAll enc P W 0 (fun _=>true) true ids vs ds ps→(∀p∈ps,p.block<W.heap.size)→(∀p∈ps,sp p.block=true) →
  DataW.TrodAll enc P W' 0 sp true ids vs ds ps
 |[],[],[],_,_,h,_,_=>h
 |t::ts,v::vs,d::ds,_,hr,⟨p,q,h1,h2,e⟩,hlt,hsp=>by
  subst e
  simp only[List.all_cons,Xae,Xaf]at hr
  exact⟨p,q,WideElems.Trod_stays hl hr.1.1 hr.1.2 h1 (fun x hx=>hb.same (hlt x (by simp[hx]))) (fun x hx=>hsp x (by simp[hx])),
   Zxc hl hb hr.2 h2 (fun x hx=>hlt x (by simp[hx])) (fun x hx=>hsp x (by simp[hx])),rfl⟩
 |_::_,[],_,_,_,h,_,_=>by simp[DataW.TrodAll]at h
 |_::_,_::_,[],_,_,h,_,_=>by simp[DataW.TrodAll]at h
 |[],_::_,_,_,_,h,_,_=>by simp[DataW.TrodAll]at h
 |[],[],_::_,_,_,h,_,_=>by simp[DataW.TrodAll]at h
theorem ZMv {fn:Func} {s:ChangeSpec} {W W':World} {args:Array Value} {ds gs:List (DataW H)} {before:List MemPlace} {tb:TypeId} (hl:laidOutB P=true) (hread:fn.params.toList.all (fun t=>P.readableRec t&&decide (t<P.types.size))=true)
  (hvars:s.vars=[]) (hrt:fn.resultTypes = #[tb]) (htb:P.underlying tb=some .bool) (hfn:∀ds:List (DataW H),ds.length=fn.params.size→s.fn H ds={ results:=[.lit (.bool true)],args:=ds })
  (hW:DataW.Whole enc P fn.params.toList s.vars false W args.toList ds gs before) (hb:Below W.heap.size W W'):s.post enc P fn false true false false W args (.bool true) W':=by
 have hW':=hW
 obtain⟨p,q,hA,hV,e,_,_⟩:=hW
 rw[hvars]at hV
 obtain⟨rfl,rfl⟩:=trodVars_none hV
 have hlen:∀{ids:List TypeId} {vs:List Value} {ds:List (DataW H)} {ps:List MemPlace},DataW.TrodAll enc P W 0 (fun _=>true) true ids vs ds ps→ds.length=ids.length:=by
  intro ids
  induction ids with
  |nil=>intro vs ds ps h;cases vs<;>cases ds<;>simp_all [DataW.TrodAll]
  |cons t ts ih=>
   intro vs ds ps h
   cases vs with
   |nil=>simp[DataW.TrodAll]at h
   |cons v vs=>cases ds with
    |nil=>simp[DataW.TrodAll]at h
    |cons d ds=>
     obtain⟨_,_,_,h2,_⟩:=h
     simp[ih h2]
 have hfn':=hfn (ds++[]) (by rw[Xaz,hlen hA];simp)
 have hlt:=fun x hx=>hW'.lt x hx
 rw[Xaz]at e
 subst e
 refine⟨ds,[],before,[],before,[],hW',?_,?_,?_,hb.frame _,fun h=>by cases h⟩
 ·rw[hfn',hrt]
  exact trodAll_mk1 (shut_bool htb true)
 ·rw[hfn',Xaz]
  exact Zxc hl hb hread hA hlt (fun x hx=>by simpa using hlt x hx)
 ·rw[hfn',hvars]
  rfl
end
end Go.AE
namespace Go.AE
open Go
theorem ZCg (w:List Char) (ws:List (List Char)):∀os:List String,(os.map String.toList).all (fun o=>!(w==o))=true→stripLifts os (w::ws)=([],w::ws)
 |[],_=>rfl
 |o::os,h=>by
  rw[XaQ,List.all_cons,Xae]at h
  unfold stripLifts
  rw[if_neg (by simpa using h.1)]
  exact ZCg w ws os h.2
theorem ZFZ {P:Program} {c:List Char} {rest:List (List Char)} (h:behindMainWord (wordsSigns P.initOrder.toList)=c::rest) (hs:stripLifts liftWords (c::rest)=([],c::rest)):P.headLifts=[]:=by
 unfold Program.headLifts
 rw[h,hs]
 dsimp only
 split<;>rfl
theorem ZNa {P : Program} {c : List Char} {rest : List (List Char)} (h : behindMainWord (wordsSigns P.initOrder.toList) = c :: rest) (h1 : (c == "gc".toList || c == "spec".toList) = false) (h2 : (c == "cut".toList) = true) : P.make = some .cut := by
 unfold Program.make
 rw[h]
 simp only[h1,h2,XbQ,if_true,Bool.false_eq_true,if_false]
theorem ZEW {P : Program} {c : List Char} {rest : List (List Char)} (h : behindMainWord (wordsSigns P.initOrder.toList) = c :: rest) (hs : P.headLifts = []) (h1 : (c == "carried".toList) = false) : P.liftsFinal = false := by
 unfold Program.liftsFinal
 rw[h,hs]
 have h2 : ((c :: rest).head? == some "carried".toList) = false := by rw [List.head?_cons, Option.some_beq_some]; exact h1
 simp only[h2,Xai,XbC,List.contains_nil]
theorem ZHM {P : Program} {c : List Char} {rest : List (List Char)} (h : behindMainWord (wordsSigns P.initOrder.toList) = c :: rest) (hs : stripLifts liftWords (c :: rest) = ([], c :: rest)) (h2 : (c == "cut".toList) = true)
  (h3:P.laysLater=false) (h4:P.bearsReflect=false) (h5:P.doorFits []=true):P.mayEnter=true:=by
 unfold Program.mayEnter
 rw[h]
 simp only[hs,h3,h4,h5]
 have h2 : c = "cut".toList := by simpa using h2
 rw[h2]
 simp
end Go.AE
