/-
  The abstract evaluator and its soundness, in one text. No conditions.
-/
import Derived.Test.YtaeeiddjpigemaaGreatAEx1
import Derived.Lib.AppendZeros
namespace Go.AE
open Go Go.RowKit
theorem Zdc:∀{t:Ty} {c q:Nat},q∈ZF t c→c≤q∧q<c+t.size
 | .sl _,c,q,h=>by
  simp only[ZF,Xah]at h
  subst h;simp[Ty.size]
 | .pair a b,c,q,h=>by
  simp only[ZF,List.mem_append]at h
  rcases h with h|h
  ·have:=Zdc h;simp only[Ty.size];omega
  ·have:=Zdc h;simp only[Ty.size];omega
 | .int _,_,_,h=>by simp[ZF]at h
 | .bool,_,_,h=>by simp[ZF]at h
 | .str,_,_,h=>by simp[ZF]at h
def Zqh:(t:Ty)→Nat→t.den→Nat→Option (Sigma fun t:Ty=>List t.den)
 | .sl t,c,l,q=>if q=c then some ⟨t,l⟩else none
 | .pair a b,c,d,q=>if q<c+a.size then Zqh a c d.1 q else Zqh b (c+a.size) d.2 q
 |_,_,_,_=>none
def ZJ8 (w:World) (val:Nat→Value) (v:Value) (t:Ty) (l:List t.den) (F:Nat→Prop):Prop:=
 ∃e xs Fs,w.ownsRow 0 e t.size v l.length xs∧ZFr v l.length F Fs∧∀j (_:j<l.length),Deep w val t (fun _=>none) 0 l[j] ((xs.drop (j*t.size)).take t.size) (Fs j)
section
variable {P:Program} {C:Cfg} {Γ:Ctx} {val val' val'':Nat→Value} {fp fp' fp'':Nat→List Nat} {ρ:Env} {st st' st'':St} {a:Act} {w w' w'':World} {o:Oper} {k:AV→St→Prop} {K:Act→World→Prop} {Q:Exit→Act→World→Prop}
theorem Deep.hs {hs hs':Nat→Option Nat}:∀{t:Ty} {c:Nat} {d:t.den} {cs:List Value} {F:Nat→Prop},(∀q∈ZF t c,hs' q=hs q)→Deep w val t hs c d cs F→Deep w val t hs' c d cs F
 | .int _,_,_,_,_,_,h=>h
 | .bool,_,_,_,_,_,h=>h
 | .str,_,_,_,_,_,h=>h
 | .sl t,c,l,cs,F,hq,h=>by
  unfold Deep at h ⊢
  rw[hq c (by simp[ZF])]
  exact h
 | .pair a b,c,d,cs,F,hq,h=>by
  obtain⟨c1,c2,F1,F2,h1,h2,h3,h4,h5⟩:=h
  exact⟨c1,c2,F1,F2,h1,h2,h3,h4.hs (fun q h=>hq q (by simp[ZF,h])),h5.hs (fun q h=>hq q (by simp[ZF,h]))⟩
theorem Zun {N:Nat→Prop} {hs:Nat→Option Nat}:∀{t:Ty} {c:Nat} {d:t.den} {cs:List Value},ZmP t=true→Imm w N t d cs→Deep w val t hs c d cs (fun _=>False)
 | .int _,_,_,_,_,h=>⟨h,fun _ hb=>hb⟩
 | .bool,_,_,_,_,h=>⟨h,fun _ hb=>hb⟩
 | .str,_,_,_,_,h=>⟨h,fun _ hb=>hb⟩
 | .sl _,_,_,_,hf,_=>by cases hf
 | .pair a b,c,d,cs,hf,h=>by
  obtain⟨c1,c2,h1,h2,h3⟩:=h
  unfold ZmP at hf
  split at hf
  ·rename_i ha
   exact⟨c1,c2,_,_,h1,fun b=>by simp,fun b hb=>hb.elim,Zun ha h2,Zun hf h3⟩
  ·cases hf
theorem Zni {hs:Nat→Option Nat}:∀{t:Ty} {c:Nat} {d:t.den} {cs:List Value} {F:Nat→Prop},ZmP t=true→Deep w val t hs c d cs F→∀b,¬F b
 | .int _,_,_,_,_,_,h=>h.2
 | .bool,_,_,_,_,_,h=>h.2
 | .str,_,_,_,_,_,h=>h.2
 | .sl _,_,_,_,_,hf,_=>by cases hf
 | .pair a b,c,d,cs,F,hf,h=>by
  obtain⟨c1,c2,F1,F2,h1,h2,h3,h4,h5⟩:=h
  unfold ZmP at hf
  split at hf
  ·rename_i ha
   exact fun x hx=>((h2 x).1 hx).elim (Zni ha h4 x) (Zni hf h5 x)
  ·cases hf
theorem Deep.one:∀{t:Ty} {hs:Nat→Option Nat} {c:Nat} {d:t.den} {cs:List Value} {F:Nat→Prop},Deep w val t hs c d cs F→∀v∈cs,v.oneCell'=true
 | .int _,_,_,_,_,_,h,v,hv=>by rw[h.1.1]at hv;simp at hv;subst hv;rfl
 | .bool,_,_,_,_,_,h,v,hv=>by rw[h.1]at hv;simp at hv;subst hv;rfl
 | .str,_,_,_,_,_,h,v,hv=>by rw[h.1]at hv;simp at hv;subst hv;rfl
 | .sl t,hs,c,l,cs,F,h,v,hv=>by
  unfold Deep at h
  split at h
  ·obtain⟨⟨a,n,cap,h1⟩,h2,_⟩:=h
   rw[h2,h1]at hv;simp at hv;subst hv;rfl
  ·obtain⟨u,e,xs,Fs,rfl,h2,_⟩:=h
   obtain⟨A,cap,h3⟩:=Zfn h2
   rw[h3]at hv;simp at hv;subst hv;rfl
 | .pair a b,hs,c,d,cs,F,h,v,hv=>by
  obtain⟨c1,c2,F1,F2,rfl,_,_,h4,h5⟩:=h
  rcases List.mem_append.1 hv with hv|hv
  ·exact h4.one v hv
  ·exact h5.one v hv
theorem ZA2:∀{t:Ty} {c:Nat} {d:t.den} {cs:List Value} {F:Nat→Prop},Deep w val t (fun _=>none) c d cs F→∃Fq:Nat→Nat→Prop,
  (∀q∈ZF t c,∀b,Fq q b→F b)∧(∀q∈ZF t c,∀q'∈ZF t c,q≠q'→∀b,Fq q b→¬Fq q' b) ∧
  (∀q∈ZF t c,∃t' l' v,Zqh t c d q=some ⟨t',l'⟩∧cs[q - c]? = some v∧ZJ8 w val v t' l' (Fq q)) ∧
  (∀(hs:Nat→Option Nat) (val':Nat→Value),(∀q∈ZF t c,∀y,hs q=some y→cs[q - c]? = some (val' y))→Deep w val' t hs c d cs (fun b=>F b∧∀q∈ZF t c,hs q≠none→¬Fq q b))
 | .int _,_,_,_,_,h=>⟨fun _ _=>False,fun q hq=>by simp[ZF]at hq,fun q hq=>by simp[ZF]at hq,fun q hq=>by simp[ZF]at hq,fun hs val' _=>⟨h.1,fun b hb=>h.2 b hb.1⟩⟩
 | .bool,_,_,_,_,h=>⟨fun _ _=>False,fun q hq=>by simp[ZF]at hq,fun q hq=>by simp[ZF]at hq,fun q hq=>by simp[ZF]at hq,fun hs val' _=>⟨h.1,fun b hb=>h.2 b hb.1⟩⟩
 | .str,_,_,_,_,h=>⟨fun _ _=>False,fun q hq=>by simp[ZF]at hq,fun q hq=>by simp[ZF]at hq,fun q hq=>by simp[ZF]at hq,fun hs val' _=>⟨h.1,fun b hb=>h.2 b hb.1⟩⟩
 | .sl t,c,l,cs,F,h=>by
  obtain⟨v,e,xs,Fs,rfl,h2,h3,h4⟩:=h
  refine⟨fun _=>F,fun q _ b hb=>hb,fun q hq q' hq' hne=>?_,fun q hq=>?_,fun hs val' hv=>?_⟩
  ·simp only[ZF,Xah]at hq hq'
   exact absurd (hq.trans hq'.symm) hne
  ·simp only[ZF,Xah]at hq
   subst hq
   exact⟨t,l,v,by simp[Zqh],by simp,e,xs,Fs,h2,h3,h4⟩
  ·unfold Deep
   cases hq:hs c with
   |some y=>
    have:=hv c (by simp[ZF]) y hq
    simp only[Nat.sub_self,List.getElem?_cons_zero,Option.some.injEq]at this
    subst this
    obtain⟨A,cap,h5⟩:=Zfn h2
    exact⟨⟨_,_,_,h5⟩,rfl,fun b hb=>hb.2 c (by simp[ZF]) (by rw[hq];simp) hb.1⟩
   |none=>
    refine⟨v,e,xs,Fs,rfl,h2,⟨fun b=>?_,h3.own,h3.apart⟩,fun j hj=>(h4 j hj).kept (fun _ _=>rfl) (fun _ _ _ hp=>by cases hp)⟩
    rw[←h3.all b]
    refine⟨fun hb=>hb.1,fun hb=>⟨hb,fun q hq' hn=>?_⟩⟩
    simp only[ZF,Xah]at hq'
    subst hq'
    exact absurd hq hn
 | .pair a b,c,d,cs,F,h=>by
  obtain⟨c1,c2,F1,F2,rfl,h2,h3,h4,h5⟩:=h
  obtain⟨Q1,p1,p2,p3,p4⟩:=ZA2 h4
  obtain⟨Q2,q1,q2,q3,q4⟩:=ZA2 h5
  have l1:=h4.length
  have memL:∀{q},q∈ZF a c→q<c+a.size:=fun hq=>(Zdc hq).2
  have memR:∀{q},q∈ZF b (c+a.size)→¬q<c+a.size:=fun hq=>by have:=(Zdc hq).1;omega
  obtain⟨Qq,eL,eR⟩:∃Qq:Nat→Nat→Prop,(∀{q},q∈ZF a c→Qq q=Q1 q)∧(∀{q},q∈ZF b (c+a.size)→Qq q=Q2 q):=
   ⟨fun q=>if q<c+a.size then Q1 q else Q2 q,fun hq=>if_pos (memL hq),fun hq=>if_neg (memR hq)⟩
  refine⟨Qq,fun q hq x hx=>?_,fun q hq q' hq' hne x hx hx'=>?_,fun q hq=>?_,fun hs val' hv=>?_⟩
  ·simp only[ZF,List.mem_append]at hq
   rcases hq with hq|hq
   ·rw[eL hq]at hx;exact(h2 x).2 (.inl (p1 q hq x hx))
   ·rw[eR hq]at hx;exact(h2 x).2 (.inr (q1 q hq x hx))
  ·simp only[ZF,List.mem_append]at hq hq'
   rcases hq with hq|hq<;>rcases hq' with hq'|hq'
   ·rw[eL hq]at hx;rw[eL hq']at hx';exact p2 q hq q' hq' hne x hx hx'
   ·rw[eL hq]at hx;rw[eR hq']at hx';exact h3 x (p1 q hq x hx) (q1 q' hq' x hx')
   ·rw[eR hq]at hx;rw[eL hq']at hx';exact h3 x (p1 q' hq' x hx') (q1 q hq x hx)
   ·rw[eR hq]at hx;rw[eR hq']at hx';exact q2 q hq q' hq' hne x hx hx'
  ·simp only[ZF,List.mem_append]at hq
   rcases hq with hq|hq
   ·obtain⟨t',l',v,r1,r2,r3⟩:=p3 q hq
    refine⟨t',l',v,by simp only[Zqh];rw[if_pos (memL hq)];exact r1,?_,by rw[eL hq];exact r3⟩
    rw[XaU (by have:=Zdc hq;omega)];exact r2
   ·obtain⟨t',l',v,r1,r2,r3⟩:=q3 q hq
    have hr:=Zdc hq
    refine⟨t',l',v,by simp only[Zqh];rw[if_neg (memR hq)];exact r1,?_,by rw[eR hq];exact r3⟩
    rw[XaT (by omega),l1,show q - c - a.size=q - (c+a.size) by omega];exact r2
  ·have k1:=p4 hs val' (fun q hq y hy=>by
    have:=hv q (by simp[ZF,hq]) y hy
    rw[XaU (by have:=Zdc hq;omega)]at this
    exact this)
   have k2:=q4 hs val' (fun q hq y hy=>by
    have:=hv q (by simp[ZF,hq]) y hy
    have hr:=Zdc hq
    rw[XaT (by omega),l1,show q - c - a.size=q - (c+a.size) by omega]at this
    exact this)
   refine⟨c1,c2,_,_,rfl,fun x=>?_,fun x hx hx'=>h3 x hx.1 hx'.1,k1,k2⟩
   constructor
   ·rintro⟨hx,hn⟩
    rcases(h2 x).1 hx with hx|hx
    ·exact .inl ⟨hx,fun q hq hh hq'=>hn q (by simp[ZF,hq]) hh (by rw[eL hq];exact hq')⟩
    ·exact .inr ⟨hx,fun q hq hh hq'=>hn q (by simp[ZF,hq]) hh (by rw[eR hq];exact hq')⟩
   ·rintro(⟨hx,hn⟩|⟨hx,hn⟩)
    ·refine⟨(h2 x).2 (.inl hx),fun q hq hh hq'=>?_⟩
     simp only[ZF,List.mem_append]at hq
     rcases hq with hq|hq
     ·rw[eL hq]at hq';exact hn q hq hh hq'
     ·rw[eR hq]at hq';exact h3 x hx (q1 q hq x hq')
    ·refine⟨(h2 x).2 (.inr hx),fun q hq hh hq'=>?_⟩
     simp only[ZF,List.mem_append]at hq
     rcases hq with hq|hq
     ·rw[eL hq]at hq';exact h3 x (p1 q hq x hq') hx
     ·rw[eR hq]at hq';exact hn q hq hh hq'
theorem ZrO {α:Type _}:∀(l m:List (Nat×α)) (x:Nat),lk (l++m) x=match lk l x with|some o=>some o|none=>lk m x
 |[],m,x=>by simp[lk]
 |(y,o)::r,m,x=>by
  rw[List.cons_append,Z2,Z2,ZrO r m x]
  split<;>rfl
theorem ZwS {hs:Nat→Option Nat}:∀{t:Ty} {c:Nat} {d:t.den} {y:Nat} {ob:Ob},lk (ZfZ hs t c d) y=some ob→∃q t' l',q∈ZF t c∧hs q=some y∧Zqh t c d q=some ⟨t',l'⟩∧ob = .sl 0 t' l' (.deep false .no)
 | .sl t,c,l,y,ob,h=>by
  unfold ZfZ at h
  split at h
  ·rename_i y' hy'
   rw[Z2]at h
   split at h
   ·rename_i e
    cases h
    exact⟨c,t,l,by simp[ZF],by rw[e];exact hy',by simp[Zqh],rfl⟩
   ·simp[lk]at h
  ·simp[lk]at h
 | .pair a b,c,d,y,ob,h=>by
  unfold ZfZ at h
  rw[ZrO]at h
  split at h
  ·rename_i o' ho'
   cases h
   obtain⟨q,t',l',h1,h2,h3,h4⟩:=ZwS ho'
   exact⟨q,t',l',by simp[ZF,h1],h2,by simp only[Zqh];rw[if_pos (Zdc h1).2];exact h3,h4⟩
  ·obtain⟨q,t',l',h1,h2,h3,h4⟩:=ZwS h
   exact⟨q,t',l',by simp[ZF,h1],h2,by simp only[Zqh];rw[if_neg (by have:=(Zdc h1).1;omega)];exact h3,h4⟩
 | .int _,_,_,_,_,h=>by simp[ZfZ,lk]at h
 | .bool,_,_,_,_,h=>by simp[ZfZ,lk]at h
 | .str,_,_,_,_,h=>by simp[ZfZ,lk]at h
theorem ZuA {hs:Nat→Option Nat}:∀{t:Ty} {c:Nat} {d:t.den} {q y:Nat},q∈ZF t c→hs q=some y→∃ob,lk (ZfZ hs t c d) y=some ob
 | .sl t,c,l,q,y,h1,h2=>by
  simp only[ZF,Xah]at h1
  subst h1
  exact⟨.sl 0 t l (.deep false .no),by unfold ZfZ;rw[h2];simp only[Z2,if_true]⟩
 | .pair a b,c,d,q,y,h1,h2=>by
  simp only[ZF,List.mem_append]at h1
  unfold ZfZ
  rw[ZrO]
  cases hq:lk (ZfZ hs a c d.1) y with
  |some o=>exact⟨o,rfl⟩
  |none=>
   rcases h1 with h1|h1
   ·obtain⟨ob,h3⟩:=ZuA (d:=d.1) h1 h2
    rw[h3]at hq;cases hq
   ·exact ZuA h1 h2
 | .int _,_,_,_,_,h,_=>by simp[ZF]at h
 | .bool,_,_,_,_,h,_=>by simp[ZF]at h
 | .str,_,_,_,_,h,_=>by simp[ZF]at h
theorem Zp6 {lo n base q y:Nat} (h:ZdQ lo n base q=some y):y=base+q∧lo≤q∧q<lo+n:=by
 unfold ZdQ at h
 split at h
 ·rename_i h1
  split at h
  ·rename_i h2
   cases h
   exact⟨rfl,Xbd h1,Zeq h2⟩
  ·cases h
 ·cases h
theorem ZuJ:∀{l:St},Zx3 st l=true→∀y ob,lk l y=some ob→lk st y=none
 |(z,oz)::r,h,y,ob,hy=>by
  unfold Zx3 at h
  split at h
  ·cases h
  ·rename_i hz
   rw[Z2]at hy
   split at hy
   ·rename_i e;rw[e];exact hz
   ·exact ZuJ h y ob hy
theorem ZK4 (h:Objs Γ val fp st w) {x:Nat} {e:TypeId} {t:Ty} {l:List t.den} {kn:Bool} (hx:lk st x=some (.sl e t l (.deep kn .no))) {i lo n base:Nat} (hi:i<l.length)
  (hnew:Zx3 st (ZfZ (ZdQ lo n base) t 0 l[i])=true) :
  ∃val' fp',Step Γ val val' fp fp' st (ZfZ (ZdQ lo n base) t 0 l[i]++Z0 st x (.sl e t l (.deep kn (.at i lo n base)))) w w:=by
 classical
 obtain⟨_,e',xs,Fs,r1,r2,r3,r4⟩:=h.rep x _ hx
 have hel:=r4 i hi
 simp only[Ze6]at hel
 obtain⟨Fq,p1,p2,p3,p4⟩:=ZA2 hel
 generalize hcs:(xs.drop (i*t.size)).take t.size=cs at hel p3 p4
 generalize htk:ZfZ (ZdQ lo n base) t 0 l[i]=tk at hnew ⊢
 have hsp:∀{y ob},lk tk y=some ob→∃q t' l' v,q∈ZF t 0∧y=base+q∧ZdQ lo n base q=some y∧Zqh t 0 l[i] q=some ⟨t',l'⟩∧ob = .sl 0 t' l' (.deep false .no)∧cs[q]? = some v∧ZJ8 w val v t' l' (Fq q):=by
  intro y ob hy
  rw[←htk]at hy
  obtain⟨q,t',l',k1,k2,k3,k4⟩:=ZwS hy
  obtain⟨t2,l2,v,m1,m2,m3⟩:=p3 q k1
  rw[k3]at m1
  cases m1
  exact⟨q,t',l',v,k1,(Zp6 k2).1,k2,k3,k4,by simpa using m2,m3⟩
 have hnw:∀{y ob},lk tk y=some ob→lk st y=none:=fun hy=>ZuJ hnew _ _ hy
 have hxt:lk tk x=none:=by
  cases hq:lk tk x with
  |none=>rfl
  |some ob=>rw[hnw hq]at hx;cases hx
 have hlk:∀y,lk (tk++Z0 st x (.sl e t l (.deep kn (.at i lo n base)))) y=match lk tk y with|some o=>some o|none=>if y=x then some (.sl e t l (.deep kn (.at i lo n base)))else lk st y:=fun y=>by
  rw[ZrO]
  cases lk tk y with
  |some o=>rfl
  |none=>dsimp only;rw[Zd4,hx];rfl
 let val':Nat→Value:=fun y=>match lk tk y with|some _=>(cs[y - base]?).getD undef|none=>val y
 let fp':Nat→List Nat:=fun y=>match lk tk y with
  |some _=>(fp x).filter (fun b=>decide (Fq (y - base) b))
  |none=>if y=x then(fp x).filter (fun b=>decide (∀q∈ZF t 0,ZdQ lo n base q≠none→¬((∃j,j=i∧Fq q b))))else fp y
 have hv1:∀{y},lk tk y=none→val' y=val y:=fun hy=>by simp only[val',hy]
 have hf1:∀{y},lk tk y=none→y≠x→fp' y=fp y:=fun hy hne=>by simp only[fp',hy,if_neg hne]
 have hv2:∀{y ob q v},lk tk y=some ob→y=base+q→cs[q]? = some v→val' y=v:=fun {y ob q v} hy e hv=>by
  simp only[val',hy]
  rw[show y - base=q by omega,hv];rfl
 have hf2:∀{y ob q},lk tk y=some ob→y=base+q→∀b,b∈fp' y↔b∈fp x∧Fq q b:=fun {y ob q} hy e b=>by
  simp only[fp',hy]
  rw[show y - base=q by omega]
  simp
 have hfx:∀b,b∈fp' x↔b∈fp x∧∀q∈ZF t 0,ZdQ lo n base q≠none→¬Fq q b:=fun b=>by
  simp only[fp',hxt,if_true]
  simp
 have hFx:∀q∈ZF t 0,∀b,Fq q b→b∈fp x:=fun q hq b hb=>(r3.all b).2 (.inr ⟨i,hi,p1 q hq b hb⟩)
 have which:∀{y ob},lk (tk++Z0 st x (.sl e t l (.deep kn (.at i lo n base)))) y=some ob→(lk st y=none∨y=x)→lk tk y=some ob∨(y=x∧ob = .sl e t l (.deep kn (.at i lo n base))):=by
  intro y ob hy hn
  rw[hlk]at hy
  cases hq:lk tk y with
  |some o=>rw[hq]at hy;exact .inl hy
  |none=>
   rw[hq]at hy
   dsimp only at hy
   rcases hn with hn|hn
   ·split at hy
    ·rename_i e0;rw[e0,hx]at hn;cases hn
    ·rw[hn]at hy;cases hy
   ·rw[if_pos hn]at hy
    exact .inr ⟨hn,(Option.some.inj hy).symm⟩
 refine⟨val',fp',h.step (fun y=>y=x) rfl rfl rfl (Nat.le_refl _) (Nat.le_refl _) (fun _ _ _=>rfl) (fun y ob hy hn=>?_) (fun y ob hy hn=>?_) (fun y ob hy hn b hb=>?_) (fun y z o1 o2 hne hy hz hn hn' b hb hb'=>?_) (fun hkept hstay y ob hy hn=>?_)⟩
 ·have hn:¬y=x:=hn
  have ht:lk tk y=none:=by
   cases hq:lk tk y with
   |none=>rfl
   |some o=>rw[hnw hq]at hy;cases hy
  rw[hlk,ht]
  dsimp only
  rw[if_neg hn]
  exact⟨hy,hv1 ht,hf1 ht hn⟩
 ·have hn:y=x:=hn
  subst hn
  rw[hx]at hy
  obtain rfl:=Option.some.inj hy
  exact⟨.sl e t l (.deep kn (.at i lo n base)),by rw[hlk,hxt];simp,And.intro rfl (And.intro rfl rfl),hv1 hxt⟩
 ·rcases which hy hn with hq|⟨rfl,_⟩
  ·obtain⟨q,_,_,_,_,e0,_⟩:=hsp hq
   have hb:=((hf2 hq e0 b).1 hb).1
   exact⟨(h.own x _ hx b hb).1,fun _=>⟨x,_,rfl,hx,hb⟩⟩
  ·have hb:=((hfx b).1 hb).1
   exact⟨(h.own _ _ hx b hb).1,fun _=>⟨_,_,rfl,hx,hb⟩⟩
 ·rcases which hy hn with hq|⟨rfl,_⟩<;>rcases which hz hn' with hq'|⟨rfl,_⟩
  ·obtain⟨q,_,_,_,k1,e0,_⟩:=hsp hq
   obtain⟨q',_,_,_,k1',e0',_⟩:=hsp hq'
   exact p2 q k1 q' k1' (fun e1=>hne (by rw[e0,e0',e1])) b ((hf2 hq e0 b).1 hb).2 ((hf2 hq' e0' b).1 hb').2
  ·obtain⟨q,_,_,_,k1,e0,k2,_⟩:=hsp hq
   exact((hfx b).1 hb').2 q k1 (by rw[k2];simp) ((hf2 hq e0 b).1 hb).2
  ·obtain⟨q,_,_,_,k1,e0,k2,_⟩:=hsp hq'
   exact((hfx b).1 hb).2 q k1 (by rw[k2];simp) ((hf2 hq' e0 b).1 hb').2
  ·exact absurd rfl hne
 ·rcases which hy hn with hq|⟨rfl,rfl⟩
  ·obtain⟨q,t',l',v,k1,e0,k2,k3,rfl,k4,e2,xs2,Fs2,m1,m2,m3⟩:=hsp hq
   rw[hv2 hq e0 k4]
   refine⟨trivial,e2,xs2,Fs2,(fun (h0:false=true)=>by cases h0),m1,⟨fun b=>?_,m2.own,m2.apart⟩,fun j hj=>(m3 j hj).kept (fun _ _=>rfl) (fun _ _ _ hp=>by cases hp)⟩
   rw[hf2 hq e0 b,←m2.all b]
   exact⟨fun hb=>hb.2,fun hb=>⟨hFx q k1 b hb,hb⟩⟩
  ·rw[hv1 hxt]
   refine⟨⟨hi,fun q hq y hy=>?_⟩,e',xs,fun j b=>Fs j b∧(j=i→∀q∈ZF t 0,ZdQ lo n base q≠none→¬Fq q b),r1,r2,⟨fun b=>?_,fun b j hj ho hb=>r3.own b j hj ho hb.1,fun j j' b hj hj' hne hb hb'=>r3.apart j j' b hj hj' hne hb.1 hb'.1⟩,fun j hj=>?_⟩
   ·obtain⟨ob,ho⟩:=ZuA (d:=l[i]) hq hy
    rw[htk]at ho
    exact⟨ob,by rw[hlk,ho]⟩
   ·rw[hfx b]
    constructor
    ·rintro⟨hb,hn⟩
     rcases(r3.all b).1 hb with hb|⟨j,hj,hb⟩
     ·exact .inl hb
     ·exact .inr ⟨j,hj,hb,fun _=>hn⟩
    ·rintro(hb|⟨j,hj,hb,hn⟩)
     ·exact⟨(r3.all b).2 (.inl hb),fun q hq _ hq'=>r3.own b i hi hb (p1 q hq b hq')⟩
     ·refine⟨(r3.all b).2 (.inr ⟨j,hj,hb⟩),fun q hq hh hq'=>?_⟩
      by_cases hji:j=i
      ·exact hn hji q hq hh hq'
      ·exact r3.apart j i b hj hi hji hb (p1 q hq b hq')
   ·by_cases hji:j=i
    ·subst hji
     have:=p4 (ZdQ lo n base) val' (fun q hq y hy=>by
      obtain⟨ob,ho⟩:=ZuA (d:=l[j]) hq hy
      rw[htk]at ho
      obtain⟨t2,l2,v,_,m2,_⟩:=p3 q hq
      have m2':cs[q]? = some v:=by simpa using m2
      rw[Nat.sub_zero,m2',hv2 ho (Zp6 hy).1 m2'])
     rw[hcs]
     simp only[Ze6,if_true]
     exact this.congr (fun b=>⟨fun hb=>⟨hb.1,fun q hq hh=>hb.2 trivial q hq hh⟩,fun hb=>⟨hb.1,fun _ q hq hh=>hb.2 q hq hh⟩⟩)
    ·simp only[Ze6,if_neg hji]
     exact((r4 j hj).kept (fun _ _=>rfl) (fun _ _ _ hp=>by cases hp)).congr (fun b=>⟨fun hb=>hb.1,fun hb=>⟨hb,fun e0=>absurd e0 hji⟩⟩)
theorem ZsV:∀(ns:List Nat) (st:St) (z:Nat),lk (ZeR st ns) z=if z∈ns then(lk st z).map (fun _=>.dead)else lk st z
 |[],st,z=>by simp[ZeR]
 |y::r,st,z=>by
  unfold ZeR
  rw[ZsV r,Zd4]
  by_cases h1:z∈r
  ·rw[if_pos h1,if_pos (Xao _ h1)]
   split
   ·rename_i e;subst e;cases lk st z<;>rfl
   ·rfl
  ·rw[if_neg h1]
   by_cases h2:z=y
   ·subst h2;rw[if_pos rfl,if_pos Xas]
   ·rw[if_neg h2,if_neg (fun h=>(XaA.1 h).elim h2 h1)]
theorem Zki:∀{l:List Nat},Zpx l=true→l.Nodup
 |[],_=>List.nodup_nil
 |x::r,h=>by
  unfold Zpx at h
  split at h
  ·cases h
  ·rename_i hx
   refine Xba.2 ⟨fun hm=>?_,Zki h⟩
   rw[XaN]at hx
   exact hx x hm (Nat.beq_refl x)
theorem ZhV {lo n base y:Nat}:∀{l:List Nat},y∈ZhW lo n base l↔∃q∈l,ZdQ lo n base q=some y
 |[]=>by simp[ZhW]
 |q::r=>by
  unfold ZhW
  split
  ·rename_i z hz
   rw[XaA,ZhV (l:=r)]
   constructor
   ·rintro(rfl|⟨q',h1,h2⟩)
    ·exact⟨q,by simp,hz⟩
    ·exact⟨q',by simp[h1],h2⟩
   ·rintro⟨q',h1,h2⟩
    rcases XaA.1 h1 with rfl|h1
    ·rw[hz]at h2;exact .inl (Option.some.inj h2).symm
    ·exact .inr ⟨q',h1,h2⟩
  ·rename_i hz
   rw[ZhV (l:=r)]
   constructor
   ·rintro⟨q',h1,h2⟩;exact⟨q',by simp[h1],h2⟩
   ·rintro⟨q',h1,h2⟩
    rcases XaA.1 h1 with rfl|h1
    ·rw[hz]at h2;cases h2
    ·exact⟨q',h1,h2⟩
theorem Zx6 (h:Objs Γ val fp st w) {hs:Nat→Option Nat}:∀{t:Ty} {c:Nat} {d d':t.den} {cs:List Value} {F:Nat→Prop},Deep w val t hs c d cs F→ZeP st hs t c d=some d' →
  (∀b,F b→∀q∈ZF t c,∀y,hs q=some y→b∉fp y)→(∀q∈ZF t c,∀q'∈ZF t c,∀y,hs q=some y→hs q'=some y→q=q') →
  ∃F',Deep w val t (fun _=>none) c d' cs F'∧∀b,F' b↔F b∨∃q∈ZF t c,∃y,hs q=some y∧b∈fp y
 | .int _,c,d,d',cs,F,hd,hc,_,_=>by
  simp only[ZeP,Option.some.injEq]at hc
  subst hc
  exact⟨F,hd,fun b=>by simp[ZF]⟩
 | .bool,c,d,d',cs,F,hd,hc,_,_=>by
  simp only[ZeP,Option.some.injEq]at hc
  subst hc
  exact⟨F,hd,fun b=>by simp[ZF]⟩
 | .str,c,d,d',cs,F,hd,hc,_,_=>by
  simp only[ZeP,Option.some.injEq]at hc
  subst hc
  exact⟨F,hd,fun b=>by simp[ZF]⟩
 | .sl t,c,l,d',cs,F,hd,hc,h1,h2=>by
  unfold Deep at hd
  unfold ZeP at hc
  split at hd
  ·rename_i y hy
   rw[hy]at hc
   dsimp only at hc
   obtain⟨_,rfl,hF⟩:=hd
   split at hc
   ·rename_i e t' l' kn hl
    obtain⟨e1,e2⟩:=Ze4 hc
    subst e1
    obtain rfl:d'=l':=e2
    obtain⟨_,e',xs,Fs,_,r2,r3,r4⟩:=h.rep y _ hl
    refine⟨fun b=>b∈fp y,⟨val y,e',xs,Fs,rfl,r2,r3,fun j hj=>r4 j hj⟩,fun b=>?_⟩
    simp only[ZF,Xah,exists_eq_left,hy,Option.some.injEq,exists_eq_left']
    exact⟨.inr,fun hb=>hb.resolve_left (hF b)⟩
   ·cases hc
  ·rename_i hy
   rw[hy]at hc
   cases hc
   refine⟨F,by unfold Deep;exact hd,fun b=>?_⟩
   simp[ZF,hy]
 | .pair a b,c,d,d',cs,F,hd,hc,h1,h2=>by
  obtain⟨c1,c2,F1,F2,q1,q2,q3,q4,q5⟩:=hd
  unfold ZeP at hc
  split at hc
  ·rename_i x hcx
   split at hc
   ·rename_i y hcy
    cases hc
    have sub1:∀{q},q∈ZF a c→q∈ZF (.pair a b) c:=fun hq=>by simp[ZF,hq]
    have sub2:∀{q},q∈ZF b (c+a.size)→q∈ZF (.pair a b) c:=fun hq=>by simp[ZF,hq]
    obtain⟨F1',k1,k2⟩:=Zx6 h q4 hcx (fun x hx q hq=>h1 x ((q2 x).2 (.inl hx)) q (sub1 hq)) (fun q hq q' hq'=>h2 q (sub1 hq) q' (sub1 hq'))
    obtain⟨F2',m1,m2⟩:=Zx6 h q5 hcy (fun x hx q hq=>h1 x ((q2 x).2 (.inr hx)) q (sub2 hq)) (fun q hq q' hq'=>h2 q (sub2 hq) q' (sub2 hq'))
    refine⟨fun x=>F1' x∨F2' x,⟨c1,c2,F1',F2',q1,fun _=>Iff.rfl,fun x hx hx'=>?_,k1,m1⟩,fun x=>?_⟩
    ·rcases(k2 x).1 hx with hx|⟨q,hq,y1,hy1,hx⟩<;>rcases(m2 x).1 hx' with hx'|⟨q',hq',y2,hy2,hx'⟩
     ·exact q3 x hx hx'
     ·exact h1 x ((q2 x).2 (.inl hx)) q' (sub2 hq') y2 hy2 hx'
     ·exact h1 x ((q2 x).2 (.inr hx')) q (sub1 hq) y1 hy1 hx
     ·by_cases hyy:y1=y2
      ·subst hyy
       have:=h2 q (sub1 hq) q' (sub2 hq') y1 hy1 hy2
       have r1:=Zdc hq
       have r2:=Zdc hq'
       omega
      ·have there:∀{t:Ty} {c:Nat} {d d':t.den} {q y:Nat},ZeP st hs t c d=some d'→q∈ZF t c→hs q=some y→∃o,lk st y=some o:=by
        intro t
        induction t with
        |int _=>intro c d d' q y _ hq;simp[ZF]at hq
        |bool=>intro c d d' q y _ hq;simp[ZF]at hq
        |str=>intro c d d' q y _ hq;simp[ZF]at hq
        |sl t _=>
         intro c d d' q y hc hq hy
         simp only[ZF,Xah]at hq
         subst hq
         unfold ZeP at hc
         rw[hy]at hc
         dsimp only at hc
         split at hc
         ·rename_i hl;exact⟨_,hl⟩
         ·cases hc
        |pair a b iha ihb=>
         intro c d d' q y hc hq hy
         unfold ZeP at hc
         split at hc
         ·rename_i hx
          split at hc
          ·rename_i hy'
           simp only[ZF,List.mem_append]at hq
           rcases hq with hq|hq
           ·exact iha hx hq hy
           ·exact ihb hy' hq hy
          ·cases hc
         ·cases hc
       obtain⟨o1,ho1⟩:=there hcx hq hy1
       obtain⟨o2,ho2⟩:=there hcy hq' hy2
       exact h.apart y1 y2 o1 o2 hyy ho1 ho2 x hx hx'
    ·dsimp only
     rw[k2,m2,q2]
     simp only[ZF,List.mem_append]
     constructor
     ·rintro((hx|⟨q,hq,r⟩)|(hx|⟨q,hq,r⟩))
      ·exact .inl (.inl hx)
      ·exact .inr ⟨q,.inl hq,r⟩
      ·exact .inl (.inr hx)
      ·exact .inr ⟨q,.inr hq,r⟩
     ·rintro((hx|hx)|⟨q,hq|hq,r⟩)
      ·exact .inl (.inl hx)
      ·exact .inr (.inl hx)
      ·exact .inl (.inr ⟨q,hq,r⟩)
      ·exact .inr (.inr ⟨q,hq,r⟩)
   ·cases hc
  ·cases hc
theorem Zyg (h:Objs Γ val fp st w) {x:Nat} {ob ob':Ob} (hx:lk st x=some ob) (hcompat:Compat ob ob') {ns:List Nat} (hxn:x∉ns) (hns:∀y∈ns,∃e t l kd,lk st y=some (.sl e t l kd)) {F:List Nat}
  (hos:w'.os=w.os) (htape:w'.tape=w.tape) (hout:w'.output=w.output) (hdr:w.drawn≤w'.drawn) (hsz:w'.heap.size=w.heap.size) (hkeep:∀b,b<w.heap.size→b∉fp x→w'.heap[b]? = w.heap[b]?)
  (hF:∀b∈F,b∈fp x∨∃y∈ns,b∈fp y)
  (hrep:Kept w w' (ZI Γ.X st fp) (ZI Γ.X (Z0 (ZeR st ns) x ob') (fun y=>if y=x then F else if y∈ns then[]else fp y))→Stays val val st (Z0 (ZeR st ns) x ob') →
   ObRep w' (ZI Γ.X (Z0 (ZeR st ns) x ob') (fun y=>if y=x then F else if y∈ns then[]else fp y)) val (Z0 (ZeR st ns) x ob') ob' (val x) F) :
  Step Γ val val fp (fun y=>if y=x then F else if y∈ns then[]else fp y) st (Z0 (ZeR st ns) x ob') w w':=by
 have hlk:∀y,lk (Z0 (ZeR st ns) x ob') y=if y=x then some ob' else if y∈ns then(lk st y).map (fun _=>.dead)else lk st y:=fun y=>by
  rw[Zd4,ZsV,ZsV,if_neg hxn,hx];rfl
 have which:∀{y:Nat} {ob2:Ob},lk (Z0 (ZeR st ns) x ob') y=some ob2→(lk st y=none∨(y=x∨y∈ns))→(y=x∧ob2=ob')∨(y≠x∧y∈ns∧ob2 = .dead):=by
  intro y ob2 hy hn
  rw[hlk]at hy
  by_cases h1:y=x
  ·rw[if_pos h1]at hy;exact .inl ⟨h1,(Option.some.inj hy).symm⟩
  ·rw[if_neg h1]at hy
   by_cases h2:y∈ns
   ·rw[if_pos h2]at hy
    cases hq:lk st y with
    |none=>rw[hq]at hy;cases hy
    |some o=>rw[hq]at hy;exact .inr ⟨h1,h2,(Option.some.inj hy).symm⟩
   ·rw[if_neg h2]at hy
    rcases hn with hn|hn|hn
    ·rw[hn]at hy;cases hy
    ·exact absurd hn h1
    ·exact absurd hn h2
 have hfin:∀{b:Nat},b∈F→∃z oz,(z=x∨z∈ns)∧lk st z=some oz∧b∈fp z:=fun {b} hb=>by
  rcases hF b hb with hb|⟨y,hy,hb⟩
  ·exact⟨x,_,.inl rfl,hx,hb⟩
  ·obtain⟨e,t,l,kd,ho⟩:=hns y hy
   exact⟨y,_,.inr hy,ho,hb⟩
 refine h.step (fun y=>y=x∨y∈ns) hos htape hout hdr (by omega) (fun b hb hn=>hkeep b hb (fun hbx=>hn x _ (.inl rfl) hx hbx)) (fun y ob2 hy hn=>?_) (fun y ob2 hy hn=>?_) (fun y ob2 hy hn b hb=>?_) (fun y z o1 o2 hne hy hz hn hn' b hb hb'=>?_) (fun hkept hstay y ob2 hy hn=>?_)
 ·obtain⟨h1,h2⟩:=not_or.1 hn
  rw[hlk,if_neg h1,if_neg h2]
  exact⟨hy,rfl,by simp[h1,h2]⟩
 ·rcases hn with rfl|hn
  ·rw[hx]at hy
   obtain rfl:=Option.some.inj hy
   exact⟨ob',by rw[hlk,if_pos rfl],hcompat,rfl⟩
  ·have hne:y≠x:=fun e=>hxn (e▸hn)
   obtain⟨e,t,l,kd,ho⟩:=hns y hn
   rw[ho]at hy
   obtain rfl:=Option.some.inj hy
   exact⟨.dead,by rw[hlk,if_neg hne,if_pos hn,ho];rfl,(show Compat (.sl _ _ _ _) .dead from trivial),rfl⟩
 ·rcases which hy hn with⟨rfl,_⟩|⟨h1,h2,_⟩
  ·simp only[if_true]at hb
   obtain⟨z,oz,hz,hlz,hbz⟩:=hfin hb
   exact⟨by rw[hsz];exact(h.own z oz hlz b hbz).1,fun _=>⟨z,oz,hz,hlz,hbz⟩⟩
  ·simp[h1,h2]at hb
 ·rcases which hy hn with⟨rfl,_⟩|⟨h1,h2,_⟩
  ·rcases which hz hn' with⟨rfl,_⟩|⟨h1,h2,_⟩
   ·exact hne rfl
   ·simp[h1,h2]at hb'
  ·simp[h1,h2]at hb
 ·rcases which hy hn with⟨rfl,rfl⟩|⟨h1,h2,rfl⟩
  ·simp only[if_true]
   exact hrep hkept hstay
  ·show _=_
   simp[h1,h2]
theorem ZsC (h:Objs Γ val fp st w) {x:Nat} (hc:ZsS st x=some st'):∃fp',Step Γ val val fp fp' st st' w w:=by
 unfold ZsS at hc
 split at hc
 ·rename_i e t l kn i lo n base hx
  split at hc
  ·rename_i hnd
   have hnd:=Zki hnd
   obtain⟨hxn,hnn⟩:=Xba.1 hnd
   split at hc
   ·rename_i d hd
    cases hc
    obtain⟨⟨hi,hin⟩,e',xs,Fs,r1,r2,r3,r4⟩:=h.rep x _ hx
    rw[Znl hi]at hd
    have hel:=r4 i hi
    simp only[Ze6,if_true]at hel
    have hfx:∀b,Fs i b→b∈fp x:=fun b hb=>(r3.all b).2 (.inr ⟨i,hi,hb⟩)
    have hne:∀q∈ZF t 0,∀y,ZdQ lo n base q=some y→y≠x∧y∈ZhW lo n base (ZF t 0)∧∃o,lk st y=some o:=fun q hq y hy=>by
     have hm:=ZhV.2 ⟨q,hq,hy⟩
     exact⟨fun e0=>hxn (e0▸hm),hm,hin q hq y hy⟩
    have there:∀y∈ZhW lo n base (ZF t 0),∃e t l kd,lk st y=some (.sl e t l kd):=by
     have key:∀{t:Ty} {c:Nat} {d d':t.den} {q y:Nat},ZeP st (ZdQ lo n base) t c d=some d'→q∈ZF t c→ZdQ lo n base q=some y→∃e t l kd,lk st y=some (.sl e t l kd):=by
      intro t
      induction t with
      |int _=>intro c d d' q y _ hq;simp[ZF]at hq
      |bool=>intro c d d' q y _ hq;simp[ZF]at hq
      |str=>intro c d d' q y _ hq;simp[ZF]at hq
      |sl t _=>
       intro c d d' q y hc hq hy
       simp only[ZF,Xah]at hq
       subst hq
       unfold ZeP at hc
       rw[hy]at hc
       dsimp only at hc
       split at hc
       ·rename_i hl;exact⟨_,_,_,_,hl⟩
       ·cases hc
      |pair a b iha ihb=>
       intro c d d' q y hc hq hy
       unfold ZeP at hc
       split at hc
       ·rename_i hx
        split at hc
        ·rename_i hy'
         simp only[ZF,List.mem_append]at hq
         rcases hq with hq|hq
         ·exact iha hx hq hy
         ·exact ihb hy' hq hy
        ·cases hc
       ·cases hc
     intro y hy
     obtain⟨q,hq,hy⟩:=ZhV.1 hy
     exact key hd hq hy
    obtain⟨F',k1,k2⟩:=Zx6 h hel hd (fun b hb q hq y hy hby=>by
     obtain⟨q1,_,o',q2⟩:=hne q hq y hy
     exact h.apart x y _ o' q1.symm hx q2 b (hfx b hb) hby) (fun q _ q' _ y h1 h2=>by
     have:=(Zp6 h1).1
     have:=(Zp6 h2).1
     omega)
    refine⟨_,Zyg h (F:=fp x++(ZhW lo n base (ZF t 0)).flatMap fp) (ob':=.sl e t (l.set i d) (.deep kn .no)) hx (show Compat (.sl _ _ _ _) (.sl _ _ _ _) from And.intro rfl (And.intro rfl (by simp))) hxn there rfl rfl rfl (Nat.le_refl _) rfl (fun _ _ _=>rfl) (fun b hb=>?_) (fun hkept hstay=>?_)⟩
    ·simp only[List.mem_append,XaL]at hb
     exact hb
    ·refine⟨trivial,e',xs,fun j b=>if j=i then F' b else Fs j b,r1,by rw[Xam];exact r2,⟨fun b=>?_,fun b j hj ho hb=>?_,fun j j' b hj hj' hjj hb hb'=>?_⟩,fun j hj=>?_⟩
     ·rw[Xam]
      simp only[List.mem_append,XaL]
      constructor
      ·rintro(hb|⟨y,hy,hb⟩)
       ·rcases(r3.all b).1 hb with hb|⟨j,hj,hb⟩
        ·exact .inl hb
        ·refine .inr ⟨j,hj,?_⟩
         by_cases hji:j=i
         ·subst hji;rw[if_pos rfl];exact(k2 b).2 (.inl hb)
         ·rw[if_neg hji];exact hb
       ·obtain⟨q,hq,hy⟩:=ZhV.1 hy
        exact .inr ⟨i,hi,by rw[if_pos rfl];exact(k2 b).2 (.inr ⟨q,hq,y,hy,hb⟩)⟩
      ·rintro(hb|⟨j,hj,hb⟩)
       ·exact .inl ((r3.all b).2 (.inl hb))
       ·by_cases hji:j=i
        ·rw[if_pos hji]at hb
         rcases(k2 b).1 hb with hb|⟨q,hq,y,hy,hb⟩
         ·exact .inl (hfx b hb)
         ·exact .inr ⟨y,ZhV.2 ⟨q,hq,hy⟩,hb⟩
        ·rw[if_neg hji]at hb
         exact .inl ((r3.all b).2 (.inr ⟨j,hj,hb⟩))
     ·rw[Xam]at hj
      by_cases hji:j=i
      ·rw[if_pos hji]at hb
       rcases(k2 b).1 hb with hb|⟨q,hq,y,hy,hb⟩
       ·exact r3.own b i hi ho hb
       ·obtain⟨q1,_,o',q2⟩:=hne q hq y hy
        exact h.apart x y _ o' q1.symm hx q2 b ((r3.all b).2 (.inl ho)) hb
      ·rw[if_neg hji]at hb
       exact r3.own b j hj ho hb
     ·rw[Xam]at hj hj'
      have far:∀{j:Nat},j<l.length→j≠i→Fs j b→F' b→False:=fun {j} hj hji hb hb'=>by
       rcases(k2 b).1 hb' with hb'|⟨q,hq,y,hy,hb'⟩
       ·exact r3.apart j i b hj hi hji hb hb'
       ·obtain⟨q1,_,o',q2⟩:=hne q hq y hy
        exact h.apart x y _ o' q1.symm hx q2 b ((r3.all b).2 (.inr ⟨j,hj,hb⟩)) hb'
      by_cases hji:j=i
      ·rw[if_pos hji]at hb
       rw[if_neg (fun e0=>hjj (hji.trans e0.symm))]at hb'
       exact far hj' (fun e0=>hjj (hji.trans e0.symm)) hb' hb
      ·rw[if_neg hji]at hb
       by_cases hji':j'=i
       ·rw[if_pos hji']at hb';exact far hj hji hb hb'
       ·rw[if_neg hji']at hb';exact r3.apart j j' b hj hj' hjj hb hb'
     ·rw[Xam]at hj
      by_cases hji:j=i
      ·subst hji
       simp only[Ze6,if_true,Xbw]
       exact k1
      ·simp only[Ze6,if_neg hji]
       rw[XbF (fun e0=>hji e0.symm)]
       have:=r4 j hj
       simp only[Ze6,if_neg hji]at this
       exact this
   ·cases hc
  ·cases hc
 ·cases hc
  exact⟨fp,Step.refl h⟩
theorem Zr8:∀{ns:List Nat} {st st':St} {fp:Nat→List Nat},Objs Γ val fp st w→Ztr st ns=some st'→∃fp',Step Γ val val fp fp' st st' w w
 |[],st,st',fp,h,hc=>by cases hc;exact⟨fp,Step.refl h⟩
 |x::r,st,st',fp,h,hc=>by
  unfold Ztr at hc
  split at hc
  ·rename_i st1 h1
   obtain⟨fp1,s1⟩:=ZsC h h1
   obtain⟨fp2,s2⟩:=Zr8 s1.objs hc
   exact⟨fp2,s1.trans s2⟩
  ·cases hc
theorem ZAK (h:Objs Γ val fp st w) {hs:Nat→Option Nat}:∀{t:Ty} {c:Nat} {cs:List CV} {d:t.den} {ns:List Nat} {vs:List Value},ZbX st t cs=some (d,ns)→All2 (CvRep w (ZI Γ.X st fp) val st) cs vs→ns.Nodup→(∀q∈ZF t c,hs q=none) →
  ∃F,Deep w val t hs c d vs F∧(∀b,F b→∃y∈ns,b∈fp y)∧∀y∈ns,∃e t l kd,lk st y=some (.sl e t l kd):=by
 intro t
 induction t with
 |int k=>
  intro c cs d ns vs h1 hr _ _
  unfold ZbX at h1
  split at h1
  ·rename_i n hn
   cases h1
   unfold ofInt at hn
   split at hn
   ·rename_i k' n
    split at hn
    ·rename_i hk
     have:=Zzv hk
     subst this
     cases hn
     match vs,hr with
     |[v],hr=>
      obtain⟨h2,h3⟩:=hr.1
      subst h2
      exact⟨fun _=>False,⟨⟨rfl,h3⟩,fun _ hb=>hb⟩,fun _ hb=>hb.elim,fun y hy=>by cases hy⟩
    ·cases hn
   ·cases hn
  ·cases h1
 |bool=>
  intro c cs d ns vs h1 hr _ _
  unfold ZbX at h1
  split at h1
  ·rename_i n hn
   cases h1
   unfold ZyM at hn
   split at hn<;>first|(cases hn;done)|skip
   all_goals
    cases hn
    match vs,hr with
    |[v],hr=>
     have:=hr.1
     rw[show v=_ from this]
     exact⟨fun _=>False,⟨rfl,fun _ hb=>hb⟩,fun _ hb=>hb.elim,fun y hy=>by cases hy⟩
  ·cases h1
 |str=>
  intro c cs d ns vs h1 hr _ _
  unfold ZbX at h1
  split at h1
  ·rename_i n hn
   cases h1
   unfold ZBV at hn
   split at hn<;>first|(cases hn;done)|skip
   cases hn
   match vs,hr with
   |[v],hr=>
    have:=hr.1
    rw[show v=_ from this]
    exact⟨fun _=>False,⟨rfl,fun _ hb=>hb⟩,fun _ hb=>hb.elim,fun y hy=>by cases hy⟩
  ·cases h1
 |sl t _=>
  intro c cs d ns vs h1 hr _ hq
  have hq0:=hq c (by simp[ZF])
  unfold ZbX at h1
  unfold ZBQ at h1
  split at h1
  ·cases h1
   match vs,hr with
   |[v],hr=>
    have:=hr.1
    rw[show v=_ from this]
    refine⟨fun _=>False,?_,fun _ hb=>hb.elim,fun y hy=>by cases hy⟩
    unfold Deep
    rw[hq0]
    exact⟨_,0,[],fun _ _=>False,rfl,World.ownsRow_nil _ _ _ _,⟨fun b=>by simp[Value.ownBlock],fun b j hj=>absurd hj (by simp),fun j k b hj=>absurd hj (by simp)⟩,fun j hj=>absurd hj (by simp)⟩
  ·rename_i x _
   match vs,hr with
   |[v],hr=>
    have hr:=hr.1
    split at h1
    ·rename_i e t' l kn hl
     split at h1
     ·rename_i l0 hl0
      cases h1
      obtain⟨e1,e2⟩:=Ze4 hl0
      subst e1
      obtain rfl:d=l:=e2
      obtain⟨hv,hrep⟩:=Zbk (v:=v) h hr hl
      obtain⟨_,e',xs,Fs,_,r2,r3,r4⟩:=hrep
      refine⟨fun b=>b∈fp x,?_,fun b hb=>⟨x,by simp,hb⟩,fun y hy=>?_⟩
      ·unfold Deep
       rw[hq0]
       rw[hv]
       exact⟨_,e',xs,Fs,rfl,r2,r3,fun j hj=>r4 j hj⟩
      ·rw[Xah.1 hy];exact⟨_,_,_,_,hl⟩
     ·cases h1
    ·rename_i e t' l hl
     split at h1
     ·rename_i hf
      split at h1
      ·rename_i l0 hl0
       cases h1
       obtain⟨e1,e2⟩:=Ze4 hl0
       subst e1
       obtain rfl:d=l:=e2
       obtain⟨hv,hrep⟩:=Zbk (v:=v) h hr hl
       obtain⟨xs,r1,r2,r3⟩:=hrep
       refine⟨fun b=>b∈fp x,?_,fun b hb=>⟨x,by simp,hb⟩,fun y hy=>?_⟩
       ·unfold Deep
        rw[hq0]
        rw[hv]
        refine⟨_,e,xs,fun _ _=>False,rfl,r1,⟨fun b=>?_,fun _ _ _ _ hb=>hb,fun _ _ _ _ _ _ hb=>hb.elim⟩,fun j hj=>Zun hf (r3 j hj)⟩
        rw[r2]
        simp
       ·rw[Xah.1 hy];exact⟨_,_,_,_,hl⟩
      ·cases h1
     ·cases h1
    ·cases h1
  ·cases h1
 |pair a b iha ihb=>
  intro c cs d ns vs h1 hr hnd hq
  unfold ZbX at h1
  split at h1
  ·rename_i x ns1 hx
   split at h1
   ·rename_i y ns2 hy
    cases h1
    obtain⟨nd1,nd2,nd3⟩:=List.nodup_append.1 hnd
    obtain⟨F1,k1,k2,k3⟩:=iha (c:=c) hx (hr.take _) nd1 (fun q h=>hq q (by simp[ZF,h]))
    obtain⟨F2,m1,m2,m3⟩:=ihb (c:=c+a.size) hy (hr.drop _) nd2 (fun q h=>hq q (by simp[ZF,h]))
    refine⟨fun b=>F1 b∨F2 b,⟨vs.take a.size,vs.drop a.size,F1,F2,(List.take_append_drop _ _).symm,fun _=>Iff.rfl,fun b hb hb'=>?_,k1,m1⟩,fun b hb=>?_,fun z hz=>?_⟩
    ·obtain⟨y1,q1,q2⟩:=k2 b hb
     obtain⟨y2,q3,q4⟩:=m2 b hb'
     obtain⟨_,_,_,_,o1⟩:=k3 y1 q1
     obtain⟨_,_,_,_,o2⟩:=m3 y2 q3
     exact h.apart y1 y2 _ _ (fun e0=>nd3 y1 q1 y2 q3 e0) o1 o2 b q2 q4
    ·rcases hb with hb|hb
     ·obtain⟨y1,q1,q2⟩:=k2 b hb;exact⟨y1,by simp[q1],q2⟩
     ·obtain⟨y1,q1,q2⟩:=m2 b hb;exact⟨y1,by simp[q1],q2⟩
    ·rcases List.mem_append.1 hz with hz|hz
     ·exact k3 z hz
     ·exact m3 z hz
   ·cases h1
  ·cases h1
theorem ZHS (h:Objs Γ val fp st w) {hs hs':Nat→Option Nat}:∀{t:Ty} {c0:Nat} {d d':t.den} {c:Nat} {cs:List CV} {ns:List Nat} {vs es:List Value} {F:Nat→Prop},Deep w val t hs c0 d es F→ZeH st t d c cs=some (d',ns) →
  All2 (CvRep w (ZI Γ.X st fp) val st) cs vs→ns.Nodup→(∀q∈ZF t c0,c0+c≤q→q<c0+c+cs.length→hs' q=none)→(∀q∈ZF t c0,¬(c0+c≤q∧q<c0+c+cs.length)→hs' q=hs q)→(∀y∈ns,∀b∈fp y,¬F b) →
  (∃F',Deep w val t hs' c0 d' (es.take c++vs++es.drop (c+vs.length)) F'∧(∀b,F' b→F b∨∃y∈ns,b∈fp y)∧∀y∈ns,∃e t l kd,lk st y=some (.sl e t l kd))∧c+vs.length≤t.size:=by
 have base:∀{t:Ty} {c0:Nat} {d d':t.den} {c:Nat} {cs:List CV} {ns:List Nat} {vs es:List Value} {F:Nat→Prop},c=0→cs.length=t.size→Deep w val t hs c0 d es F→ZbX st t cs=some (d',ns) →
   All2 (CvRep w (ZI Γ.X st fp) val st) cs vs→ns.Nodup→(∀q∈ZF t c0,c0+c≤q→q<c0+c+cs.length→hs' q=none) →
   (∃F',Deep w val t hs' c0 d' (es.take c++vs++es.drop (c+vs.length)) F'∧(∀b,F' b→F b∨∃y∈ns,b∈fp y)∧∀y∈ns,∃e t l kd,lk st y=some (.sl e t l kd))∧c+vs.length≤t.size:=by
  intro t c0 d d' c cs ns vs es F hc hl hd hm hr hnd hq
  subst hc
  have hvl:=hr.length
  have hel:=hd.length
  obtain⟨F',k1,k2,k3⟩:=ZAK h (c:=c0) hm hr hnd (fun q hqq=>hq q hqq (by have:=(Zdc hqq).1;omega) (by have:=(Zdc hqq).2;omega))
  refine⟨⟨F',?_,fun b hb=>.inr (k2 b hb),k3⟩,by omega⟩
  rw[XaR,Xau,XaY (by omega),Xaz]
  exact k1
 intro t
 induction t with
 |int k=>
  intro c0 d d' c cs ns vs es F hd hm hr hnd hq hqo hfr
  unfold ZeH at hm
  split at hm
  ·rename_i hc;rw[Xae]at hc;exact base (ZR.1 hc.1) (ZR.1 hc.2) hd hm hr hnd hq
  ·cases hm
 |bool=>
  intro c0 d d' c cs ns vs es F hd hm hr hnd hq hqo hfr
  unfold ZeH at hm
  split at hm
  ·rename_i hc;rw[Xae]at hc;exact base (ZR.1 hc.1) (ZR.1 hc.2) hd hm hr hnd hq
  ·cases hm
 |str=>
  intro c0 d d' c cs ns vs es F hd hm hr hnd hq hqo hfr
  unfold ZeH at hm
  split at hm
  ·rename_i hc;rw[Xae]at hc;exact base (ZR.1 hc.1) (ZR.1 hc.2) hd hm hr hnd hq
  ·cases hm
 |sl t _=>
  intro c0 d d' c cs ns vs es F hd hm hr hnd hq hqo hfr
  unfold ZeH at hm
  split at hm
  ·rename_i hc;rw[Xae]at hc;exact base (ZR.1 hc.1) (ZR.1 hc.2) hd hm hr hnd hq
  ·cases hm
 |pair a b iha ihb=>
  intro c0 d d' c cs ns vs es F hd hm hr hnd hq hqo hfr
  have hvl:=hr.length
  unfold ZeH at hm
  split at hm
  ·rename_i hc;rw[Xae]at hc;exact base (ZR.1 hc.1) (ZR.1 hc.2) hd hm hr hnd hq
  ·obtain⟨c1,c2,F1,F2,q1,q2,q3,q4,q5⟩:=hd
   have l1:=q4.length
   split at hm
   ·rename_i hle
    have hle:=Xbd hle
    split at hm
    ·rename_i x ns' hx
     cases hm
     obtain⟨⟨F',k1,k2,k3⟩,k4⟩:=iha q4 hx hr hnd (fun q hqq=>hq q (by simp[ZF,hqq])) (fun q hqq=>hqo q (by simp[ZF,hqq])) (fun y hy x hx hF=>hfr y hy x hx ((q2 x).2 (.inl hF)))
     refine⟨⟨fun x=>F' x∨F2 x,⟨_,c2,F',F2,?_,fun _=>Iff.rfl,fun x hx hx'=>?_,k1,q5.hs (fun q hqq=>hqo q (by simp[ZF,hqq]) (fun hin=>by have:=(Zdc hqq).1;omega))⟩,fun x hx=>?_,k3⟩,by simp only[Ty.size];omega⟩
     ·rw[q1,XbD (by omega),List.drop_append_of_le_length (by omega)]
      simp only[XaK]
     ·rcases k2 x hx with hx|⟨y,hy,hx⟩
      ·exact q3 x hx hx'
      ·exact hfr y hy x hx ((q2 x).2 (.inr hx'))
     ·rcases hx with hx|hx
      ·exact(k2 x hx).imp (fun hx=>(q2 x).2 (.inl hx)) id
      ·exact .inl ((q2 x).2 (.inr hx))
    ·cases hm
   ·split at hm
    ·rename_i hge
     have hge:=Xbd hge
     split at hm
     ·rename_i y ns' hy
      cases hm
      obtain⟨⟨F',k1,k2,k3⟩,k4⟩:=ihb q5 hy hr hnd (fun q hqq h1 h2=>hq q (by simp[ZF,hqq]) (by omega) (by omega)) (fun q hqq hno=>hqo q (by simp[ZF,hqq]) (fun hin=>hno (by omega))) (fun y hy x hx hF=>hfr y hy x hx ((q2 x).2 (.inr hF)))
      refine⟨⟨fun x=>F1 x∨F' x,⟨c1,_,F1,F',?_,fun _=>Iff.rfl,fun x hx hx'=>?_,q4.hs (fun q hqq=>hqo q (by simp[ZF,hqq]) (fun hin=>by have:=(Zdc hqq).2;omega)),k1⟩,fun x hx=>?_,k3⟩,by simp only[Ty.size];omega⟩
      ·rw[q1,List.take_append,Xa5 (by omega),XbZ,XaY (by omega),Xau,l1,show c+vs.length - a.size=c - a.size+vs.length by omega]
       simp only[XaK]
      ·rcases k2 x hx' with hx'|⟨y,hy,hx'⟩
       ·exact q3 x hx hx'
       ·exact hfr y hy x hx' ((q2 x).2 (.inl hx))
      ·rcases hx with hx|hx
       ·exact .inl ((q2 x).2 (.inl hx))
       ·exact(k2 x hx).imp (fun hx=>(q2 x).2 (.inr hx)) id
     ·cases hm
    ·cases hm
theorem ZyJ {c n:Nat}:∀{l:List Nat},ZC9 c n l=true→∀q∈l,c≤q→¬q<c+n
 |q::r,h,q',hq,h1,h2=>by
  unfold ZC9 at h
  rcases XaA.1 hq with rfl|hq
  ·rw[show Nat.ble c q'=true from Nat.ble_eq_true_of_le h1,show Nat.blt q' (c+n)=true by simpa [Nat.blt_eq]using h2]at h
   cases h
  ·split at h
   ·split at h
    ·cases h
    ·exact ZyJ h q' hq h1 h2
   ·exact ZyJ h q' hq h1 h2
theorem Zu7 {A V B:List Value} {j:Nat} (h:j<A.length):(A++V++B)[j]? = A[j]? :=by rw[XaK,XaU h]
theorem Zv0 {A V B:List Value} {j p:Nat} (hA:A.length=p) (h:p≤j) (h2:j - p<V.length):(A++V++B)[j]? = V[j - p]? :=by rw[XaK,XaT (by omega),hA,XaU h2]
theorem Zu6 {A V B:List Value} {j p:Nat} (hA:A.length=p) (h:p≤j) (h2:¬j - p<V.length):(A++V++B)[j]? = B[j - p - V.length]? :=by rw[XaK,XaT (by omega),hA,XaT (by omega)]
theorem Zvt {e:TypeId} {size n cap g p:Nat} {xs vs:List Value} (h:w.ownsRow 0 e size (.slice (some ⟨g,0,none⟩) n cap) n xs) (hp:p+vs.length≤n*size) (h1:∀u∈vs,u.oneCell'=true) :
  ∃w',(storeCells ⟨g,p,none⟩ vs 0).run P w = .ok () w'∧w'.ownsRow 0 e size (.slice (some ⟨g,0,none⟩) n cap) n (xs.take p++vs++xs.drop (p+vs.length))∧w'.os=w.os∧w'.tape=w.tape∧w'.output=w.output∧w'.drawn=w.drawn∧w'.heap.size=w.heap.size ∧
   ∀b,b≠g→w'.heap[b]? = w.heap[b]? :=by
 obtain⟨hx,hh⟩:=h
 rcases hh with⟨h0,_⟩|⟨g',cap',cur,h0,hb,hg,hn,hm,hs,ht⟩
 ·simp at h0
 ·simp only[Value.slice.injEq,Option.some.injEq,Addr.mk.injEq,and_true,true_and]at h0
  obtain⟨rfl,rfl⟩:=h0
  have hle:n*size≤cap*size:=XaE _ hn
  have hrun:=run_storeCells_at (P:=P) g p e vs 0 cur w hg (by omega) h1
  rw[XbX]at hrun
  refine⟨_,hrun,⟨?_,.inr ⟨g,cap,_,rfl,hb,setRow_heap w g cur _ e _ hg,hn,hm,?_,?_⟩⟩,rfl,rfl,rfl,rfl,by simp,fun b hb'=>setRow_other w g b _ hb'⟩
  ·simp only[Xal,XaB,Xbt]
   omega
  ·have:cur.toList.length=cap*size:=by simpa using hs
   simp only[Xbj,Xal,XaB,Xbt]
   omega
  ·have hc:cur.toList.length=cap*size:=by simpa using hs
   rw[List.toList_toArray,←ht]
   apply Xbb
   intro j
   have hlen:(cur.toList.take p).length=p:=by simp;omega
   have hlen2:((cur.toList.take (n*size)).take p).length=p:=by simp;omega
   by_cases hj:j<n*size
   ·rw[XaD,if_pos hj]
    by_cases hjp:j<p
    ·rw[Zu7 (by omega),Zu7 (by omega),XaD,XaD,XaD,if_pos hjp,if_pos hjp,if_pos hj]
    ·by_cases hjv:j - p<vs.length
     ·rw[Zv0 hlen (by omega) hjv,Zv0 hlen2 (by omega) hjv]
     ·rw[Zu6 hlen (by omega) hjv,Zu6 hlen2 (by omega) hjv,Xa0,Xa0,XaD,if_pos (by omega)]
   ·rw[XaD,if_neg hj,Xaw]
    simp only[Xal,XaB,Xbt]
    omega
theorem Zuy {xs vs:List Value} {size i j p:Nat} (hij:j≠i) (h1:i*size≤p) (h2:p+vs.length≤i*size+size) (hp:p+vs.length≤xs.length) :
  ((xs.take p++vs++xs.drop (p+vs.length)).drop (j*size)).take size=(xs.drop (j*size)).take size:=by
 apply Xbb
 intro q
 by_cases hq:q<size
 ·rw[ZQ hq,ZQ hq]
  have hlen:(xs.take p).length=p:=by simp;omega
  rcases Nat.lt_or_gt_of_ne hij with hlt|hlt
  ·have:=XaE size (show j+1≤i by omega)
   rw[XaH]at this
   rw[Zu7 (by omega),XaD,if_pos (by omega)]
  ·have:=XaE size (show i+1≤j by omega)
   rw[XaH]at this
   rw[Zu6 hlen (by omega) (by omega),Xa0]
   congr 1
   omega
 ·rw[XaD,if_neg hq,XaD,if_neg hq]
theorem ZAT {xs vs:List Value} {size i c:Nat} (h2:c+vs.length≤size) (hp:i*size+size≤xs.length) :
  ((xs.take (i*size+c)++vs++xs.drop (i*size+c+vs.length)).drop (i*size)).take size=((xs.drop (i*size)).take size).take c++vs++((xs.drop (i*size)).take size).drop (c+vs.length):=by
 apply Xbb
 intro q
 have hl0:((xs.drop (i*size)).take size).length=size:=by simp;omega
 have hl1:(((xs.drop (i*size)).take size).take c).length=c:=by simp;omega
 have hlen:(xs.take (i*size+c)).length=i*size+c:=by simp;omega
 by_cases hq:q<size
 ·rw[ZQ hq]
  by_cases hqc:q<c
  ·rw[Zu7 (by omega),XaD,if_pos (by omega),Zu7 (by omega),XaD,if_pos hqc,ZQ hq]
  ·by_cases hqv:q - c<vs.length
   ·rw[Zv0 hlen (by omega) (by omega),Zv0 hl1 (by omega) hqv]
    congr 1;omega
   ·rw[Zu6 hlen (by omega) (by omega),Zu6 hl1 (by omega) hqv,Xa0,Xa0,ZQ (by omega)]
    congr 1;omega
 ·rw[XaD,if_neg hq,Xaw]
  simp only[Xal,hl1,Xbt,hl0]
  omega
theorem ZwO (h:Objs Γ val fp st w) {x g n cap i c:Nat} {e:TypeId} {t:Ty} {l:List t.den} {d:t.den} {kn:Bool} {hh hh':ZFp} {cs:List CV} {vs:List Value} {ns:List Nat} (hx:lk st x=some (.sl e t l (.deep kn hh))) (hg:val x = .slice (some ⟨g,0,none⟩) n cap) (hi:i<l.length)
  (hm:ZeH st t (l.getD i t.dflt) c cs=some (d,ns)) (hr:All2 (CvRep w (ZI Γ.X st fp) val st) cs vs) (h1:∀u∈vs,u.oneCell'=true) (hnd:(x::ns).Nodup)
  (hq:∀q∈ZF t 0,c≤q→q<c+cs.length→Ze6 hh' i q=none) (hqo:∀q∈ZF t 0,¬(c≤q∧q<c+cs.length)→Ze6 hh' i q=Ze6 hh i q) (hqj:∀j,j≠i→Ze6 hh' j=Ze6 hh j) (hin':∀st',(∀y o,lk st y=some o→∃o',lk st' y=some o')→HoleIn st t l.length hh→HoleIn st' t l.length hh') :
  ∃w' fp',(storeCells ⟨g,i*t.size+c,none⟩ vs 0).run P w = .ok () w'∧Step Γ val val fp fp' st (Z0 (ZeR st ns) x (.sl e t (l.set i d) (.deep kn hh'))) w w':=by
 classical
 obtain⟨hxn,hnn⟩:=Xba.1 hnd
 obtain⟨r0,e',xs,Fs,r1,r2,r3,r4⟩:=h.rep x _ hx
 rw[Znl hi]at hm
 have hnl:n=l.length:=by
  obtain⟨A,cap',h0⟩:=Zfn r2
  rw[hg]at h0
  simp at h0
  exact h0.2.1
 subst hnl
 have hapx:∀{y:Nat},y∈ns→(∃o,lk st y=some o)→∀b∈fp y,b∉fp x:=fun hy ⟨o,ho⟩ b hb hbx=>h.apart x _ _ o (fun e0=>hxn (e0▸hy)) hx ho b hbx hb
 have hfx:∀b,Fs i b→b∈fp x:=fun b hb=>(r3.all b).2 (.inr ⟨i,hi,hb⟩)
 have hthere:∀{t:Ty} {d d':t.den} {c:Nat} {cs:List CV} {ns:List Nat},ZeH st t d c cs=some (d',ns)→∀y∈ns,∃o,lk st y=some o:=by
  have mv:∀{t:Ty} {cs:List CV} {d:t.den} {ns:List Nat},ZbX st t cs=some (d,ns)→∀y∈ns,∃o,lk st y=some o:=by
   intro t
   induction t with
   |int k=>intro cs d ns h1 y hy;unfold ZbX at h1;split at h1<;>cases h1;cases hy
   |bool=>intro cs d ns h1 y hy;unfold ZbX at h1;split at h1<;>cases h1;cases hy
   |str=>intro cs d ns h1 y hy;unfold ZbX at h1;split at h1<;>cases h1;cases hy
   |sl t _=>
    intro cs d ns h1 y hy
    unfold ZbX ZBQ at h1
    split at h1
    ·cases h1;cases hy
    ·rename_i x
     split at h1
     ·rename_i hl
      split at h1
      ·cases h1;rw[Xah.1 hy];exact⟨_,hl⟩
      ·cases h1
     ·rename_i hl
      split at h1
      ·split at h1
       ·cases h1;rw[Xah.1 hy];exact⟨_,hl⟩
       ·cases h1
      ·cases h1
     ·cases h1
    ·cases h1
   |pair a b iha ihb=>
    intro cs d ns h1 y hy
    unfold ZbX at h1
    split at h1
    ·rename_i hx
     split at h1
     ·rename_i hy'
      cases h1
      rcases List.mem_append.1 hy with hy|hy
      ·exact iha hx y hy
      ·exact ihb hy' y hy
     ·cases h1
    ·cases h1
  intro t
  induction t with
  |int k=>intro d d' c cs ns h1;unfold ZeH at h1;split at h1;exact mv h1;cases h1
  |bool=>intro d d' c cs ns h1;unfold ZeH at h1;split at h1;exact mv h1;cases h1
  |str=>intro d d' c cs ns h1;unfold ZeH at h1;split at h1;exact mv h1;cases h1
  |sl t _=>intro d d' c cs ns h1;unfold ZeH at h1;split at h1;exact mv h1;cases h1
  |pair a b iha ihb=>
   intro d d' c cs ns h1
   unfold ZeH at h1
   split at h1
   ·exact mv h1
   ·split at h1
    ·split at h1
     ·rename_i hx;cases h1;exact iha hx
     ·cases h1
    ·split at h1
     ·split at h1
      ·rename_i hx;cases h1;exact ihb hx
      ·cases h1
     ·cases h1
 have hth:=hthere hm
 obtain⟨⟨F',k1,k2,k3⟩,k4⟩:=ZHS h (r4 i hi) hm hr hnn (hs':=Ze6 hh' i) (fun q hq1 hq2 hq3=>hq q hq1 (by omega) (by omega)) (fun q hq1 hq2=>hqo q hq1 (fun hin=>hq2 (by omega))) (fun y hy b hb hF=>hapx hy (hth y hy) b hb (hfx b hF))
 rw[hg]at r2
 have hxl:xs.length=l.length*t.size:=r2.1
 have hin:i*t.size+t.size≤l.length*t.size:=by
  have:=XaE t.size (show i+1≤l.length by omega)
  rw[XaH]at this
  omega
 obtain⟨w',p1,p2,p3,p4,p5,p5',p6,p7⟩:=Zvt (P:=P) r2 (p:=i*t.size+c) (vs:=vs) (by omega) h1
 have hgo:∀b,(val x).ownBlock=some b↔b=g:=fun b=>by rw[hg];simp[Value.ownBlock,eq_comm]
 have hkeepF:∀b,b≠g→w'.heap[b]? = w.heap[b]? :=p7
 have hgx:g∈fp x:=(r3.all g).2 (.inl ((hgo g).2 rfl))
 have hF'g:∀b,F' b→b≠g:=fun b hb e0=>by
  rcases k2 b hb with hb|⟨y,hy,hb⟩
  ·exact r3.own b i hi ((hgo b).2 e0) hb
  ·rw[e0]at hb;exact hapx hy (hth y hy) g hb hgx
 have hFsg:∀j b,j<l.length→Fs j b→b≠g:=fun j b hj hb e0=>r3.own b j hj ((hgo b).2 e0) hb
 let Fs':Nat→Nat→Prop:=fun j b=>if j=i then F' b else Fs j b
 have hFs'1:∀b,Fs' i b↔F' b:=fun b=>by simp[Fs']
 have hFs'2:∀j b,j≠i→(Fs' j b↔Fs j b):=fun j b hj=>by simp[Fs',hj]
 refine⟨w',_,p1,Zyg h (F:=((fp x++ns.flatMap fp).filter fun b=>decide ((val x).ownBlock=some b∨∃j,j<l.length∧Fs' j b))) (ob':=.sl e t (l.set i d) (.deep kn hh')) hx (show Compat (.sl _ _ _ _) (.sl _ _ _ _) from And.intro rfl (And.intro rfl (by simp))) hxn k3 p3 p4 p5 (Nat.le_of_eq p5'.symm) p6 (fun b hb hnb=>p7 b (fun e0=>hnb (e0▸hgx))) (fun b hb=>?_) (fun hkept hstay=>?_)⟩
 ·simp only[XaM,List.mem_append,XaL]at hb
  exact hb.1
 ·refine⟨?_,e',_,Fs',r1,by rw[Xam,hg];exact p2,⟨fun b=>?_,fun b j hj ho hb=>?_,fun j j' b hj hj' hjj hb hb'=>?_⟩,fun j hj=>?_⟩
  ·rw[Xam]
   exact hin' _ (fun y o ho=>by
    obtain⟨o',ho',_⟩:=hstay y o ho
    exact⟨o',ho'⟩) r0
  ·rw[Xam]
   simp only[XaM,List.mem_append,XaL,Xaf]
   refine⟨fun hb=>hb.2,fun hb=>⟨?_,hb⟩⟩
   rcases hb with hb|⟨j,hj,hb⟩
   ·exact .inl ((r3.all b).2 (.inl hb))
   ·by_cases hji:j=i
    ·subst hji
     rcases k2 b ((hFs'1 b).1 hb)with hb|⟨y,hy,hb⟩
     ·exact .inl (hfx b hb)
     ·exact .inr ⟨y,hy,hb⟩
    ·exact .inl ((r3.all b).2 (.inr ⟨j,hj,(hFs'2 j b hji).1 hb⟩))
  ·rw[Xam]at hj
   by_cases hji:j=i
   ·subst hji;exact hF'g b ((hFs'1 b).1 hb) ((hgo b).1 ho)
   ·exact r3.own b j hj ho ((hFs'2 j b hji).1 hb)
  ·rw[Xam]at hj hj'
   have far:∀{j:Nat},j<l.length→j≠i→Fs j b→F' b→False:=fun {j} hj hji hb hb'=>by
    rcases k2 b hb' with hb'|⟨y,hy,hb'⟩
    ·exact r3.apart j i b hj hi hji hb hb'
    ·exact hapx hy (hth y hy) b hb' ((r3.all b).2 (.inr ⟨j,hj,hb⟩))
   by_cases hji:j=i
   ·subst hji
    have hj2:j'≠j:=fun e0=>hjj e0.symm
    exact far hj' hj2 ((hFs'2 j' b hj2).1 hb') ((hFs'1 b).1 hb)
   ·by_cases hji':j'=i
    ·subst hji';exact far hj hji ((hFs'2 j b hji).1 hb) ((hFs'1 b).1 hb')
    ·exact r3.apart j j' b hj hj' hjj ((hFs'2 j b hji).1 hb) ((hFs'2 j' b hji').1 hb')
  ·rw[Xam]at hj
   by_cases hji:j=i
   ·subst hji
    rw[ZAT k4 (by omega)]
    simp only[Xbw]
    exact((k1.kept (fun b hb=>hkeepF b (hF'g b hb)) (fun _ _ _ _=>rfl)).congr (hFs'1 ·))
   ·rw[Zuy hji (by omega) (by omega) (by omega),XbF (fun e0=>hji e0.symm)]
    rw[hqj j hji]
    exact(((r4 j hj).kept (fun b hb=>hkeepF b (hFsg j b hj hb)) (fun _ _ _ _=>rfl)).congr (fun b=>hFs'2 j b hji))
theorem ZK1 (h:Objs Γ val fp st w) {x g n cap:Nat} {kk:Int} {e:TypeId} {t:Ty} {l:List t.den} {d:t.den} {cs:List CV} {vs:List Value} {ns:List Nat} (hx:lk st x=some (.sl e t l (.mix kk))) (hg:val x = .slice (some ⟨g,0,none⟩) n cap) (hi:kk.toNat<l.length)
  (hm:ZbX st t cs=some (d,ns)) (hr:All2 (CvRep w (ZI Γ.X st fp) val st) cs vs) (hlv:vs.length=t.size) (h1:∀u∈vs,u.oneCell'=true) (hnd:(x::ns).Nodup) :
  ∃w' fp',(storeCells ⟨g,kk.toNat*t.size,none⟩ vs 0).run P w = .ok () w'∧Step Γ val val fp fp' st (Z0 (ZeR st ns) x (.sl e t (l.set kk.toNat d) (.mix (kk+1)))) w w':=by
 classical
 obtain⟨hxn,hnn⟩:=Xba.1 hnd
 obtain⟨⟨b1,b2⟩,xs,Fs,r2,r3,r4,r5⟩:=h.rep x _ hx
 have hnl:n=l.length:=by
  obtain⟨A,cap',h0⟩:=Zfn r2
  rw[hg]at h0
  simp at h0
  exact h0.2.1
 subst hnl
 obtain⟨F',k1,k2,k3⟩:=ZAK h (c:=0) (hs:=fun _=>none) hm hr hnn (fun _ _=>rfl)
 have hapx:∀{y:Nat},y∈ns→∀b∈fp y,b∉fp x:=fun {y} hy b hb hbx=>by
  obtain⟨_,_,_,_,ho⟩:=k3 y hy
  exact h.apart x y _ _ (fun e0=>hxn (e0▸hy)) hx ho b hbx hb
 rw[hg]at r2
 have hxl:xs.length=l.length*t.size:=r2.1
 have hin:kk.toNat*t.size+t.size≤l.length*t.size:=by
  have:=XaE t.size (show kk.toNat+1≤l.length by omega)
  rw[XaH]at this
  omega
 obtain⟨w',p1,p2,p3,p4,p5,p5',p6,p7⟩:=Zvt (P:=P) r2 (p:=kk.toNat*t.size) (vs:=vs) (by omega) h1
 have hgo:∀b,(val x).ownBlock=some b↔b=g:=fun b=>by rw[hg];simp[Value.ownBlock,eq_comm]
 have hgx:g∈fp x:=(r3.all g).2 (.inl ((hgo g).2 rfl))
 have hF'x:∀b,F' b→b∉fp x:=fun b hb=>by
  obtain⟨y,hy,hb⟩:=k2 b hb
  exact hapx hy b hb
 have hF'g:∀b,F' b→b≠g:=fun b hb e0=>hF'x b hb (e0▸hgx)
 have hFsx:∀j b,j<kk.toNat→Fs j b→b∈fp x:=fun j b hj hb=>(r3.all b).2 (.inr ⟨j,hj,hb⟩)
 have hFsg:∀j b,j<kk.toNat→Fs j b→b≠g:=fun j b hj hb e0=>r3.own b j hj ((hgo b).2 e0) hb
 let Fs':Nat→Nat→Prop:=fun j b=>if j=kk.toNat then F' b else Fs j b
 have hFs'1:∀b,Fs' kk.toNat b↔F' b:=fun b=>by simp[Fs']
 have hFs'2:∀j b,j≠kk.toNat→(Fs' j b↔Fs j b):=fun j b hj=>by simp[Fs',hj]
 have hkk:(kk+1).toNat=kk.toNat+1:=by omega
 refine⟨w',_,p1,Zyg h (F:=((fp x++ns.flatMap fp).filter fun b=>decide ((val x).ownBlock=some b∨∃j,j<kk.toNat+1∧Fs' j b))) (ob':=.sl e t (l.set kk.toNat d) (.mix (kk+1))) hx (show Compat (.sl _ _ _ _) (.sl _ _ _ _) from And.intro rfl (And.intro rfl (by simp))) hxn k3 p3 p4 p5 (Nat.le_of_eq p5'.symm) p6 (fun b hb hnb=>p7 b (fun e0=>hnb (e0▸hgx))) (fun b hb=>?_) (fun hkept hstay=>?_)⟩
 ·simp only[XaM,List.mem_append,XaL]at hb
  exact hb.1
 ·refine⟨⟨by omega,by rw[Xam];omega⟩,_,Fs',by rw[Xam,hg];exact p2,⟨fun b=>?_,fun b j hj ho hb=>?_,fun j j' b hj hj' hjj hb hb'=>?_⟩,fun j hj hjk=>?_,fun j hj hjk=>?_⟩
  ·rw[hkk]
   simp only[XaM,List.mem_append,XaL,Xaf]
   refine⟨fun hb=>hb.2,fun hb=>⟨?_,hb⟩⟩
   rcases hb with hb|⟨j,hj,hb⟩
   ·exact .inl ((r3.all b).2 (.inl hb))
   ·by_cases hji:j=kk.toNat
    ·subst hji
     obtain⟨y,hy,hb⟩:=k2 b ((hFs'1 b).1 hb)
     exact .inr ⟨y,hy,hb⟩
    ·exact .inl (hFsx j b (by omega) ((hFs'2 j b hji).1 hb))
  ·rw[hkk]at hj
   by_cases hji:j=kk.toNat
   ·subst hji;exact hF'g b ((hFs'1 b).1 hb) ((hgo b).1 ho)
   ·exact r3.own b j (by omega) ho ((hFs'2 j b hji).1 hb)
  ·rw[hkk]at hj hj'
   by_cases hji:j=kk.toNat
   ·subst hji
    have hj2:j'≠kk.toNat:=fun e0=>hjj e0.symm
    exact hF'x b ((hFs'1 b).1 hb) (hFsx j' b (by omega) ((hFs'2 j' b hj2).1 hb'))
   ·by_cases hji':j'=kk.toNat
    ·subst hji';exact hF'x b ((hFs'1 b).1 hb') (hFsx j b (by omega) ((hFs'2 j b hji).1 hb))
    ·exact r3.apart j j' b (by omega) (by omega) hjj ((hFs'2 j b hji).1 hb) ((hFs'2 j' b hji').1 hb')
  ·rw[hkk]at hjk
   rw[Xam]at hj
   by_cases hji:j=kk.toNat
   ·subst hji
    have hss:=ZAT (xs:=xs) (vs:=vs) (size:=t.size) (i:=kk.toNat) (c:=0) (by omega) (by omega)
    simp only[XbX,Nat.zero_add,XaR,Xau]at hss
    rw[hss,XaY (by simp;omega),Xaz]
    simp only[Xbw]
    exact((k1.kept (fun b hb=>p7 b (hF'g b hb)) (fun _ _ _ _=>rfl)).congr (hFs'1 ·))
   ·rw[Zuy hji (by omega) (by omega) (by omega),XbF (fun e0=>hji e0.symm)]
    exact(((r4 j hj (by omega)).kept (fun b hb=>p7 b (hFsg j b (by omega) hb)) (fun _ _ _ _=>rfl)).congr (fun b=>hFs'2 j b hji))
  ·rw[hkk]at hjk
   rw[Xam]at hj
   have hji:j≠kk.toNat:=by omega
   rw[Zuy hji (by omega) (by omega) (by omega),XbF (fun e0=>hji e0.symm)]
   exact(r5 j hj (by omega)).kept hkept
end
end Go.AE
namespace Go.AE
open Go Go.RowKit
section
variable {P:Program} {C:Cfg} {Γ:Ctx} {val:Nat→Value} {fp:Nat→List Nat} {ρ:Env} {st:St} {a:Act} {w:World} {o:Oper} {k:AV→St→Prop} {K:Act→World→Prop} {Q:Exit→Act→World→Prop}
theorem ZuB {N:Nat→Prop} {hs hs':Nat→Option Nat}:∀{t:Ty} {c:Nat} {d:t.den} {cs:List Value} {F:Nat→Prop},Deep w val t hs c d cs F→(∀q∈ZF t c,∀y,hs' q=some y→hs q=some y∧∃o,lk st y=some o)→All2 (CvRep w N val st) (Zrb hs' t c d) cs
 | .int k,_,n,cs,_,h,_=>by
  obtain⟨⟨rfl,h1⟩,_⟩:=h
  exact⟨⟨rfl,h1⟩,trivial⟩
 | .bool,_,b,cs,_,h,_=>by
  obtain⟨rfl,_⟩:=h
  exact⟨rfl,trivial⟩
 | .str,_,s,cs,_,h,_=>by
  obtain⟨rfl,_⟩:=h
  exact⟨rfl,trivial⟩
 | .sl t,c,l,cs,F,h,hh=>by
  unfold Zrb
  split
  ·rename_i y hy
   obtain⟨h1,o,h2⟩:=hh c (by simp[ZF]) y hy
   unfold Deep at h
   rw[h1]at h
   obtain⟨h3,rfl,_⟩:=h
   exact⟨And.intro h3 ⟨o,h2,⟨.inr rfl,fun h=>by cases h⟩⟩,trivial⟩
  ·match cs,h.length with
   |[v],_=>exact⟨trivial,trivial⟩
 | .pair a b,c,d,cs,F,h,hh=>by
  obtain⟨c1,c2,F1,F2,rfl,_,_,h4,h5⟩:=h
  exact(ZuB h4 (fun q hq=>hh q (by simp[ZF,hq]))).append (ZuB h5 (fun q hq=>hh q (by simp[ZF,hq])))
theorem ZyU {N:Nat→Prop} {l:List Int} {xs:List Value} (hx:xs.length=l.length) (h:∀j (hj:j<l.length),Imm w N (.int .i64) l[j] ((xs.drop (j*Ty.size (.int .i64))).take (Ty.size (.int .i64)))):∀n,n≤l.length→All2 (CvRep w N val st) (Zk3 n l) (xs.take n)
 |0,_=>trivial
 |n+1,hn=>by
  have ih:=ZyU hx h n (by omega)
  have e1:Zk3 (n+1) l=Zk3 n l++[.int .i64 (l.getD n 0)]:=by unfold Zk3;rw[XbA,Xa1];rfl
  rw[e1,Xbk]
  refine ih.append ?_
  have h1:=Znc (val:=val) (st:=st) (h n (by omega))
  rw[Xac (show n<xs.length by omega),Znl (show n<l.length by omega)]
  have e2:(xs.drop (n*Ty.size (.int .i64))).take (Ty.size (.int .i64))=[xs[n]'(by omega)]:=by
   show (xs.drop (n*1)).take 1=_
   rw[XbW,Xby (show n<xs.length by omega)]
   rfl
  rw[e2]at h1
  exact h1
theorem ZJ1 (hT:ZbB P C.y) (h:Sim Γ val fp ρ st a w) {ty:TypeId} {x:Operand} (ho:o.op = .load ty x) (he:ZbD (Zby C ρ st o) k) (hK:FolS Γ val fp st a w o k K):o.wp P a w K Q:=by
 have hx:=ZU h x
 unfold Zby at he
 simp only[ho]at he
 split at he
 ·rename_i hfn
  obtain⟨_,d,hu,hd⟩:=hT.fnT ty hfn
  unfold Zwe at he
  split at he
  ·rename_i x' c h1
   rw[h1]at hx
   obtain⟨cs0,g,q1,q2,q3⟩:=hx
   split at he
   ·rename_i cs hcs
    split at he
    ·rename_i f cap hf
     obtain⟨g',cur,e,r1,r2,r3,r4⟩:=h.rep x' _ hcs
     rw[q2]at r1
     obtain rfl:g=g':=by simpa using r1
     obtain⟨v,s1,s2⟩:=r4.get hf
     refine Zkq (s:=Instr.loadAt ty (a.eval x)) (by simp only[execOp,ho]) (v:=v) ?_ (hK.same h.toObjs he s2)
     have hag:(isAgg ty).run P w = .ok false w:=by
      unfold isAgg
      simp only[Sem.run_bind,run_underlying hu,Result.andThen_ok]
      cases d<;>simp at hd<;>rfl
     have hcell:w.cell? ⟨g,c,none⟩=some v:=by
      have:=cell_of_row w g c cur e (0,0) r3
      rw[this,←s1]
      simp
     rw[q3]
     simp[Instr.loadAt,Instr.sureAddr,loadVar,hag,hcell]
    ·exact he.elim
   ·exact he.elim
  ·exact he.elim
 unfold ZBt at he
 have hex:execOp a.eval o=(do pure (.value (←Instr.loadAt ty (a.eval x)))):=by simp only[execOp,ho]
 have go:∀{t:Ty} {ag:Bool} {b o':Nat} {cs:List CV} {vs:List Value} {av:AV},lk C.y.ty ty=some t→lk C.y.ag ty=some ag→a.eval x = .pointer (some ⟨b,o',none⟩)→ZpG t.size ag cs=some av →
   All2 (CvRep w (ZI Γ.X st fp) val st) cs vs→(∀i,i<t.size→w.cell? ⟨b,o'+i,none⟩=vs[i]?)→ZbD (ld av st) k→o.wp P a w K Q:=by
  intro t ag b o' cs vs av h1 h2 h3 h4 h5 h6 h7
  obtain⟨v,h8,h9⟩:=ZuV hT h1 h2 h4 h5 h6
  exact Zkq hex (by rw[h3];exact h8) (hK.same h.toObjs (ZNC h7 h9) h9)
 split at he
 ·rename_i t ag ht hag
  split at he
  ·rename_i t' d c h1
   rw[h1]at hx
   obtain⟨b,o',es,q1,q2,q3,q4,q5⟩:=hx
   split at he
   ·rename_i av hav
    have hrep:=Znc (val:=val) (st:=st) q5
    have hcl:(cut t.size c (Zlr t' d)).length=t.size:=(ZiV hav).1
    refine go ht hag q1 hav (hrep.cut t.size c) (fun i hi=>?_) he
    have hlen:=hrep.length
    have hle:c+i<t'.size:=by
     have h2:(cut t.size c (Zlr t' d)).length=min t.size ((Zlr t' d).length - c):=by simp[cut]
     have:=q5.length
     omega
    rw[ZQ hi,←q4 (c+i) hle,Xbp]
   ·exact he.elim
  ·rename_i x' c h1
   rw[h1]at hx
   obtain⟨cs0,g,q1,q2,q3⟩:=hx
   split at he
   ·rename_i cs hcs
    rw[q1]at hcs
    obtain rfl:=Ob.rc.inj (Option.some.inj hcs)
    obtain⟨g',cur,e,r1,r2,r3,r4⟩:=h.rep x' _ q1
    rw[q2]at r1
    obtain rfl:g=g':=by simpa using r1
    split at he
    ·rename_i av hav
     refine go ht hag q3 hav (r4.cut t.size c) (fun i hi=>?_) he
     rw[ZQ hi,cell_of_row w g (c+i) cur e (0,0) r3]
     simp
    ·exact he.elim
   ·exact he.elim
  ·rename_i x' i c h1
   rw[h1]at hx
   obtain⟨_,ob,q1,q2⟩:=hx
   split at he
   ·rename_i e t' l hl
    rw[q1]at hl
    obtain rfl:=Option.some.inj hl
    obtain⟨r1,r2,g,n,cap,r3,r4⟩:=q2 e t' l _ rfl
    have hn:i.toNat<l.length:=by omega
    obtain⟨xs,s1,s2,s3⟩:=h.rep x' _ q1
    rw[r3]at s1
    have hnl:n=l.length:=by
     rcases s1.2 with⟨h0,_⟩|⟨g',cap',cur,h0,_⟩
     ·simp at h0
     ·simp at h0;exact h0.2.1
    subst hnl
    split at he
    ·rename_i av hav
     have him:=s3 i.toNat hn
     rw[Znl hn]at hav
     have hrep:=Znc (val:=val) (st:=st) him
     have hcl:(cut t.size c (Zlr t' l[i.toNat])).length=t.size:=(ZiV hav).1
     have hlen:=hrep.length
     have him':=him.length
     refine go ht hag r4 hav (hrep.cut t.size c) (fun j hj=>?_) he
     have hle:c+j<t'.size:=by
      have h2:(cut t.size c (Zlr t' l[i.toNat])).length=min t.size ((Zlr t' l[i.toNat]).length - c):=by simp[cut]
      omega
     rw[ZQ hj,ZQ hle,Xbp]
     refine s1.cellAt _ ?_
     have:(i.toNat+1)*t'.size≤l.length*t'.size:=XaE _ (by omega)
     rw[XaH]at this
     omega
    ·unfold ZDW at he
     split at he
     ·rename_i l' hcast _
      unfold ZfT at hcast
      split at hcast
      ·rename_i e1 _
       subst e1
       cases hcast
       obtain⟨⟨h5,h6,h7⟩,h8⟩:=he
       subst h5
       subst h6
       have hxl:xs.length=l.length:=by have:=s1.1;simpa [Ty.size]using this
       obtain⟨v,h9,h10⟩:=ZuV (w:=w) (b:=g) (o:=0) (cs:=Zk3 t.size l) (vs:=xs.take t.size) (av:=.agg (Zk3 t.size l)) hT ht hag (by unfold ZpG;rw[show (Zk3 t.size l).length=t.size by simp[Zk3],ZR.2 rfl]) (ZyU hxl s3 t.size h7) (fun j hj=>by
        rw[List.getElem?_take_of_lt hj]
        have:=s1.cellAt (j:=0+j) (by simp only[Ty.size];omega)
        simpa using this)
       refine Zkq hex (v:=v) ?_ (hK.same h.toObjs h8 h10)
       rw[r4]
       simpa using h9
      ·cases hcast
     ·exact he.elim
   ·rename_i e t' l kn hh hl
    rw[q1]at hl
    obtain rfl:=Option.some.inj hl
    split at he
    ·obtain⟨r1,r2,g,n,cap,r3,r4⟩:=q2 e t' l _ rfl
     have hn:i.toNat<l.length:=by omega
     obtain⟨_,e',xs,Fs,_,s1,_,s3⟩:=h.rep x' _ q1
     split at he
     ·rename_i av hav
      rw[Znl hn]at hav
      have hel:=s3 i.toNat hn
      have hrep:=ZuB (hs':=fun _=>none) (st:=st) (N:=ZI Γ.X st fp) hel (fun q _ y hy=>by cases hy)
      refine go ht hag r4 hav (hrep.cut t.size c) (fun j hj=>?_) he
      have hlen:=hrep.length
      have hel':=hel.length
      have hcl:=(ZiV hav).1
      have hle:c+j<t'.size:=by
       have h2:(cut t.size c (Zrb (fun _=>none) t' 0 l[i.toNat])).length=min t.size ((Zrb (fun _=>none) t' 0 l[i.toNat]).length - c):=by simp[cut]
       omega
      rw[ZQ hj,ZQ hle,Xbp]
      have hnl:n=l.length:=by
       obtain⟨A,cap',h0⟩:=Zfn s1
       rw[r3]at h0;simp at h0;exact h0.2.1
      subst hnl
      rw[r3]at s1
      refine s1.cellAt _ ?_
      have:(i.toNat+1)*t'.size≤l.length*t'.size:=XaE _ (by omega)
      rw[XaH]at this
      omega
     ·exact he.elim
    ·split at he
     ·rename_i st1 d0 hcl hd0
      obtain⟨fp1,S1⟩:=ZsC h.toObjs hcl
      have hx1:=CvRep.kept S1.kept S1.stays (x:=.eptr x' i c) (And.intro ⟨_,(q2 e t' l _ rfl).2.2.choose_spec.choose_spec.choose_spec.2⟩ ⟨_,q1,q2⟩)
      split at he
      ·rename_i e1 t1 l1 kn1 hl1
       obtain⟨_,ob1,m1,m2⟩:=hx1
       rw[hl1]at m1
       obtain rfl:=Option.some.inj m1
       obtain⟨r1,r2,g,n,cap,r3,r4⟩:=m2 e1 t1 l1 _ rfl
       have hn:i.toNat<l1.length:=by omega
       split at he
       ·rename_i hnew
        split at he
        ·rename_i av hav
         rw[Znl hn]at hnew hav he
         obtain⟨val2,fp2,S2⟩:=ZK4 S1.objs hl1 (i:=i.toNat) (lo:=c) (n:=t.size) (base:=(d0+1)*1000) hn hnew
         have hl2:lk (ZfZ (ZdQ c t.size ((d0+1)*1000)) t1 0 l1[i.toNat]++Z0 st1 x' (.sl e1 t1 l1 (.deep kn1 (.at i.toNat c t.size ((d0+1)*1000))))) x'=some (.sl e1 t1 l1 (.deep kn1 (.at i.toNat c t.size ((d0+1)*1000)))):=by
          rw[ZrO]
          cases hq:lk (ZfZ (ZdQ c t.size ((d0+1)*1000)) t1 0 l1[i.toNat]) x' with
          |some ob=>have:=ZuJ hnew _ _ hq;rw[hl1]at this;cases this
          |none=>dsimp only;rw[Zd4,if_pos rfl,hl1];rfl
         obtain⟨ho2,e2,xs,Fs,_,s1,_,s3⟩:=S2.objs.rep x' _ hl2
         have hv2:val2 x' = .slice (some ⟨g,0,none⟩) n cap:=by
          obtain⟨_,_,_,h0⟩:=S2.stays x' _ hl1
          rw[h0,r3]
         have hel:=s3 i.toNat hn
         simp only[Ze6,if_true]at hel
         have hrep:=ZuB (hs':=ZdQ c t.size ((d0+1)*1000)) (st:=ZfZ (ZdQ c t.size ((d0+1)*1000)) t1 0 l1[i.toNat]++Z0 st1 x' (.sl e1 t1 l1 (.deep kn1 (.at i.toNat c t.size ((d0+1)*1000))))) (N:=ZI Γ.X (ZfZ (ZdQ c t.size ((d0+1)*1000)) t1 0 l1[i.toNat]++Z0 st1 x' (.sl e1 t1 l1 (.deep kn1 (.at i.toNat c t.size ((d0+1)*1000))))) fp2) hel (fun q hq y hy=>⟨hy,ho2.2 q hq y hy⟩)
         obtain⟨v,h8,h9⟩:=ZuV (w:=w) (b:=g) (o:=i.toNat*t1.size+c) hT ht hag hav (hrep.cut t.size c) (fun j hj=>by
          have hlen:=hrep.length
          have hel':=hel.length
          have hcl:=(ZiV hav).1
          have hle:c+j<t1.size:=by
           have h2:(cut t.size c (Zrb (ZdQ c t.size ((d0+1)*1000)) t1 0 l1[i.toNat])).length=min t.size ((Zrb (ZdQ c t.size ((d0+1)*1000)) t1 0 l1[i.toNat]).length - c):=by simp[cut]
           omega
          rw[ZQ hj,ZQ hle,Xbp]
          have hnl:n=l1.length:=by
           obtain⟨A,cap',h0⟩:=Zfn s1
           rw[hv2]at h0;simp at h0;exact h0.2.1
          subst hnl
          rw[hv2]at s1
          refine s1.cellAt _ ?_
          have:(i.toNat+1)*t1.size≤l1.length*t1.size:=XaE _ (by omega)
          rw[XaH]at this
          omega)
         exact Zkq hex (by rw[r4];exact h8) (hK _ _ _ _ _ he (S1.trans S2) h9)
        ·exact he.elim
       ·exact he.elim
      ·exact he.elim
     ·exact he.elim
   ·rename_i e t' l kk hl
    rw[q1]at hl
    obtain rfl:=Option.some.inj hl
    obtain⟨r1,r2,g,n,cap,r3,r4⟩:=q2 e t' l _ rfl
    have hn:i.toNat<l.length:=by omega
    obtain⟨s0,xs,Fs,s1,s2,_,s3⟩:=h.rep x' _ q1
    rw[r3]at s1
    have hnl:n=l.length:=by
     rcases s1.2 with⟨h0,_⟩|⟨g',cap',cur,h0,_⟩
     ·simp at h0
     ·simp at h0;exact h0.2.1
    subst hnl
    split at he
    ·rename_i av hav
     have hki:kk≤i:=he.1
     have he2:=he.2
     have him:=s3 i.toNat hn (by omega)
     rw[Znl hn]at hav
     have hrep:=Znc (val:=val) (st:=st) him
     have hcl:(cut t.size c (Zlr t' l[i.toNat])).length=t.size:=(ZiV hav).1
     have hlen:=hrep.length
     have him':=him.length
     refine go ht hag r4 hav (hrep.cut t.size c) (fun j hj=>?_) he2
     have hle:c+j<t'.size:=by
      have h2:(cut t.size c (Zlr t' l[i.toNat])).length=min t.size ((Zlr t' l[i.toNat]).length - c):=by simp[cut]
      omega
     rw[ZQ hj,ZQ hle,Xbp]
     refine s1.cellAt _ ?_
     have:(i.toNat+1)*t'.size≤l.length*t'.size:=XaE _ (by omega)
     rw[XaH]at this
     omega
    ·exact he.elim
   ·exact he.elim
  ·exact he.elim
 ·exact he.elim
theorem ZNV (hT:ZbB P C.y) (h:Sim Γ val fp ρ st a w) {ty:TypeId} {x:Operand} (ho:o.op = .load ty x) {t':Ty} {d:t'.den} {c:Nat} (hp:ev1 ρ x = .c (.iptr t' d c)) (he:ZbD (Zby C ρ st o) k) (hK:FolS Γ val fp st a w o k K) :
  ∃b,b<w.heap.size∧¬ZI Γ.X st fp b∧OpY P o a (fun w1=>w1.heap[b]? = w.heap[b]?) w K:=by
 have hx:=ZU h x
 unfold Zby at he
 simp only[ho]at he
 split at he
 ·unfold Zwe at he
  simp only[hp]at he
  exact he.elim
 unfold ZBt at he
 have hex:execOp a.eval o=(do pure (.value (←Instr.loadAt ty (a.eval x)))):=by simp only[execOp,ho]
 rw[hp]at hx
 obtain⟨b,o',es,q1,q2,q3,q4,q5⟩:=hx
 split at he
 ·rename_i t ag ht hag
  simp only[hp]at he
  split at he
  ·rename_i av hav
   have hrep:=Znc (val:=val) (st:=st) q5
   have hcl:(cut t.size c (Zlr t' d)).length=t.size:=(ZiV hav).1
   have hcells:∀i,i<t.size→w.cell? ⟨b,o'+c+i,none⟩=((es.drop c).take t.size)[i]? :=fun i hi=>by
    have hlen:=hrep.length
    have hle:c+i<t'.size:=by
     have h2:(cut t.size c (Zlr t' d)).length=min t.size ((Zlr t' d).length - c):=by simp[cut]
     have:=q5.length
     omega
    rw[ZQ hi,←q4 (c+i) hle,Xbp]
   obtain⟨v,h8,h9⟩:=ZAa (P:=P) hT ht hag hav (hrep.cut t.size c) hcells
   refine⟨b,q3,q2,Zmu hex (fun w1 hw1=>?_) (hK.same h.toObjs (ZNC he h9) h9)⟩
   rw[q1]
   exact h8 w1 fun i hi=>by rw[←hcells i hi];exact World.cell?_of_block hw1
  ·exact he.elim
 ·exact he.elim
end
end Go.AE
namespace Go.AE
open Go Go.RowKit
section
variable {P:Program} {C:Cfg} {Γ:Ctx} {val val' val'':Nat→Value} {fp fp' fp'':Nat→List Nat} {ρ:Env} {st st' st'':St} {a:Act} {w w' w'':World} {o:Oper} {k:AV→St→Prop} {K:Act→World→Prop} {Q:Exit→Act→World→Prop}
theorem ZH3 (h:Objs Γ val fp st w) {x g n cap i:Nat} {e:TypeId} {t:Ty} {l:List t.den} {d:t.den} {vs:List Value} (hx:lk st x=some (.sl e t l .shallow)) (hg:val x = .slice (some ⟨g,0,none⟩) n cap)
  (hi:i<l.length) (h1:∀u∈vs,u.oneCell'=true) (hd:Imm w (ZI Γ.X st fp) t d vs) :
  ∃w',(storeCells ⟨g,i*t.size+0,none⟩ vs 0).run P w = .ok () w'∧Step Γ val val fp fp st (Z0 st x (.sl e t (l.set i d) .shallow)) w w':=by
 obtain⟨xs,s1,s2,s3⟩:=h.rep x _ hx
 have hnl:n=l.length:=by
  obtain⟨A,cap',h0⟩:=Zfn s1
  rw[hg]at h0;simp at h0;exact h0.2.1
 subst hnl
 rw[hg]at s1
 have hvl:=hd.length
 have hxl:xs.length=l.length*t.size:=s1.1
 have hin:i*t.size+t.size≤l.length*t.size:=by
  have:=XaE t.size (show i+1≤l.length by omega)
  rw[XaH]at this
  omega
 obtain⟨w',p1,p2,p3,p4,p5,p5',p6,p7⟩:=Zvt (P:=P) s1 (p:=i*t.size+0) (vs:=vs) (by omega) h1
 refine⟨w',p1,?_⟩
 have hlk:∀y,lk (Z0 st x (.sl e t (l.set i d) .shallow)) y=if y=x then some (.sl e t (l.set i d) .shallow)else lk st y:=fun y=>by rw[Zd4,hx];rfl
 have only:∀{y:Nat} {ob:Ob},lk (Z0 st x (.sl e t (l.set i d) .shallow)) y=some ob→(lk st y=none∨y=x)→y=x:=fun {y ob} hy hn=>by
  rcases hn with hn|hn
  ·rw[hlk]at hy
   by_cases e0:y=x
   ·exact e0
   ·rw[if_neg e0,hn]at hy;cases hy
  ·exact hn
 have hgx:g∈fp x:=by rw[s2,hg];simp[Value.ownBlock]
 refine h.step (fun y=>y=x) p3 p4 p5 (Nat.le_of_eq p5'.symm) (by omega) (fun b hb hn=>p7 b (fun e0=>hn x _ rfl hx (e0▸hgx))) (fun y ob hy hn=>?_) (fun y ob hy hn=>?_) (fun y ob hy hn b hb=>?_) (fun y z o1 o2 hne hy hz hn hn' b hb=>?_) (fun hkept hstay y ob hy hn=>?_)
 ·have hn:¬y=x:=hn
  rw[hlk,if_neg hn];exact⟨hy,rfl,rfl⟩
 ·have hn:y=x:=hn
  subst hn
  rw[hx]at hy
  obtain rfl:=Option.some.inj hy
  exact⟨.sl e t (l.set i d) .shallow,by rw[hlk,if_pos rfl],(show Compat (.sl _ _ _ _) (.sl _ _ _ _) from And.intro rfl (And.intro rfl (by simp))),rfl⟩
 ·obtain rfl:=only hy hn
  obtain⟨q1,q2⟩:=h.own y _ hx b hb
  exact⟨by omega,fun _=>⟨y,_,rfl,hx,hb⟩⟩
 ·exact absurd ((only hy hn).trans (only hz hn').symm) hne
 ·obtain rfl:=only hy hn
  rw[hlk,if_pos rfl]at hy
  obtain rfl:=Option.some.inj hy
  refine⟨_,by rw[Xam,hg];exact p2,s2,fun j hj=>?_⟩
  rw[Xam]at hj
  by_cases hji:j=i
  ·subst hji
   rw[ZAT (c:=0) (by omega) (by omega)]
   simp only[Xbw,XaR,Xau]
   rw[XaY (by simp;omega),Xaz]
   exact hd.kept hkept
  ·rw[Zuy hji (by omega) (by omega) (by omega),XbF (fun e0=>hji e0.symm)]
   exact(s3 j hj).kept hkept
theorem ZH0 (hT:ZbB P C.y) (h:Sim Γ val fp ρ st a w) {ty:TypeId} {x y:Operand} (ho:o.op = .store ty x y) (he:ZbD (Zby C ρ st o) k) (hK:Fol Γ val fp st a w o k K):o.wp P a w K Q:=by
 have hx:=ZU h x
 have hy:=ZU h y
 unfold Zby at he
 simp only[ho]at he
 split at he
 ·rename_i hfn
  obtain⟨⟨i0,z,hi,hsz,_⟩,_⟩:=hT.fnT ty hfn
  unfold ZDX at he
  split at he
  ·rename_i cs x' c hcs h1
   split at he
   ·rename_i old hlen hold
    have hlen:=ZR.1 hlen
    split at he
    ·rename_i hle
     have hle:c+cs.length≤old.length:=Xbd hle
     rw[h1]at hx
     obtain⟨cs0,g,q1,q2,q3⟩:=hx
     obtain⟨c1,c2,c3⟩:=Zpp hcs hy
     have hl:=c1.length
     obtain⟨w',r1,r2⟩:=ZGY (P:=P) h.toObjs hold q2 c1 c2 hle
     refine Zpz (by simp only[execOp,ho]) (s:=Instr.storeAt ty (a.eval x) (a.eval y)) ?_ (hK _ _ _ _ _ _ he r2 trivial)
     have e3:(a.eval y).cells.size=i0.size:=by rw[hsz,←hlen,hl];simp
     rw[q3]
     simp[Instr.storeAt,Instr.sureAddr,storeVar,sizeOf,typeInfo,hi,e3,r1]
    ·exact he.elim
   ·exact he.elim
  ·exact he.elim
 unfold ZId at he
 have hex:execOp a.eval o=(do Instr.storeAt ty (a.eval x) (a.eval y);pure .skip):=by simp only[execOp,ho]
 split at he
 ·rename_i t cs ht hcs
  obtain⟨i0,z,d,hi,hsz,_⟩:=hT.ty ty t ht
  obtain⟨c1,c2,c3⟩:=Zpp hcs hy
  have hl:=c1.length
  split at he
  ·rename_i hlen
   have hlen:=ZR.1 hlen
   have hst:∀{g c:Nat} {w':World},a.eval x = .pointer (some ⟨g,c,none⟩)→(storeCells ⟨g,c,none⟩ (a.eval y).cells.toList 0).run P w = .ok () w'→(Instr.storeAt ty (a.eval x) (a.eval y)).run P w = .ok () w':=by
    intro g c w' e1 e2
    have e3:(a.eval y).cells.size=i0.size:=by rw[hsz,←hlen,hl];simp
    rw[e1]
    simp[Instr.storeAt,Instr.sureAddr,storeVar,sizeOf,typeInfo,hi,e3,e2]
   split at he
   ·rename_i x' c h1
    rw[h1]at hx
    obtain⟨cs0,g,q1,q2,q3⟩:=hx
    split at he
    ·rename_i old hold
     split at he
     ·rename_i hle
      have hle:c+cs.length≤old.length:=Xbd hle
      obtain⟨w',r1,r2⟩:=ZGY (P:=P) h.toObjs hold q2 c1 c2 hle
      exact Zpz hex (hst q3 r1) (hK _ _ _ _ _ _ he r2 trivial)
     ·exact he.elim
    ·exact he.elim
   ·rename_i x' i c h1
    rw[h1]at hx
    split at he
    ·obtain⟨_,ob,q1,q2⟩:=hx
     unfold ZFQ at he
     split at he
     ·rename_i e t' l kn hh hl2
      rw[hl2]at q1
      obtain rfl:=Option.some.inj q1
      obtain⟨r1,r2,g,n,cap,r3,r4⟩:=q2 _ _ _ _ rfl
      have hn:i.toNat<l.length:=by omega
      split at he
      ·rename_i hns
       split at he
       ·rename_i d' hd'
        obtain⟨w',fp',p1,p2⟩:=ZwO (P:=P) (hh':=hh) h.toObjs hl2 r3 hn hd' c1 c2 (by simp) (fun q hq h1 h2=>absurd h2 (ZyJ hns q hq h1)) (fun _ _ _=>rfl) (fun _ _=>rfl) (fun _ hst hin=>hin.mono hst)
        exact Zpz hex (hst r4 p1) (hK _ _ _ _ _ _ he p2 trivial)
       ·exact he.elim
      ·split at he
       ·rename_i st1 hcl
        obtain⟨fp1,S1⟩:=ZsC h.toObjs hcl
        split at he
        ·rename_i e1 t1 l1 kn1 hl1
         obtain⟨o1,m1,m2,m3⟩:=S1.stays x' _ hl2
         rw[hl1]at m1
         obtain rfl:=Option.some.inj m1
         obtain⟨_,rfl,m4⟩:=m2
         split at he
         ·rename_i d' ns hd'
          split at he
          ·rename_i hnd
           obtain⟨w',fp',p1,p2⟩:=ZwO (P:=P) (hh':=.no) S1.objs hl1 r3 (by omega) hd' (c1.mono (CvRep.kept S1.kept S1.stays)) c2 (Zki hnd) (fun q _ _ _=>rfl) (fun _ _ _=>rfl) (fun _ _=>rfl) (fun _ _ _=>trivial)
           exact Zpz hex (hst r4 p1) (hK _ _ _ _ _ _ he (S1.trans p2) trivial)
          ·exact he.elim
         ·exact he.elim
        ·exact he.elim
       ·split at he
        ·rename_i i0 lo n0 base
         split at he
         ·rename_i hbb
          rw[Xae]at hbb
          obtain rfl:=ZR.1 hbb.1
          have hln:=ZR.1 hbb.2
          split at he
          ·rename_i d' ns hd'
           split at he
           ·rename_i hnd
            have hi0:i0=i.toNat:=he.1
            have he2:=he.2
            subst hi0
            obtain⟨w',fp',p1,p2⟩:=ZwO (P:=P) (hh':=.no) h.toObjs hl2 r3 hn hd' c1 c2 (Zki hnd) (fun q _ _ _=>rfl) (fun q hq hno=>by
             simp only[Ze6,if_true]
             cases ho:ZdQ lo n0 base q with
             |none=>rfl
             |some y=>exact absurd (Zp6 ho).2 (fun h=>hno (by omega))) (fun j hj=>by
             funext q
             simp only[Ze6]
             rw[if_neg hj]) (fun _ _ _=>trivial)
            exact Zpz hex (hst r4 p1) (hK _ _ _ _ _ _ he2 p2 trivial)
           ·exact he.elim
          ·exact he.elim
         ·exact he.elim
        ·exact he.elim
     ·exact he.elim
    ·split at he
     ·rename_i e t' l hl2
      obtain⟨fp1,hfz⟩:=Zhu (ZeZ cs) h.toObjs
      have hx':=CvRep.kept hfz.kept hfz.stays (x:=.eptr x' i c) hx
      obtain⟨_,ob,q1,q2⟩:=hx'
      rw[hl2]at q1
      obtain rfl:=Option.some.inj q1
      obtain⟨r1,r2,g,n,cap,r3,r4⟩:=q2 _ _ _ _ rfl
      have hn:i.toNat<l.length:=by omega
      split at he
      ·rename_i h11
       have h11:=ZR.1 h11
       split at he
       ·rename_i d' hd'
        match cs,h11 with
        |[cv],_=>
         obtain⟨v,hv⟩:∃v,(a.eval y).cells.toList=[v]:=by
          have:(a.eval y).cells.toList.length=1:=by rw[←hl];rfl
          match hq:(a.eval y).cells.toList,this with
          |[v],_=>exact⟨v,rfl⟩
         rw[hv]at c1 c2
         have hcv:=CvRep.kept hfz.kept hfz.stays c1.1
         have hown:∀z n,CV.own z n∈[cv]→∀e t l kd,Zq2 kd=false→lk st z=some (.sl e t l kd)→lk (Zf6 st (ZeZ [cv])) z=some (.sl e t l .frozen):=fun z n hz e t l kd hk hz'=>(ZmQ _ hk hz').1 (.inl (ZtA.2 ⟨n,hz⟩))
         rw[Znl hn]at hd'
         obtain⟨xs,s1,s2,s3⟩:=hfz.objs.rep x' _ hl2
         have hc:=(ZB6 hfz.objs hd' hown hcv (s3 _ hn)).2
         obtain⟨p1,p2⟩:=ZMB (P:=P) hfz.objs hl2 r3 hn (c2 v (by simp)) hc (fun es hes=>(ZB6 hfz.objs hd' hown hcv hes).1)
         exact Zpz hex (hst r4 (by rw[hv];exact p1)) (hK _ _ _ _ _ _ he (hfz.trans p2) trivial)
       ·exact he.elim
      ·split at he
       ·rename_i h12
        rw[Xae]at h12
        have hc0:=ZR.1 h12.1
        have hcl:=ZR.1 h12.2
        subst hc0
        split at he
        ·rename_i d' hd'
         have c1':=c1.mono (CvRep.kept hfz.kept hfz.stays)
         have him:=ZwG hfz.objs hd' (fun z n hz e t l kd hk hz'=>(ZmQ _ hk hz').1 (.inl (ZtA.2 ⟨n,hz⟩))) c1'
         obtain⟨w',p1,p2⟩:=ZH3 (P:=P) hfz.objs hl2 r3 hn c2 him
         exact Zpz hex (hst r4 p1) (hK _ _ _ _ _ _ he (hfz.trans p2) trivial)
        ·exact he.elim
       ·exact he.elim
     ·split at he
      ·rename_i e t' l kk hl2
       obtain⟨_,ob,q1,q2⟩:=hx
       rw[hl2]at q1
       obtain rfl:=Option.some.inj q1
       obtain⟨r1,r2,g,n,cap,r3,r4⟩:=q2 _ _ _ _ rfl
       split at he
       ·rename_i h12
        rw[Xae]at h12
        have hc0:=ZR.1 h12.1
        have hcl:=ZR.1 h12.2
        subst hc0
        split at he
        ·rename_i d' ns hd'
         split at he
         ·rename_i hnd
          have hik:i=kk:=he.1
          have he2:=he.2
          subst hik
          obtain⟨w',fp',p1,p2⟩:=ZK1 (P:=P) h.toObjs hl2 r3 (by omega) hd' c1 (by omega) c2 (Zki hnd)
          exact Zpz hex (hst r4 p1) (hK _ _ _ _ _ _ he2 p2 trivial)
         ·exact he.elim
        ·exact he.elim
       ·exact he.elim
      ·exact he.elim
   ·exact he.elim
  ·exact he.elim
 ·exact he.elim
theorem ZIr (h:Objs Γ val fp st w) {d:Nat} (hd:lk st d=none) {e:TypeId} {t:Ty} {l:List t.den} {cur:Array Value} (hs:cur.size=l.length*t.size) (hm:l.length≤maxLen)
  (hel:∀j (hj:j<l.length),Imm w (ZI Γ.X st fp) t l[j] ((cur.toList.drop (j*t.size)).take t.size)) :
  ∃val' fp',Step Γ val val' fp fp' st ((d,.sl e t l .shallow)::st) w (w.alloc (.cells cur e))∧val' d = .slice (some ⟨w.heap.size,0,none⟩) l.length l.length:=
 ZqM h hd (F:=[w.heap.size]) rfl rfl rfl (Nat.le_refl _) (by simp) (fun b hb=>Below.heap_alloc w _ b hb) (by simp)
  (fun hk _=>⟨cur.toList,World.ownsRow_lit w cur l.length (Nat.zero_le _) hm hs,by simp[Value.ownBlock],fun j hj=>(hel j hj).kept hk⟩)
theorem Zog {N:Nat→Prop} {d:Nat} {ob:Ob} {r:St} {v:Value} (hv:val d=v) {A:Option Addr} {n c:Nat} (hs:v = .slice A n c):AvRep w N val ((d,ob)::r) (.c (.own d false)) v:=
 And.intro ⟨A,n,c,hs⟩ ⟨ob,by rw[Z2,if_pos rfl],.inr hv.symm,fun h=>by cases h⟩
theorem ZBZ {t:Ty}:∀(ps:List (Nat×Operand)) {j:Nat} {l:List t.den} {ns:List Nat},ZrS st ρ t j ps=some (l,ns) →
  l.length=ps.length∧∀i (hi:i<ps.length),ps[i].1=j+i∧∃cs d,cellsOf (ev1 ρ ps[i].2)=some cs∧ZuS st t cs=some d∧l[i]? = some d∧∀z∈ZeZ cs,z∈ns
 |[],j,l,ns,h=>by
  simp[ZrS]at h
  obtain⟨rfl,rfl⟩:=h
  exact⟨rfl,fun i hi=>absurd hi (by simp)⟩
 |(i0,x)::r,j,l,ns,h=>by
  unfold ZrS at h
  split at h
  ·rename_i hi0
   have hi0:=ZR.1 hi0
   split at h
   ·rename_i cs hcs
    split at h
    ·rename_i d l' ns' hd hr
     simp only[Option.some.injEq,Prod.mk.injEq]at h
     obtain⟨rfl,rfl⟩:=h
     obtain⟨h1,h2⟩:=ZBZ r hr
     refine⟨by simp[h1],fun i hi=>?_⟩
     cases i with
     |zero=>exact⟨by simpa using hi0,cs,d,hcs,hd,rfl,fun z hz=>List.mem_append.2 (.inl hz)⟩
     |succ i=>
      obtain⟨k1,cs',d',k2,k3,k4,k5⟩:=h2 i (by simpa using hi)
      exact⟨by simp only[List.getElem_cons_succ];omega,cs',d',k2,k3,by simpa using k4,fun z hz=>List.mem_append.2 (.inr (k5 z hz))⟩
    ·cases h
   ·cases h
  ·cases h
theorem ZAv {size:Nat}:∀(ps:List (Nat×Value)) {j:Nat} {cells:Array Value},(∀i (hi:i<ps.length),ps[i].1=j+i∧ps[i].2.cells.size=size)→(j+ps.length)*size≤cells.size →
  ∃cells',Instr.fill (fun i=>some (i*size,size)) cells ps=some cells'∧cells'.toList=cells.toList.take (j*size)++(ps.flatMap fun p=>p.2.cells.toList)++cells.toList.drop ((j+ps.length)*size)
 |[],j,cells,_,_=>⟨cells,rfl,by simp⟩
 |(i0,v)::r,j,cells,h,hfit=>by
  obtain⟨e1,e2⟩:=h 0 (by simp)
  simp at e1 e2
  have hle:(j+1)*size≤(j+(r.length+1))*size:=XaE _ (by omega)
  simp only[Xaq]at hfit
  have e3:(j+1)*size=j*size+size:=by rw[XaH,Nat.one_mul]
  obtain⟨cells1,q1,q2⟩:=ZFU (place:=fun i=>some (i*size,size)) (rest:=r) (i:=i0) (off:=j*size) (size:=size) (v:=v) (cells:=cells) (by rw[e1]) e2 (by omega)
  have hlen1:cells1.toList.length=cells.toList.length:=by
   rw[q2]
   simp
   omega
  obtain⟨cells',q3,q4⟩:=ZAv r (j:=j+1) (cells:=cells1) (fun i hi=>by
   obtain⟨k1,k2⟩:=h (i+1) (by simp;omega)
   simp at k1 k2
   exact⟨by omega,k2⟩) (by
   have:cells1.size=cells.size:=by simpa using hlen1
   rw[this,show j+1+r.length=j+(r.length+1) from by omega];exact hfit)
  refine⟨cells',q1.trans q3,?_⟩
  have hv:v.cells.toList.length=size:=by simpa using e2
  rw[q4,q2,show j+1+r.length=j+(r.length+1) from by omega]
  have hj:(cells.toList.take (j*size)).length=j*size:=by simp;omega
  have hA:(cells.toList.take (j*size)++v.cells.toList).length=(j+1)*size:=by rw[Xal,hj,hv,e3]
  have a1:((cells.toList.take (j*size)++v.cells.toList++cells.toList.drop (j*size+size)).take ((j+1)*size))=cells.toList.take (j*size)++v.cells.toList:=List.take_left' hA
  have a2:((cells.toList.take (j*size)++v.cells.toList++cells.toList.drop (j*size+size)).drop ((j+(r.length+1))*size))=cells.toList.drop ((j+(r.length+1))*size):=by
   rw[XbZ,XaY (by omega),Xau,List.drop_drop,hA]
   congr 1
   omega
  rw[a1,a2]
  simp
theorem ZAw {size:Nat}:∀(ls:List (List Value)) (i:Nat) (hi:i<ls.length),(∀l∈ls,l.length=size)→((ls.flatten.drop (i*size)).take size)=ls[i]
 |l::ls,0,_,h=>by
  have:=h l (by simp)
  simp only[List.flatten_cons,Nat.zero_mul,List.drop_zero,List.getElem_cons_zero]
  rw[XbD (by omega),Xa5 (by omega)]
 |l::ls,i+1,hi,h=>by
  have hl:=h l (by simp)
  have ih:=ZAw ls i (by simpa using hi) (fun x hx=>h x (by simp[hx]))
  simp only[List.flatten_cons,List.getElem_cons_succ]
  rw[XbZ,XaY (by rw[XaH,hl];omega),Xau,hl,show (i+1)*size - size=i*size from by rw[XaH];omega]
  exact ih
theorem ZuL (h:Objs Γ val fp st w) {d:Nat} {ns:List Nat} (hd:lk (ZeR st ns) d=none) (hns:∀y∈ns,∃e t l kd,lk st y=some (.sl e t l kd)) {ob:Ob} {v:Value} {F:List Nat}
  (hos:w'.os=w.os) (htape:w'.tape=w.tape) (hout:w'.output=w.output) (hdr:w.drawn≤w'.drawn) (hsz:w.heap.size≤w'.heap.size) (hkeep:∀b,b<w.heap.size→(∀y∈ns,b∉fp y)→w'.heap[b]? = w.heap[b]?)
  (hF:∀b∈F,b<w'.heap.size∧(b<w.heap.size→∃y∈ns,b∈fp y)) (hrep:∀(N:Nat→Prop) (val':Nat→Value) (st':St),ObRep w' N val' st' ob v F) :
  ∃val' fp',Step Γ val val' fp fp' st ((d,ob)::ZeR st ns) w w'∧val' d=v:=by
 have hdn:d∉ns:=fun hm=>by
  obtain⟨e,t,l,kd,ho⟩:=hns d hm
  rw[ZsV,if_pos hm,ho]at hd
  cases hd
 have hd0:lk st d=none:=by rw[ZsV,if_neg hdn]at hd;exact hd
 have hlk:∀y,lk ((d,ob)::ZeR st ns) y=if y=d then some ob else if y∈ns then(lk st y).map (fun _=>.dead)else lk st y:=fun y=>by rw[Z2,ZsV]
 have which:∀{y:Nat} {o2:Ob},lk ((d,ob)::ZeR st ns) y=some o2→(lk st y=none∨y∈ns)→(y=d∧o2=ob)∨(y≠d∧y∈ns∧o2 = .dead):=by
  intro y o2 hy hn
  rw[hlk]at hy
  by_cases h1:y=d
  ·rw[if_pos h1]at hy;exact .inl ⟨h1,(Option.some.inj hy).symm⟩
  ·rw[if_neg h1]at hy
   by_cases h2:y∈ns
   ·rw[if_pos h2]at hy
    cases hq:lk st y with
    |none=>rw[hq]at hy;cases hy
    |some o=>rw[hq]at hy;exact .inr ⟨h1,h2,(Option.some.inj hy).symm⟩
   ·rw[if_neg h2]at hy
    rcases hn with hn|hn
    ·rw[hn]at hy;cases hy
    ·exact absurd hn h2
 refine⟨fun y=>if y=d then v else val y,fun y=>if y=d then F else if y∈ns then[]else fp y,h.step (fun y=>y∈ns) hos htape hout hdr hsz (fun b hb hn=>hkeep b hb (fun y hy hby=>by
   obtain⟨e,t,l,kd,ho⟩:=hns y hy
   exact hn y _ hy ho hby)) (fun y o2 hy hn=>?_) (fun y o2 hy hn=>?_) (fun y o2 hy hn b hb=>?_) (fun y z o1 o2 hne hy hz hn hn' b hb hb'=>?_) (fun hkept hstay y o2 hy hn=>?_),by simp⟩
 ·have hyd:y≠d:=fun e0=>by rw[e0,hd0]at hy;cases hy
  have hn:¬y∈ns:=hn
  rw[hlk,if_neg hyd,if_neg hn]
  exact⟨hy,by simp[hyd],by simp[hyd,hn]⟩
 ·have hyd:y≠d:=fun e0=>by rw[e0,hd0]at hy;cases hy
  have hn:y∈ns:=hn
  obtain⟨e,t,l,kd,ho⟩:=hns y hn
  rw[ho]at hy
  obtain rfl:=Option.some.inj hy
  exact⟨.dead,by rw[hlk,if_neg hyd,if_pos hn,ho];rfl,(show Compat (.sl _ _ _ _) .dead from trivial),by simp[hyd]⟩
 ·rcases which hy hn with⟨rfl,_⟩|⟨h1,h2,_⟩
  ·simp only[if_true]at hb
   obtain⟨q1,q2⟩:=hF b hb
   refine⟨q1,fun hlt=>?_⟩
   obtain⟨z,hz,hbz⟩:=q2 hlt
   obtain⟨e,t,l,kd,ho⟩:=hns z hz
   exact⟨z,_,hz,ho,hbz⟩
  ·simp[h1,h2]at hb
 ·rcases which hy hn with⟨rfl,_⟩|⟨h1,h2,_⟩
  ·rcases which hz hn' with⟨rfl,_⟩|⟨h1,h2,_⟩
   ·exact hne rfl
   ·simp[h1,h2]at hb'
  ·simp[h1,h2]at hb
 ·rcases which hy hn with⟨rfl,rfl⟩|⟨h1,h2,rfl⟩
  ·simp only[if_true]
   exact hrep _ _ _
  ·show _=_
   simp[h1,h2]
theorem Zx7 {hs:Nat→Option Nat}:∀{t:Ty} {c:Nat},fine t=true→(∀q,hs q=none)→Deep w val t hs c t.dflt (Zpb t) (fun _=>False)
 | .int k,_,h,_=>⟨⟨rfl,ZDO h⟩,fun _ hb=>hb⟩
 | .bool,_,_,_=>⟨rfl,fun _ hb=>hb⟩
 | .str,_,_,_=>⟨rfl,fun _ hb=>hb⟩
 | .sl t,c,_,hq=>by
  unfold Deep
  rw[hq c]
  exact⟨_,0,[],fun _ _=>False,rfl,World.ownsRow_nil _ _ _ _,⟨fun b=>by simp[Value.ownBlock],fun b j hj=>absurd hj (by simp[Ty.dflt]),fun j k b hj=>absurd hj (by simp[Ty.dflt])⟩,fun j hj=>absurd hj (by simp[Ty.dflt])⟩
 | .pair a b,c,h,hq=>by
  simp only[fine,Xae]at h
  exact⟨_,_,_,_,rfl,fun x=>by simp,fun x hx=>hx.elim,Zx7 h.1 hq,Zx7 h.2 hq⟩
theorem Zvu {t:Ty}:∀(ps:List (Nat×Operand)) {j:Nat} {l:List t.den} {ns:List Nat},Zja st ρ t j ps=some (l,ns)→ns.Nodup →
  l.length=ps.length∧∃M:Nat→List Nat,(∀i z,z∈M i→z∈ns)∧(∀i i' z,i≠i'→z∈M i→z∉M i')∧(∀i,(M i).Nodup)∧∀i (hi:i<ps.length),ps[i].1=j+i∧∃cs d,cellsOf (ev1 ρ ps[i].2)=some cs∧ZbX st t cs=some (d,M i)∧l[i]? = some d
 |[],j,l,ns,h,_=>by
  simp[Zja]at h
  obtain⟨rfl,rfl⟩:=h
  exact⟨rfl,fun _=>[],(fun _ z (hz:z∈([]:List Nat))=>by cases hz),(fun _ _ z _ (hz:z∈([]:List Nat))=>by cases hz),(fun _=>List.nodup_nil),fun i hi=>absurd hi (by simp)⟩
 |(i0,x)::r,j,l,ns,h,hnd=>by
  unfold Zja at h
  split at h
  ·rename_i hi0
   have hi0:=ZR.1 hi0
   split at h
   ·rename_i cs hcs
    split at h
    ·rename_i d ms l' ns' hd hr
     simp only[Option.some.injEq,Prod.mk.injEq]at h
     obtain⟨rfl,rfl⟩:=h
     obtain⟨n1,n2,n3⟩:=List.nodup_append.1 hnd
     obtain⟨h1,M,m1,m2,m3,m4⟩:=Zvu r hr n2
     refine⟨by simp[h1],fun i=>match i with|0=>ms|i+1=>M i,fun i z hz=>?_,fun i i' z hne hz hz'=>?_,fun i=>?_,fun i hi=>?_⟩
     ·cases i with
      |zero=>exact List.mem_append.2 (.inl hz)
      |succ i=>exact List.mem_append.2 (.inr (m1 i z hz))
     ·cases i with
      |zero=>cases i' with
       |zero=>exact hne rfl
       |succ i'=>exact n3 z hz z (m1 i' z hz') rfl
      |succ i=>cases i' with
       |zero=>exact n3 z hz' z (m1 i z hz) rfl
       |succ i'=>exact m2 i i' z (fun e=>hne (by rw[e])) hz hz'
     ·cases i with
      |zero=>exact n1
      |succ i=>exact m3 i
     ·cases i with
      |zero=>exact⟨by simpa using hi0,cs,d,hcs,hd,rfl⟩
      |succ i=>
       obtain⟨k1,cs',d',k2,k3,k4⟩:=m4 i (by simpa using hi)
       exact⟨by simp only[List.getElem_cons_succ];omega,cs',d',k2,k3,by simpa using k4⟩
    ·cases h
   ·cases h
  ·cases h
theorem ZJq (hT:ZbB P C.y) (h:Sim Γ val fp ρ st a w) {ty:TypeId} {len:Nat} {ps:Array (Nat×Operand)} (ho:o.op = .buildSlice ty len ps) {e:TypeId} (hel:lk C.y.el ty=some e) {t:Ty} (ht:lk C.y.ty e=some t) {l:List t.den} {ns:List Nat}
  (hps:Zja st ρ t 0 ps.toList=some (l,ns)) (hl:l.length=len) (hbig:len*t.size≤16777216) (hnd:ns.Nodup) {d:Nat} (hn:lk (ZeR st ns) d=none) (hk:k (.c (.own d false)) ((d,.sl e t l (.deep true .no))::ZeR st ns)) (hK:Fol Γ val fp st a w o k K):o.wp P a w K Q:=by
 classical
 have hu:=hT.el ty e hel
 obtain⟨i0,z,dd,hi,hsz,hz,hzc,_,_,_,hf⟩:=hT.ty e t ht
 obtain⟨p1,M,m1,m2,m3,p2⟩:=Zvu ps.toList hps hnd
 have hpos:=t.size_pos
 have hzs:z.cells.size=t.size:=by
  have h2:=(ZhN (w:=w) (N:=fun _=>False) hf).length
  rw[←hzc]at h2
  simpa using h2
 have hpart0:∀i:Nat,∃F:Nat→Prop,∀(hi:i<ps.toList.length) (hil:i<l.length),Deep w val t (fun _=>none) 0 l[i] (a.eval (ps.toList[i]).2).cells.toList F∧(∀b,F b→∃y∈M i,b∈fp y)∧∀y∈M i,∃e t l kd,lk st y=some (.sl e t l kd):=by
  intro i
  by_cases hi:i<ps.toList.length
  ·obtain⟨_,cs,dt,q2,q3,q4⟩:=p2 i hi
   obtain⟨r1,_,_⟩:=Zpp q2 (ZU h (ps.toList[i]).2)
   obtain⟨F,k1,k2,k3⟩:=ZAK h.toObjs (hs:=fun _=>none) (c:=0) q3 r1 (m3 i) (fun _ _=>rfl)
   refine⟨F,fun hi' hil=>?_⟩
   have hdt:dt=l[i]:=by rw[Xac hil]at q4;exact(Option.some.inj q4).symm
   rw[←hdt]
   exact⟨k1,k2,k3⟩
  ·exact⟨fun _=>False,fun hi'=>absurd hi' hi⟩
 have hex:∃Fi:Nat→Nat→Prop,∀i (hi:i<ps.toList.length) (hil:i<l.length),Deep w val t (fun _=>none) 0 l[i] (a.eval (ps.toList[i]).2).cells.toList (Fi i)∧(∀b,Fi i b→∃y∈M i,b∈fp y)∧∀y∈M i,∃e t l kd,lk st y=some (.sl e t l kd):=
  ⟨fun i=>(hpart0 i).choose,fun i=>(hpart0 i).choose_spec⟩
 obtain⟨Fi,hpart⟩:=hex
 have hlenP:∀i (hi:i<ps.toList.length),(a.eval (ps.toList[i]).2).cells.toList.length=t.size:=fun i hi=>(hpart i hi (by rw[p1];exact hi)).1.length
 have hplen:(ps.toList.map fun (x:Nat×Operand)=>(x.1,a.eval x.2)).length=len:=by simp only[Xak];rw[←p1,hl]
 obtain⟨cells',f1,f2⟩:=ZAv (size:=t.size) (ps.toList.map fun (x:Nat×Operand)=>(x.1,a.eval x.2)) (j:=0)
  (cells:=(Array.range (len*t.size)).map ((if len*t.size=0 then #[]else z.cells)[· % (if len*t.size=0 then #[]else z.cells).size]!)) (fun i hi=>by
   have hi':i<ps.toList.length:=by simpa using hi
   simp only[Xb0]
   refine⟨(p2 i hi').1,?_⟩
   have:=hlenP i hi'
   simpa using this) (by rw[hplen,Nat.zero_add];simp)
 rw[hplen,Nat.zero_mul,XaR,Xau,Nat.zero_add,XaY (by simp),Xaz,List.flatMap_map]at f2
 have hcur:cells'.size=l.length*t.size:=by
  rw[←XbE,f2,List.flatMap_def,List.length_flatten,XbH]
  have:(ps.toList.map (List.length ∘ fun (x:Nat×Operand)=>(a.eval x.2).cells.toList))=List.replicate l.length t.size:=by
   apply XbP (by simp[p1])
   intro i h1 h2
   have hi':i<ps.toList.length:=by simpa using h1
   have:=hlenP i hi'
   simpa using this
  rw[this]
  simp
 have hns:∀y∈ns,∃e t l kd,lk st y=some (.sl e t l kd):=by
  have key:∀{ps:List (Nat×Operand)} {j:Nat} {l:List t.den} {ns:List Nat},Zja st ρ t j ps=some (l,ns)→∀y∈ns,∃(i:Nat) (x:Operand) (cs:List CV) (d:t.den) (ms:List Nat),cellsOf (ev1 ρ x)=some cs∧ZbX st t cs=some (d,ms)∧y∈ms:=by
   intro ps
   induction ps with
   |nil=>intro j l ns h y hy;simp[Zja]at h;rw[h.2]at hy;cases hy
   |cons p r ih=>
    intro j l ns h y hy
    obtain⟨i0,x⟩:=p
    unfold Zja at h
    split at h
    ·split at h
     ·rename_i cs hcs
      split at h
      ·rename_i d ms l' ns' hd hr
       simp only[Option.some.injEq,Prod.mk.injEq]at h
       obtain⟨rfl,rfl⟩:=h
       rcases List.mem_append.1 hy with hy|hy
       ·exact⟨0,x,cs,d,ms,hcs,hd,hy⟩
       ·exact ih hr y hy
      ·cases h
     ·cases h
    ·cases h
  have mv:∀{t:Ty} {cs:List CV} {d:t.den} {ns:List Nat},ZbX st t cs=some (d,ns)→∀y∈ns,∃e t l kd,lk st y=some (.sl e t l kd):=by
   intro t
   induction t with
   |int k=>intro cs d ns h1 y hy;unfold ZbX at h1;split at h1<;>cases h1;cases hy
   |bool=>intro cs d ns h1 y hy;unfold ZbX at h1;split at h1<;>cases h1;cases hy
   |str=>intro cs d ns h1 y hy;unfold ZbX at h1;split at h1<;>cases h1;cases hy
   |sl t _=>
    intro cs d ns h1 y hy
    unfold ZbX ZBQ at h1
    split at h1
    ·cases h1;cases hy
    ·rename_i x
     split at h1
     ·rename_i hl
      split at h1
      ·cases h1;rw[Xah.1 hy];exact⟨_,_,_,_,hl⟩
      ·cases h1
     ·rename_i hl
      split at h1
      ·split at h1
       ·cases h1;rw[Xah.1 hy];exact⟨_,_,_,_,hl⟩
       ·cases h1
      ·cases h1
     ·cases h1
    ·cases h1
   |pair a b iha ihb=>
    intro cs d ns h1 y hy
    unfold ZbX at h1
    split at h1
    ·rename_i hx
     split at h1
     ·rename_i hy'
      cases h1
      rcases List.mem_append.1 hy with hy|hy
      ·exact iha hx y hy
      ·exact ihb hy' y hy
     ·cases h1
    ·cases h1
  intro y hy
  obtain⟨_,_,cs,d,ms,_,q2,q3⟩:=key hps y hy
  exact mv q2 y q3
 have hFi:∀i b,i<l.length→Fi i b→(∃y∈M i,b∈fp y)∧b<w.heap.size:=fun i b hi hb=>by
  have hi':i<ps.toList.length:=by rw[←p1];exact hi
  obtain⟨y,hy,hby⟩:=(hpart i hi' hi).2.1 b hb
  obtain⟨e,t,l,kd,ho⟩:=(hpart i hi' hi).2.2 y hy
  exact⟨⟨y,hy,hby⟩,(h.own y _ ho b hby).1⟩
 have hmax:l.length≤maxLen:=by
  have:=Nat.le_mul_of_pos_right len hpos
  simp only[maxLen];omega
 obtain⟨val',fp',hstep,hv⟩:=ZuL (w':=w.alloc (.cells cells' e)) h.toObjs (d:=d) hn hns (ob:=.sl e t l (.deep true .no)) (v:=.slice (some ⟨w.heap.size,0,none⟩) l.length l.length)
  (F:=w.heap.size::(ns.flatMap fp).filter (fun b=>decide (∃i,i<l.length∧Fi i b))) rfl rfl rfl (Nat.le_refl _) (by simp) (fun b hb _=>Below.heap_alloc w _ b hb) (fun b hb=>by
   rcases XaA.1 hb with rfl|hb
   ·exact⟨by simp,fun hlt=>absurd hlt (Nat.lt_irrefl _)⟩
   ·simp only[XaM,XaL]at hb
    obtain⟨y,hy,hby⟩:=hb.1
    obtain⟨e,t,l,kd,ho⟩:=hns y hy
    have:=(h.own y _ ho b hby).1
    exact⟨by simp;omega,fun _=>⟨y,hy,hby⟩⟩) (fun N val'' st''=>by
   refine⟨trivial,e,cells'.toList,Fi,fun _=>rfl,World.ownsRow_lit w cells' l.length (Nat.zero_le _) hmax hcur,⟨fun b=>?_,fun b j hj ho hb=>?_,fun j k b hj hk hjk hb hb'=>?_⟩,fun j hj=>?_⟩
   ·simp only[XaA,XaM,XaL,Xaf,Value.ownBlock,Option.some.injEq]
    constructor
    ·rintro(rfl|⟨_,hb⟩)
     ·exact .inl rfl
     ·exact .inr hb
    ·rintro(hb|⟨j,hj,hb⟩)
     ·exact .inl hb.symm
     ·obtain⟨⟨y,hy,hby⟩,_⟩:=hFi j b hj hb
      exact .inr ⟨⟨y,m1 j y hy,hby⟩,j,hj,hb⟩
   ·simp only[Value.ownBlock,Option.some.injEq]at ho
    have:=(hFi j b hj hb).2
    omega
   ·obtain⟨⟨y,hy,hby⟩,_⟩:=hFi j b hj hb
    obtain⟨⟨y',hy',hby'⟩,_⟩:=hFi k b hk hb'
    obtain⟨_,_,_,_,o1⟩:=hns y (m1 j y hy)
    obtain⟨_,_,_,_,o2⟩:=hns y' (m1 k y' hy')
    exact h.apart y y' _ _ (fun e0=>m2 j k y hjk hy (e0▸hy')) o1 o2 b hby hby'
   ·have hjp:j<ps.toList.length:=by rw[←p1];exact hj
    rw[f2,List.flatMap_def]
    rw[ZAw _ j (by simpa using hjp) (fun x hx=>by
     obtain⟨y,hy,rfl⟩:=XaF.1 hx
     obtain⟨n,hn',hyn⟩:=Xan.1 hy
     have:=hlenP n hn'
     rw[hyn]at this
     exact this)]
    simp only[Xb0]
    exact(hpart j hjp hj).1.kept (fun b hb=>Below.heap_alloc w _ b (hFi j b hj hb).2) (fun _ _ _ hp=>by cases hp))
 refine Zkq (s:=Instr.buildSlice ty len (ps.map fun (i,x)=>(i,a.eval x))) (by simp only[execOp,ho]) (v:=.slice (some ⟨w.heap.size,0,none⟩) len len) (w':=w.alloc (.cells cells' e)) ?_ (hK _ _ _ _ _ _ hk hstep (Zog (by rw[hv,hl]) rfl))
 have hfill:Instr.fill (fun i=>some (i*t.size,t.size)) (Array.map (fun x=>(if len*t.size=0 then #[]else z.cells)[x % (if len*t.size=0 then #[]else z.cells).size]!) (Array.range (len*t.size))) (ps.map fun (x:Nat×Operand)=>(x.1,a.eval x.2)).toList=some cells':=by
  rw[Array.toList_map];exact f1
 simp only[Instr.buildSlice,Sem.run_bind,run_underlying hu,Result.andThen_ok,sizeOf,typeInfo,run_program,hi,Sem.run_pure,hsz]
 rw[if_neg (by omega)]
 by_cases h0:len*t.size=0
 ·rw[if_pos h0]
  simp only[if_pos h0]at hfill
  simp only[Sem.run_bind,Sem.run_pure,Result.andThen_ok,hfill,newRow,run_newObj]
  rfl
 ·rw[if_neg h0]
  simp only[if_neg h0]at hfill
  simp only[Sem.run_bind,Sem.run_pure,Result.andThen_ok,zeroValue,typeInfo,run_program,hi,hz,hfill,newRow,run_newObj]
  rfl
theorem ZAU (hT:ZbB P C.y) (h:Sim Γ val fp ρ st a w) {ty:TypeId} {len:Nat} {ps:Array (Nat×Operand)} (ho:o.op = .buildSlice ty len ps) (he:ZbD (Zby C ρ st o) k) (hK:Fol Γ val fp st a w o k K):o.wp P a w K Q:=by
 unfold Zby at he
 simp only[ho]at he
 split at he
 ·rename_i e hel
  split at he
  ·rename_i t ht
   split at he
   ·split at he
    ·rename_i l ns hps
     split at he
     ·rename_i hl
      simp only[Xae]at hl
      obtain⟨d,hd,hn,hk⟩:=Znj he
      exact ZJq hT h ho hel ht hps (ZR.1 hl.1.1) (Xbd hl.1.2) (Zki hl.2) hn hk hK
     ·exact he.elim
    ·exact he.elim
   ·split at he
    rotate_left
    ·exact he.elim
    rename_i l ns hps
    split at he
    ·rename_i hl
     rw[Xae]at hl
     obtain⟨hl,hbig⟩:=hl
     have hl:=ZR.1 hl
     have hbig:=Xbd hbig
     obtain⟨d,hd,hn,hk⟩:=Znj he
     have hu:=hT.el ty e hel
     obtain⟨i0,z,dd,hi,hsz,hz,hzc,_,_,_,hf⟩:=hT.ty e t ht
     obtain⟨p1,p2⟩:=ZBZ ps.toList hps
     obtain⟨fp1,hfz⟩:=Zhu ns h.toObjs
     have hsim:=h.step hfz
     have hpos:=t.size_pos
     have hzs:z.cells.size=t.size:=by
      have h2:=(ZhN (w:=w) (N:=fun _=>False) hf).length
      rw[←hzc]at h2
      simpa using h2
     have hpart:∀i (hi:i<ps.toList.length) (hil:i<l.length),Imm w (ZI Γ.X (Zf6 st ns) fp1) t l[i] (a.eval (ps.toList[i]).2).cells.toList:=by
      intro i hi hil
      obtain⟨_,cs,dt,q2,q3,q4,q5⟩:=p2 i hi
      obtain⟨r1,_,_⟩:=Zpp q2 (ZU hsim (ps.toList[i]).2)
      have hdt:dt=l[i]:=by rw[Xac hil]at q4;exact(Option.some.inj q4).symm
      rw[←hdt]
      exact ZwG hfz.objs q3 (fun x n hx e t l kd hk hx'=>(ZmQ _ hk hx').1 (.inl (q5 x (ZtA.2 ⟨n,hx⟩)))) r1
     have hplen:(ps.toList.map fun (x:Nat×Operand)=>(x.1,a.eval x.2)).length=len:=by simp only[Xak];rw[←p1,hl]
     obtain⟨cells',f1,f2⟩:=ZAv (size:=t.size) (ps.toList.map fun (x:Nat×Operand)=>(x.1,a.eval x.2)) (j:=0)
      (cells:=(Array.range (len*t.size)).map ((if len*t.size=0 then #[]else z.cells)[· % (if len*t.size=0 then #[]else z.cells).size]!)) (fun i hi=>by
       have hi':i<ps.toList.length:=by simpa using hi
       simp only[Xb0]
       refine⟨(p2 i hi').1,?_⟩
       have:=(hpart i hi' (by rw[p1];exact hi')).length
       simpa using this) (by rw[hplen,Nat.zero_add];simp)
     rw[hplen,Nat.zero_mul,XaR,Xau,Nat.zero_add,XaY (by simp),Xaz,List.flatMap_map]at f2
     have hcur:cells'.size=l.length*t.size:=by
      rw[←XbE,f2,List.flatMap_def,List.length_flatten,XbH]
      have:(ps.toList.map (List.length ∘ fun (x:Nat×Operand)=>(a.eval x.2).cells.toList))=List.replicate l.length t.size:=by
       apply XbP (by simp[p1])
       intro i h1 h2
       have hi':i<ps.toList.length:=by simpa using h1
       have:=(hpart i hi' (by rw[p1];exact hi')).length
       simpa using this
      rw[this]
      simp
     obtain⟨val',fp',hstep,hv⟩:=ZIr hfz.objs (d:=d) hn (e:=e) (l:=l) (cur:=cells') hcur (by have:=Nat.le_mul_of_pos_right len hpos;simp only[maxLen];omega) (fun j hj=>by
      have hjp:j<ps.toList.length:=by rw[←p1];exact hj
      rw[f2,List.flatMap_def]
      rw[ZAw _ j (by simpa using hjp) (fun x hx=>by
       obtain⟨y,hy,rfl⟩:=XaF.1 hx
       obtain⟨n,hn',hyn⟩:=Xan.1 hy
       have:=(hpart n hn' (by rw[p1];exact hn')).length
       rw[hyn]at this
       exact this)]
      simp only[Xb0]
      exact hpart j hjp hj)
     refine Zkq (s:=Instr.buildSlice ty len (ps.map fun (i,x)=>(i,a.eval x))) (by simp only[execOp,ho]) (v:=.slice (some ⟨w.heap.size,0,none⟩) len len) (w':=w.alloc (.cells cells' e)) ?_ (hK _ _ _ _ _ _ hk (hfz.trans hstep) (Zog (by rw[hv,hl]) rfl))
     have hfill:Instr.fill (fun i=>some (i*t.size,t.size)) (Array.map (fun x=>(if len*t.size=0 then #[]else z.cells)[x % (if len*t.size=0 then #[]else z.cells).size]!) (Array.range (len*t.size))) (ps.map fun (x:Nat×Operand)=>(x.1,a.eval x.2)).toList=some cells':=by
      rw[Array.toList_map];exact f1
     simp only[Instr.buildSlice,Sem.run_bind,run_underlying hu,Result.andThen_ok,sizeOf,typeInfo,run_program,hi,Sem.run_pure,hsz]
     rw[if_neg (by omega)]
     by_cases h0:len*t.size=0
     ·rw[if_pos h0]
      simp only[if_pos h0]at hfill
      simp only[Sem.run_bind,Sem.run_pure,Result.andThen_ok,hfill,newRow,run_newObj]
      rfl
     ·rw[if_neg h0]
      simp only[if_neg h0]at hfill
      simp only[Sem.run_bind,Sem.run_pure,Result.andThen_ok,zeroValue,typeInfo,run_program,hi,hz,hfill,newRow,run_newObj]
      rfl
    ·exact he.elim
  ·exact he.elim
 ·exact he.elim
theorem ZAJ {z:Array Value} {n j:Nat} (hj:j<n):((madeCells z (n*z.size)).toList.drop (j*z.size)).take z.size=z.toList:=by
 apply Xbb
 intro c
 by_cases hc:c<z.size
 ·have hlt:j*z.size+c<n*z.size:=by
   have:=XaE z.size (show j+1≤n by omega)
   rw[XaH]at this
   omega
  have hm:(j*z.size+c) % z.size=c:=by rw[XbY,Nat.mul_add_mod,Nat.mod_eq_of_lt hc]
  rw[ZQ hc]
  simp[madeCells,hlt,hm,hc]
 ·rw[XaD,if_neg hc,Xaw (by simp;omega)]
theorem ZmO {d:Option Nat} {ob:Ob} {f:Nat→AV} {p:Prop} (h:ZbD (match Zig st d ob f with | .ret v st'=>.req p v st'|_=>.fail) k):∃n,d=some n∧lk st n=none∧p∧k (f n) ((n,ob)::st):=by
 unfold Zig at h
 cases d with
 |none=>exact h.elim
 |some n=>
  dsimp only at h
  cases hn:lk st n with
  |none=>rw[hn]at h;exact⟨n,rfl,hn,h.1,h.2⟩
  |some ob'=>rw[hn]at h;exact h.elim
theorem ZB8 (hT:ZbB P C.y) (h:Sim Γ val fp ρ st a w) {ty:TypeId} {x y:Operand} (ho:o.op = .makeSlice ty x y) (he:ZbD (Zby C ρ st o) k) (hK:Fol Γ val fp st a w o k K):o.wp P a w K Q:=by
 have hx:=ZU h x
 have hy:=ZU h y
 unfold Zby at he
 simp only[ho]at he
 split at he
 ·rename_i e hel
  split at he
  ·rename_i t ht
   split at he
   ·rename_i n m h1 h2
    rw[h1]at hx;rw[h2]at hy
    obtain⟨d,hd,hn,⟨n0,nb,hmn⟩,hk⟩:=ZmO he
    subst hmn
    have hu:=hT.el ty e hel
    obtain⟨i0,z,dd,hi,hsz,hz,hzc,hby,_,_,hf⟩:=hT.ty e t ht
    have hzs:z.cells.size=t.size:=by
     have h2:=(ZhN (w:=w) (N:=fun _=>False) hf).length
     rw[←hzc]at h2
     simpa using h2
    have hb:(i0.bytes:Int)*m≤281474976710656:=by
     have h3:(i0.bytes:Int)*m≤256*m:=Int.mul_le_mul_of_nonneg_right (by omega) n0
     simp only[Zl]at nb
     omega
    have hlen:(List.replicate m.toNat t.dflt).length=m.toNat:=XaG
    obtain⟨val',fp',hstep,hv⟩:∃val' fp',Step Γ val val' fp fp' st ((d,.sl e t (List.replicate m.toNat t.dflt) (match ZGc C o.dst with|true=>.deep true .no|false=>.shallow))::st) w (w.alloc (.cells (madeCells z.cells (m.toNat*i0.size)) e))∧val' d = .slice (some ⟨w.heap.size,0,none⟩) (List.replicate m.toNat t.dflt).length (List.replicate m.toNat t.dflt).length:=by
     have s1:(madeCells z.cells (m.toNat*i0.size)).size=(List.replicate m.toNat t.dflt).length*t.size:=by rw[size_madeCells,hlen,hsz]
     have s2:(List.replicate m.toNat t.dflt).length≤maxLen:=by rw[hlen];simp only[Zl]at nb;simp only[maxLen];omega
     split
     ·exact ZqM h.toObjs hn (F:=[w.heap.size]) rfl rfl rfl (Nat.le_refl _) (by simp) (fun b hb=>Below.heap_alloc w _ b hb) (by simp)
       (fun _ _=>⟨trivial,e,_,fun _ _=>False,fun _=>rfl,World.ownsRow_lit w _ _ (Nat.zero_le _) s2 s1,⟨fun b=>by simp[Value.ownBlock,eq_comm],fun _ _ _ _ hb=>hb,fun _ _ _ _ _ _ hb=>hb.elim⟩,fun j hj=>by
        rw[hsz,←hzs,ZAJ (by simpa using hj),List.getElem_replicate,hzc]
        exact Zx7 hf (fun _=>rfl)⟩)
     ·exact ZIr h.toObjs hn (e:=e) (t:=t) (l:=List.replicate m.toNat t.dflt) (cur:=madeCells z.cells (m.toNat*i0.size)) s1 s2 (fun j hj=>by
       rw[hsz,←hzs,ZAJ (by simpa using hj),List.getElem_replicate,hzc]
       exact ZhN hf)
    refine Zkq (s:=Instr.makeSlice ty (a.eval x) (a.eval y)) (by simp only[execOp,ho]) (v:=.slice (some ⟨w.heap.size,0,none⟩) m.toNat m.toNat) ?_ (hK _ _ _ _ _ _ hk hstep (Zog (by rw[hv,hlen]) rfl))
    rw[hx.1,hy.1]
    exact run_make w ty e i0 z hu hi hz .i64 .i64 m m n0 (Xat _) hb (by simp only[Zl]at nb;omega)
   ·exact he.elim
  ·exact he.elim
 ·exact he.elim
theorem ZD2 {N:Nat→Prop} {t:Ty} {l:List t.den} {v:Value} (h:Imm w N (.sl t) l [v]) :
  ∃(A:Option Addr) (cap:Nat) (news:List Value),v = .slice A l.length cap∧news.length=l.length*t.size∧(∀u∈news,u.oneCell'=true)∧(∀j (hj:j<l.length),Imm w N t l[j] ((news.drop (j*t.size)).take t.size)) ∧
   (0<l.length→∃ad,A=some ad∧∀j u,news[j]? = some u→w.cell? (ad.add j)=some u):=by
 obtain⟨A,cap,hv,_,_,h3⟩:=h
 have hv:v = .slice A l.length cap:=by simpa using hv
 rcases Xbf l.length with h0|h0
 ·exact⟨A,cap,[],hv,by simp[h0],by simp,fun j hj=>by omega,fun hl=>by omega⟩
 ·obtain⟨b,o',hA,_,_,he⟩:=h3 h0
  have hpos:=t.size_pos
  have hall:∀i,i<l.length*t.size→∃u,w.cell? ⟨b,o'+i,none⟩=some u:=by
   intro i hi
   have hj:i / t.size<l.length:=(Xbx hpos).2 hi
   obtain⟨es,q1,q2⟩:=he _ hj
   have hm:i % t.size<t.size:=Nat.mod_lt _ hpos
   have e1:i / t.size*t.size+i % t.size=i:=by rw[XbY];exact XbT _ _
   have:=q1 _ hm
   rw[Xbp,e1,Xac (by rw[q2.length];exact hm)]at this
   exact⟨_,this⟩
  let news:=(List.range (l.length*t.size)).map fun i=>(w.cell? ⟨b,o'+i,none⟩).getD undef
  have hnews:∀i,i<l.length*t.size→news[i]? = w.cell? ⟨b,o'+i,none⟩:=by
   intro i hi
   obtain⟨u,hu⟩:=hall i hi
   simp[news,hi,hu]
  have hnl:news.length=l.length*t.size:=by simp[news]
  have hseg:∀j (hj:j<l.length),Imm w N t l[j] ((news.drop (j*t.size)).take t.size):=by
   intro j hj
   obtain⟨es,q1,q2⟩:=he j hj
   have:(news.drop (j*t.size)).take t.size=es:=by
    apply Xbb
    intro c
    by_cases hc:c<t.size
    ·have hlt:j*t.size+c<l.length*t.size:=by
      have:=XaE t.size (show j+1≤l.length by omega)
      rw[XaH]at this
      omega
     rw[ZQ hc,hnews _ hlt,←q1 c hc,Xbp]
    ·rw[XaD,if_neg hc,Xaw (by rw[q2.length];omega)]
   rw[this]
   exact q2
  refine⟨A,cap,news,hv,hnl,fun u hu=>?_,hseg,fun _=>⟨_,hA,fun j u hj=>?_⟩⟩
  ·obtain⟨i,hi,rfl⟩:=Xan.1 hu
   have hi':i<l.length*t.size:=by omega
   have hj:i / t.size<l.length:=(Xbx hpos).2 hi'
   have hm:i % t.size<t.size:=Nat.mod_lt _ hpos
   have e1:i / t.size*t.size+i % t.size=i:=by rw[XbY];exact XbT _ _
   refine ZsU (hseg _ hj) _ (XbJ.2 ⟨i % t.size,?_⟩)
   rw[ZQ hm,e1,Xac hi]
  ·have hj':j<l.length*t.size:=by rw[←hnl];exact(Xbn.1 hj).1
   rw[hnews j hj']at hj
   rw[Addr.add_lit]
   exact hj
theorem ZJE (h:Objs Γ val fp st w) {t:Ty} {x:AV} {l:List t.den} {v:Value} (hl:ZGj st t x=some l) (hx:AvRep w (ZI Γ.X st fp) val st x v) :
  ∃(A:Option Addr) (cap:Nat) (news:List Value),v = .slice A l.length cap∧news.length=l.length*t.size∧(∀u∈news,u.oneCell'=true)∧(∀j (hj:j<l.length),Imm w (ZI Γ.X st fp) t l[j] ((news.drop (j*t.size)).take t.size)) ∧
   (0<l.length→∃ad,A=some ad∧∀j u,news[j]? = some u→w.cell? (ad.add j)=some u):=by
 unfold ZGj at hl
 split at hl
 ·cases hl
  exact⟨none,0,[],hx,by simp,by simp,fun j hj=>absurd hj (by simp),fun h0=>absurd h0 (by simp)⟩
 ·rename_i t' l'
  exact ZD2 (Zuf hl hx)
 ·rename_i y
  split at hl
  ·rename_i e t' l' hy
   obtain⟨hv,hr⟩:=Zbk h hx hy
   obtain⟨xs,s1,s2,s3⟩:=hr
   obtain⟨e1,e2⟩:=Ze4 hl
   subst e1
   obtain rfl:l=l':=e2
   have hone:∀u∈xs,u.oneCell'=true:=by
    intro u hu
    obtain⟨i,hi,rfl⟩:=Xan.1 hu
    have hpos:=t'.size_pos
    have hi':i<l.length*t'.size:=by have:=s1.1;omega
    have hj:i / t'.size<l.length:=(Xbx hpos).2 hi'
    have hm:i % t'.size<t'.size:=Nat.mod_lt _ hpos
    have e1:i / t'.size*t'.size+i % t'.size=i:=by rw[XbY];exact XbT _ _
    refine ZsU (s3 _ hj) _ (XbJ.2 ⟨i % t'.size,?_⟩)
    rw[ZQ hm,e1,Xac hi]
   rcases s1.2 with⟨q1,q2⟩|⟨g,cap,cur,q1,_⟩
   ·exact⟨none,0,xs,by rw[hv,q1,q2],s1.1,hone,s3,fun h0=>by omega⟩
   ·exact⟨_,cap,xs,by rw[hv,q1],s1.1,hone,s3,fun _=>⟨_,rfl,s1.cells (g:=g) (by rw[q1];rfl)⟩⟩
  ·rename_i e t' l' hy
   obtain⟨hv,hr⟩:=Zbk h hx hy
   exact ZD2 (Zuf hl (by rw[hv];exact hr.2.1))
  ·rename_i e t' l' kn hy
   split at hl
   ·rename_i hflat
    obtain⟨hv,hr⟩:=Zbk h hx hy
    obtain⟨_,e0,xs,Fs,_,s1,_,s3⟩:=hr
    obtain⟨e1,e2⟩:=Ze4 hl
    subst e1
    obtain rfl:l=l':=e2
    have s3':∀j (hj:j<l.length),Imm w (ZI Γ.X st fp) t' l[j] ((xs.drop (j*t'.size)).take t'.size):=fun j hj=>Deep.imm (fun b hb=>(Zni hflat (s3 j hj) b hb).elim) (s3 j hj)
    have hone:∀u∈xs,u.oneCell'=true:=by
     intro u hu
     obtain⟨i,hi,rfl⟩:=Xan.1 hu
     have hpos:=t'.size_pos
     have hi':i<l.length*t'.size:=by have:=s1.1;omega
     have hj:i / t'.size<l.length:=(Xbx hpos).2 hi'
     have hm:i % t'.size<t'.size:=Nat.mod_lt _ hpos
     have e1:i / t'.size*t'.size+i % t'.size=i:=by rw[XbY];exact XbT _ _
     refine ZsU (s3' _ hj) _ (XbJ.2 ⟨i % t'.size,?_⟩)
     rw[ZQ hm,e1,Xac hi]
    rcases s1.2 with⟨q1,q2⟩|⟨g,cap,cur,q1,_⟩
    ·exact⟨none,0,xs,by rw[hv,q1,q2],s1.1,hone,s3',fun h0=>by omega⟩
    ·exact⟨_,cap,xs,by rw[hv,q1],s1.1,hone,s3',fun _=>⟨_,rfl,s1.cells (g:=g) (by rw[q1];rfl)⟩⟩
   ·cases hl
  ·cases hl
 ·rename_i y i
  split at hl
  ·rename_i e t' l' hy
   obtain⟨⟨A0,n0,c0,hv⟩,o2,q1,q2⟩:=hx
   rw[hy]at q1
   cases q1
   obtain⟨p1,p2,p3,p4⟩:=q2 _ _ _ _ rfl
   obtain⟨xs,s1,s2,s3⟩:=h.rep y _ hy
   obtain⟨e1,e2⟩:=Ze4 hl
   subst e1
   obtain rfl:l=l'.drop i.toNat:=e2
   have hxl:xs.length=l'.length*t'.size:=s1.1
   have hdl:(l'.drop i.toNat).length=l'.length - i.toNat:=Xbt
   by_cases hlt:i<l'.length
   ·obtain⟨g,n,cap,c,g1,g2⟩:=p3 hlt
    have hcells:=s1.cells (g:=g) (by rw[g1];rfl)
    have hmul:i.toNat*t'.size+(l'.length - i.toNat)*t'.size=l'.length*t'.size:=by rw[←XaH];congr 1;omega
    refine⟨_,c,xs.drop (i.toNat*t'.size),by rw[hdl];exact g2,by rw[Xbt,hdl];omega,fun u hu=>?_,fun j hj=>?_,fun _=>⟨_,rfl,fun j u hju=>?_⟩⟩
    ·have hu':u∈xs:=List.mem_of_mem_drop hu
     obtain⟨q,hq,rfl⟩:=Xan.1 hu'
     have hpos:=t'.size_pos
     have hq':q<l'.length*t'.size:=by omega
     have hj:q / t'.size<l'.length:=(Xbx hpos).2 hq'
     have hm:q % t'.size<t'.size:=Nat.mod_lt _ hpos
     have e1:q / t'.size*t'.size+q % t'.size=q:=by rw[XbY];exact XbT _ _
     refine ZsU (s3 _ hj) _ (XbJ.2 ⟨q % t'.size,?_⟩)
     rw[ZQ hm,e1,Xac hq]
    ·rw[List.getElem_drop,List.drop_drop,←XaH]
     exact s3 (i.toNat+j) (by rw[hdl]at hj;omega)
    ·rw[Xa0]at hju
     have:=hcells _ _ hju
     rw[Addr.add_lit]at this ⊢
     rw[←this]
     congr 2
     omega
   ·obtain⟨A,c,g1⟩:=p4 (by omega)
    have h0:(l'.drop i.toNat).length=0:=by rw[hdl];omega
    exact⟨A,c,[],by rw[h0];exact g1,by rw[h0];simp,by simp,fun j hj=>by omega,fun hh=>by omega⟩
  ·cases hl
 ·cases hl
theorem ZJX {t:Ty} {l l':List t.den} {xs news:List Value} {N:Nat→Prop} (hx:xs.length=l.length*t.size) (h1:∀j (hj:j<l.length),Imm w N t l[j] ((xs.drop (j*t.size)).take t.size))
  (h2:∀j (hj:j<l'.length),Imm w N t l'[j] ((news.drop (j*t.size)).take t.size)):∀j (hj:j<(l++l').length),Imm w N t (l++l')[j] (((xs++news).drop (j*t.size)).take t.size):=by
 intro j hj
 by_cases hlt:j<l.length
 ·rw[XbB hlt]
  have hle:j*t.size+t.size≤l.length*t.size:=by
   have:=XaE t.size (show j+1≤l.length by omega)
   rw[XaH]at this
   omega
  rw[List.drop_append_of_le_length (by omega),XbD (by simp;omega)]
  exact h1 j hlt
 ·have hge:l.length≤j:=by omega
  rw[Xbz hge]
  have hj':j - l.length<l'.length:=by simp at hj;omega
  have e0:j*t.size=l.length*t.size+(j - l.length)*t.size:=by rw[←XaH];congr 1;omega
  rw[XbZ,XaY (by rw[hx,e0];omega),Xau,hx,e0,Nat.add_sub_cancel_left]
  exact h2 _ hj'
theorem ZJW {s ty e e1:TypeId} {i0:TypeInfo} (hu:P.underlying s=some (.slice e)) (hi:P.info? e=some i0) {g n cap:Nat} {cur:Array Value} (hg:w.heap[g]? = some (.cells cur e1 (0,0))) {ad:Addr} {m c:Nat} {news:List Value}
  (hl:news.length=m*i0.size) (hn:∀j u,news[j]? = some u→w.cell? (ad.add j)=some u) (h1:∀u∈news,u.oneCell'=true) (hr:n+m≤cap) (hf:n*i0.size+news.length≤cur.size) :
  (Builtin.append_ #[s,s] ty #[.slice (some ⟨g,0,none⟩) n cap,.slice (some ad) m c]).run P w =
   .ok (.slice (some ⟨g,0,none⟩) (n+m) cap) (w.setRow g (cur.toList.take (n*i0.size)++news++cur.toList.drop (n*i0.size+news.length)).toArray):=by
 have q1:=run_firstCells_some (P:=P) w i0.size m ad m c news hl hn
 have q2:=run_storeCells_at P g (n*i0.size) e1 news 0 cur w hg (by simpa using hf) h1
 rw[XbX]at q2
 simp[Builtin.append_,run_underlying hu,sizeOf,typeInfo,hi,Builtin.lenOf,hr,q1,Addr.add_lit,q2]
theorem ZyX {s ty e e1:TypeId} {i0:TypeInfo} {z:Value} {size:Nat} (hu:P.underlying s=some (.slice e)) (hi:P.info? e=some i0) (hz:i0.zero=some z) (hsz:i0.size=size) (hzs:z.cells.size=size) (hpos:0<size) (hby:i0.bytes≤256)
  {v:Value} {n:Nat} {xs:List Value} (hown:w.ownsRow 0 e1 size v n xs) {A:Option Addr} {m c:Nat} {news:List Value} (hl:news.length=m*size) (h1:∀u∈news,u.oneCell'=true)
  (hA:0<m→∃ad,A=some ad∧∀j u,news[j]? = some u→w.cell? (ad.add j)=some u) (hb:n+m≤Zl) :
  ∃v' w' e2,(Builtin.append_ #[s,s] ty #[v,.slice A m c]).run P w = .ok v' w'∧w'.ownsRow 0 e2 size v' (n+m) (xs++news)∧w.grownBy w' v.ownBlock∧(v'.ownBlock=v.ownBlock∨v'.ownBlock=some w.heap.size)∧w.drawn≤w'.drawn∧(e1=e→e2=e):=by
 have hbd:n+m≤4294967296:=hb
 have hbm:(n+m)*i0.bytes≤140737488355328:=by
  have:=Nat.mul_le_mul_left (n+m) hby
  omega
 have hml:n+m≤maxLen:=by simp only[maxLen];omega
 rcases hown.2 with⟨rfl,rfl⟩|⟨g,cap,cur,rfl,hbg,hg,hnc,hcm,hcs,htake⟩
 ·have hx:xs=[]:=XaJ (by simpa using hown.1)
  subst hx
  subst hsz
  rcases Xbf m with h0|h0
  ·subst h0
   have hn:news=[]:=XaJ (by simpa using hl)
   subst hn
   refine⟨.slice none 0 0,w,e,?_,World.ownsRow_nil w 0 e i0.size,World.grownBy.refl w _,.inl rfl,Nat.le_refl _,fun _=>rfl⟩
   cases A with
   |none=>simp[Builtin.append_,run_underlying hu,sizeOf,typeInfo,hi,Builtin.lenOf,Builtin.firstCells]
   |some ad=>simp[Builtin.append_,run_underlying hu,sizeOf,typeInfo,hi,Builtin.lenOf,Builtin.firstCells,loadCells,loadCellsFrom]
  obtain⟨ad,rfl,hc⟩:=hA h0
  simp only[Nat.zero_add]at hbm hml hbd
  have hr:=run_append_nil (P:=P) w s ty e i0 z hu hi hz ad m c news hl hc h0 (by omega) (by omega)
  have hge:=grownCap_ge w m 0 e
  rw[Nat.zero_add]
  refine⟨_,_,e,hr,⟨by simpa using hl,.inr ⟨w.heap.size,_,_,rfl,Nat.zero_le _,heap_alloc_new w.drew _,by simpa using hge,grownCap_le_maxLen w m 0 e hml,?_,?_⟩⟩,⟨rfl,rfl,rfl,by simp,fun b hb' _=>Below.heap_alloc w.drew _ b hb'⟩,.inr rfl,Nat.le_succ _,fun _=>rfl⟩
  ·simp only[Array.size_append,Xbj,size_zeroCells,hzs,hl,←XaH]
   congr 1
   omega
  ·simp only[Array.toList_append,Xau,←hl]
   exact List.take_left
 ·subst hsz
  rcases Xbf m with h0|h0
  ·subst h0
   have hn:news=[]:=XaJ (by simpa using hl)
   subst hn
   refine⟨_,w,e1,?_,by simpa using hown,World.grownBy.refl w _,.inl rfl,Nat.le_refl _,id⟩
   cases A with
   |none=>simp[Builtin.append_,run_underlying hu,sizeOf,typeInfo,hi,Builtin.lenOf,Builtin.firstCells,hnc,storeCells]
   |some ad=>simp[Builtin.append_,run_underlying hu,sizeOf,typeInfo,hi,Builtin.lenOf,Builtin.firstCells,hnc,storeCells,loadCells,loadCellsFrom]
  obtain⟨ad,rfl,hc⟩:=hA h0
  have hlen:(xs++news).length=(n+m)*i0.size:=by rw[Xal,hown.1,hl,XaH]
  by_cases hroom:n+m≤cap
  ·have hfit:n*i0.size+news.length≤cur.size:=by rw[hl,hcs,←XaH];exact XaE _ hroom
   refine⟨_,_,e1,ZJW (ty:=ty) (c:=c) hu hi hg hl hc h1 hroom hfit,⟨hlen,.inr ⟨g,cap,_,rfl,hbg,setRow_heap w g cur _ e1 _ hg,hroom,hcm,?_,?_⟩⟩,⟨rfl,rfl,rfl,by simp,fun k _ hk=>setRow_other w g k _ (fun e=>hk (by simp[Value.ownBlock,e]))⟩,.inl rfl,Nat.le_refl _,id⟩
   ·simp only[Xbj,Xal,XaB,Xbt,XbE]
    omega
   ·rw[htake,←hlen]
    exact List.take_left
  ·have hr:=run_append_grow (P:=P) w s ty e i0 z hu hi hz ⟨g,0,none⟩ n cap xs hown.1 (hown.cells (g:=g) rfl) ad m c news hl hc (by omega) (by simp only[maxLen]at hml;omega) (growslice_fits (by omega) hbm)
   have hge:=grownCap_ge w (n+m) cap e
   refine⟨_,_,e,hr,⟨hlen,.inr ⟨w.heap.size,_,_,rfl,Nat.zero_le _,heap_alloc_new w.drew _,hge,grownCap_le_maxLen w (n+m) cap e hml,?_,?_⟩⟩,⟨rfl,rfl,rfl,by simp,fun b hb' _=>Below.heap_alloc w.drew _ b hb'⟩,.inr rfl,Nat.le_succ _,fun _=>rfl⟩
   ·simp only[Array.size_append,Xbj,size_zeroCells,hzs,hown.1,hl,←XaH]
    congr 1
    omega
   ·simp only[Array.toList_append,XaK]
    rw[←XaK,←hlen]
    exact List.take_left
theorem ZuU {s ty e:TypeId} {i0:TypeInfo} {z:Value} {size:Nat} (hu:P.underlying s=some (.slice e)) (hi:P.info? e=some i0) (hz:i0.zero=some z) (hsz:i0.size=size) (hzs:z.cells.size=size) (hpos:0<size) (hby:i0.bytes≤256)
  {v:Value} {n:Nat} {xs:List Value} (hown:w.ownsRow 0 e size v n xs) {A:Option Addr} {m c:Nat} {news:List Value} (hl:news.length=m*size) (h1:∀u∈news,u.oneCell'=true)
  (hA:0<m→∃ad,A=some ad∧∀j u,news[j]? = some u→w.cell? (ad.add j)=some u) (hb:n+m≤Zl) :
  ∃v' w',(Builtin.append_ #[s,s] ty #[v,.slice A m c]).run P w = .ok v' w'∧w'.ownsRow 0 e size v' (n+m) (xs++news)∧w.grownBy w' v.ownBlock∧(v'.ownBlock=v.ownBlock∨v'.ownBlock=some w.heap.size)∧w.drawn≤w'.drawn:=by
 obtain⟨v',w',e2,q1,q2,q3,q4,q5,q6⟩:=ZyX (ty:=ty) (c:=c) hu hi hz hsz hzs hpos hby hown hl h1 hA hb
 obtain rfl:=q6 rfl
 exact⟨v',w',q1,q2,q3,q4,q5⟩
theorem ZKT {xs news:List Value} {size n j:Nat} (hx:xs.length=n*size) (hj:j<n):((xs++news).drop (j*size)).take size=(xs.drop (j*size)).take size:=by
 have hle:j*size+size≤n*size:=by
  have:=XaE size (show j+1≤n by omega)
  rw[XaH]at this
  omega
 rw[List.drop_append_of_le_length (by omega),XbD (by simp;omega)]
theorem ZKS {xs news:List Value} {size n j:Nat} (hx:xs.length=n*size) (hj:n≤j):((xs++news).drop (j*size)).take size=(news.drop ((j - n)*size)).take size:=by
 have e0:j*size=n*size+(j - n)*size:=by rw[←XaH];congr 1;omega
 rw[XbZ,XaY (by rw[hx,e0];omega),Xau,hx,e0,Nat.add_sub_cancel_left]
theorem Zz0 (h:Objs Γ val fp st w) {s ty e:TypeId} {t:Ty} {i0:TypeInfo} {z:Value} (hu:P.underlying s=some (.slice e)) (hi:P.info? e=some i0) (hz:i0.zero=some z) (hsz:i0.size=t.size) (hzs:z.cells.size=t.size) (hby:i0.bytes≤256)
  {vx:Value} {l l':List t.den} {xs:List Value} {FX:Nat→Prop} {Fx:Nat→Nat→Prop} {nx:List Nat} (x1:w.ownsRow 0 e t.size vx l.length xs) (x2:ZFr vx l.length FX Fx) (x3:∀j (_:j<l.length),Deep w val t (fun _=>none) 0 l[j] ((xs.drop (j*t.size)).take t.size) (Fx j))
  (x4:∀b,FX b→∃y∈nx,b∈fp y) (x5:∀y∈nx,∃e t l kd,lk st y=some (.sl e t l kd)) {y0:Nat} {e1:TypeId} {kn:Bool} (hy:lk st y0=some (.sl e1 t l' (.deep kn .no))) (hyn:y0∉nx) {d:Nat} (hd:lk (ZeR st (nx++[y0])) d=none) (hb:l.length+l'.length≤Zl) :
  ∃v' w' val' fp',(Builtin.append_ #[s,s] ty #[vx,val y0]).run P w = .ok v' w'∧Step Γ val val' fp fp' st ((d,.sl e t (l++l') (.deep true .no))::ZeR st (nx++[y0])) w w'∧val' d=v'∧∃A n c,v' = .slice A n c:=by
 classical
 obtain⟨_,e2,ys,Fy,_,y1,y2,y3⟩:=h.rep y0 _ hy
 have hpos:=t.size_pos
 have hone:∀u∈ys,u.oneCell'=true:=by
  intro u hu
  obtain⟨i,hi,rfl⟩:=Xan.1 hu
  have hi':i<l'.length*t.size:=by have:=y1.1;omega
  have hj:i / t.size<l'.length:=(Xbx hpos).2 hi'
  have hm:i % t.size<t.size:=Nat.mod_lt _ hpos
  have e1:i / t.size*t.size+i % t.size=i:=by rw[XbY];exact XbT _ _
  refine(y3 _ hj).one _ (XbJ.2 ⟨i % t.size,?_⟩)
  rw[ZQ hm,e1,Xac hi]
 obtain⟨A,cap,hvy⟩:=Zfn y1
 have hA:0<l'.length→∃ad,A=some ad∧∀j u,ys[j]? = some u→w.cell? (ad.add j)=some u:=fun hl=>by
  rcases y1.2 with⟨_,q2⟩|⟨g,cap',cur,q1,_⟩
  ·omega
  ·rw[q1]at hvy
   simp only[Value.slice.injEq]at hvy
   obtain⟨rfl,_⟩:=hvy
   exact⟨_,rfl,y1.cells (g:=g) (by rw[q1];rfl)⟩
 obtain⟨v',w',q1,q2,q3,q4,q5⟩:=ZuU (ty:=ty) (c:=cap) hu hi hz hsz hzs hpos hby x1 y1.1 hone hA hb
 have hns:∀y∈nx++[y0],∃e t l kd,lk st y=some (.sl e t l kd):=fun y hy'=>by
  rcases List.mem_append.1 hy' with hy'|hy'
  ·exact x5 y hy'
  ·rw[Xah.1 hy'];exact⟨_,_,_,_,hy⟩
 have lt1:∀b,FX b→b<w.heap.size:=fun b hb=>by
  obtain⟨y,hy',hby'⟩:=x4 b hb
  obtain⟨_,_,_,_,ho⟩:=x5 y hy'
  exact(h.own y _ ho b hby').1
 have lt2:∀b∈fp y0,b<w.heap.size:=fun b hb=>(h.own y0 _ hy b hb).1
 have apart:∀b,FX b→b∉fp y0:=fun b hb hby'=>by
  obtain⟨y,hy',hb'⟩:=x4 b hb
  obtain⟨_,_,_,_,ho⟩:=x5 y hy'
  exact h.apart y y0 _ _ (fun e0=>hyn (e0▸hy')) ho hy b hb' hby'
 have hFx:∀j b,j<l.length→Fx j b→FX b∧vx.ownBlock≠some b:=fun j b hj hb=>⟨(x2.all b).2 (.inr ⟨j,hj,hb⟩),fun ho=>x2.own b j hj ho hb⟩
 have hFy:∀j b,j<l'.length→Fy j b→b∈fp y0:=fun j b hj hb=>(y2.all b).2 (.inr ⟨j,hj,hb⟩)
 have hkeep:∀b,b<w.heap.size→vx.ownBlock≠some b→w'.heap[b]? = w.heap[b]? :=fun b hb hne=>q3.block b hb (fun e0=>hne e0.symm)
 have hy0x:∀b∈fp y0,vx.ownBlock≠some b:=fun b hb ho=>apart b ((x2.all b).2 (.inl ho)) hb
 have hnb:∀b,v'.ownBlock=some b→b<w'.heap.size∧(b<w.heap.size→vx.ownBlock=some b):=fun b hb=>by
  refine⟨(q2.lt b hb).2,fun hlt=>?_⟩
  rcases q4 with q4|q4
  ·rw[←q4];exact hb
  ·rw[q4]at hb;simp at hb;omega
 let Fs:Nat→Nat→Prop:=fun j b=>if j<l.length then Fx j b else Fy (j - l.length) b
 have hFs1:∀j b,j<l.length→(Fs j b↔Fx j b):=fun j b hj=>by simp[Fs,hj]
 have hFs2:∀j b,¬j<l.length→(Fs j b↔Fy (j - l.length) b):=fun j b hj=>by simp[Fs,hj]
 have hlen:(l++l').length=l.length+l'.length:=Xal
 have hFs:∀j b,j<(l++l').length→Fs j b→b<w.heap.size∧vx.ownBlock≠some b∧∃y∈nx++[y0],b∈fp y:=fun j b hj hb=>by
  by_cases hjl:j<l.length
  ·obtain⟨k1,k2⟩:=hFx j b hjl ((hFs1 j b hjl).1 hb)
   obtain⟨y,hy',hby'⟩:=x4 b k1
   exact⟨lt1 b k1,k2,y,by simp[hy'],hby'⟩
  ·have k1:=hFy (j - l.length) b (by omega) ((hFs2 j b hjl).1 hb)
   exact⟨lt2 b k1,hy0x b k1,y0,by simp,k1⟩
 obtain⟨val',fp',hstep,hv⟩:=ZuL (w':=w') h (d:=d) (ns:=nx++[y0]) hd hns (ob:=.sl e t (l++l') (.deep true .no)) (v:=v')
  (F:=(v'.ownBlock.toList++(nx++[y0]).flatMap fp).filter (fun b=>decide (v'.ownBlock=some b∨∃j,j<(l++l').length∧Fs j b))) q3.os q3.tape q3.output q5 q3.size (fun b hb hn=>hkeep b hb (fun ho=>by
   obtain⟨y,hy',hby'⟩:=x4 b ((x2.all b).2 (.inl ho))
   exact hn y (by simp[hy']) hby')) (fun b hb=>by
   simp only[XaM,Xaf]at hb
   rcases hb.2 with ho|⟨j,hj,hb⟩
   ·obtain⟨k1,k2⟩:=hnb b ho
    refine⟨k1,fun hlt=>?_⟩
    obtain⟨y,hy',hby'⟩:=x4 b ((x2.all b).2 (.inl (k2 hlt)))
    exact⟨y,by simp[hy'],hby'⟩
   ·obtain⟨k1,_,k3⟩:=hFs j b hj hb
    exact⟨XaS k1 q3.size,fun _=>k3⟩) (fun N val'' st''=>by
   refine⟨trivial,e,xs++ys,Fs,fun _=>rfl,by rw[hlen];exact q2,⟨fun b=>?_,fun b j hj ho hb=>?_,fun j k b hj hk hjk hb hb'=>?_⟩,fun j hj=>?_⟩
   ·simp only[XaM,List.mem_append,Xaf]
    refine⟨fun hb=>hb.2,fun hb=>⟨?_,hb⟩⟩
    rcases hb with hb|⟨j,hj,hb⟩
    ·exact .inl (by simp[hb])
    ·obtain⟨_,_,y,hy',hby'⟩:=hFs j b hj hb
     exact .inr (XaL.2 ⟨y,hy',hby'⟩)
   ·obtain⟨k1,k2,_⟩:=hFs j b hj hb
    exact k2 ((hnb b ho).2 k1)
   ·by_cases hjl:j<l.length<;>by_cases hkl:k<l.length
    ·exact x2.apart j k b hjl hkl hjk ((hFs1 j b hjl).1 hb) ((hFs1 k b hkl).1 hb')
    ·exact apart b (hFx j b hjl ((hFs1 j b hjl).1 hb)).1 (hFy _ b (by omega) ((hFs2 k b hkl).1 hb'))
    ·exact apart b (hFx k b hkl ((hFs1 k b hkl).1 hb')).1 (hFy _ b (by omega) ((hFs2 j b hjl).1 hb))
    ·exact y2.apart (j - l.length) (k - l.length) b (by omega) (by omega) (by omega) ((hFs2 j b hjl).1 hb) ((hFs2 k b hkl).1 hb')
   ·have hk:∀b,Fs j b→w'.heap[b]? = w.heap[b]? :=fun b hb=>by
     obtain⟨k1,k2,_⟩:=hFs j b hj hb
     exact hkeep b k1 k2
    by_cases hjl:j<l.length
    ·rw[ZKT x1.1 hjl,XbB hjl]
     exact((x3 j hjl).kept (fun b hb=>hk b ((hFs1 j b hjl).2 hb)) (fun _ _ _ hp=>by cases hp)).congr (fun b=>hFs1 j b hjl)
    ·rw[ZKS x1.1 (by omega),Xbz (by omega)]
     have hj':j - l.length<l'.length:=by omega
     exact((y3 _ hj').kept (fun b hb=>hk b ((hFs2 j b hjl).2 hb)) (fun _ _ _ hp=>by cases hp)).congr (fun b=>hFs2 j b hjl))
 have hsl:∃A n c,v' = .slice A n c:=by rcases q2.2 with⟨e1,_⟩|⟨g,c,cur,e1,_⟩<;>exact⟨_,_,_,e1⟩
 exact⟨v',w',val',fp',by rw[hvy];exact q1,hstep,hv,hsl⟩
theorem ZHv (h:Objs Γ val fp st w) {s ty e:TypeId} {t:Ty} {i0:TypeInfo} {z:Value} (hu:P.underlying s=some (.slice e)) (hi:P.info? e=some i0) (hz:i0.zero=some z) (hsz:i0.size=t.size) (hzs:z.cells.size=t.size) (hby:i0.bytes≤256) (hf:ZmP t=true)
  {x':Nat} {e1:TypeId} {kn:Bool} {l l':List t.den} (hx:lk st x'=some (.sl e1 t l (.deep kn .no))) {N:Nat→Prop} {A:Option Addr} {c:Nat} {news:List Value} (n2:news.length=l'.length*t.size) (n3:∀u∈news,u.oneCell'=true)
  (n4:∀j (hj:j<l'.length),Imm w N t l'[j] ((news.drop (j*t.size)).take t.size)) (n5:0<l'.length→∃ad,A=some ad∧∀j u,news[j]? = some u→w.cell? (ad.add j)=some u)
  {d:Nat} (hd:lk (ZeR st [x']) d=none) (hb:l.length+l'.length≤Zl) :
  ∃v' w' val' fp',(Builtin.append_ #[s,s] ty #[val x',.slice A l'.length c]).run P w = .ok v' w'∧Step Γ val val' fp fp' st ((d,.sl 0 t (l++l') (.deep false .no))::ZeR st [x']) w w'∧val' d=v'∧∃A n c,v' = .slice A n c:=by
 obtain⟨_,e2,xs,Fx,_,x1,x2,x3⟩:=h.rep x' _ hx
 obtain⟨v',w',e3,q1,q2,q3,q4,q5,_⟩:=ZyX (ty:=ty) (c:=c) hu hi hz hsz hzs t.size_pos hby x1 n2 n3 n5 hb
 have hFx:∀j b,j<l.length→¬Fx j b:=fun j b hj hb=>Zni hf (x3 j hj) b hb
 have hbx:∀b,(val x').ownBlock=some b→b∈fp x':=fun b hb=>(x2.all b).2 (.inl hb)
 obtain⟨val',fp',hstep,hv⟩:=ZuL (w':=w') h (d:=d) (ns:=[x']) hd (fun y hy=>by rw[Xah.1 hy];exact⟨_,_,_,_,hx⟩) (ob:=.sl 0 t (l++l') (.deep false .no)) (v:=v') (F:=v'.ownBlock.toList) q3.os q3.tape q3.output q5 q3.size
  (fun b hb hn=>q3.block b hb (fun e0=>hn x' (by simp) (hbx b e0.symm))) (fun b hb=>by
   have hb:v'.ownBlock=some b:=by simpa using hb
   refine⟨(q2.lt b hb).2,fun hlt=>⟨x',by simp,?_⟩⟩
   rcases q4 with q4|q4
   ·rw[q4]at hb;exact hbx b hb
   ·rw[q4]at hb;simp at hb;omega) (fun N' val'' st''=>by
   refine⟨trivial,⟨e3,xs++news,fun _ _=>False,(fun hk=>by cases hk),by rw[Xal];exact q2,⟨fun b=>by simp,fun _ _ _ _ hb=>hb,fun _ _ _ _ _ _ hb=>hb.elim⟩,fun j hj=>?_⟩⟩
   by_cases hjl:j<l.length
   ·rw[ZKT x1.1 hjl,XbB hjl]
    exact((x3 j hjl).kept (fun b hb=>absurd hb (hFx j b hjl)) (fun _ _ _ hp=>by cases hp)).congr (fun b=>⟨fun hb=>hb.elim,fun hb=>absurd hb (hFx j b hjl)⟩)
   ·have hj':j - l.length<l'.length:=by simp at hj;omega
    rw[ZKS x1.1 (by omega),Xbz (by omega)]
    exact Deep.kept (w:=w) (val:=val'') (fun _ hb=>hb.elim) (fun _ _ _ hp=>by cases hp) (Zun hf (n4 _ hj')))
 have hsl:∃A n c,v' = .slice A n c:=by rcases q2.2 with⟨e1,_⟩|⟨g,c,cur,e1,_⟩<;>exact⟨_,_,_,e1⟩
 exact⟨v',w',val',fp',q1,hstep,hv,hsl⟩
theorem Zz3 (h:Objs Γ val fp st w) {t:Ty} {x:AV} {y0:Nat} {l':List t.den} {v:Value} (hd:ZBq st t x=some (y0,l')) (hx:AvRep w (ZI Γ.X st fp) val st x v):∃e kn,lk st y0=some (.sl e t l' (.deep kn .no))∧v=val y0:=by
 unfold ZBq at hd
 split at hd
 ·rename_i y
  split at hd
  ·rename_i e t' l kn hl
   split at hd
   ·rename_i l0 hl0
    cases hd
    obtain⟨e1,e2⟩:=Ze4 hl0
    subst e1
    obtain rfl:l'=l:=e2
    exact⟨e,kn,hl,(Zbk h hx hl).1⟩
   ·cases hd
  ·cases hd
 ·cases hd
theorem ZHu (hT:ZbB P C.y) (h:Sim Γ val fp ρ st a w) {x y:Operand} {s e:TypeId} (ho:o.op = .call { callee:=.builtin .append,args:=#[x,y],argTypes:=#[s,s] }) (hel:lk C.y.el s=some e) {t:Ty} (ht:lk C.y.ty e=some t)
  (he:ZbD (Zya st o.dst e t (ev1 ρ x) (ev1 ρ y)) k) (hK:Fol Γ val fp st a w o k K):o.wp P a w K Q:=by
 have hx:=ZU h x
 have hy:=ZU h y
 have hu:=hT.el s e hel
 obtain⟨i0,z,dd,hi,hsz,hz,hzc,hby,_,_,hf⟩:=hT.ty e t ht
 have hzs:z.cells.size=t.size:=by
  have h2:=(ZhN (w:=w) (N:=fun _=>False) hf).length
  rw[←hzc]at h2
  simpa using h2
 unfold Zya at he
 split at he
 ·rename_i h1
  rw[h1]at hx
  split at he
  ·rename_i y0 l' hd0
   obtain⟨e1,kn,hl,hv⟩:=Zz3 h.toObjs hd0 hy
   obtain⟨d,hd,hn,hb,hk⟩:=ZmO he
   obtain⟨v',w',val',fp',q1,q2,q3,A',n',c',hsl⟩:=Zz0 (P:=P) (ty:=o.type) (l:=[]) (nx:=[]) (FX:=fun _=>False) (Fx:=fun _ _=>False) h.toObjs hu hi hz hsz hzs hby (World.ownsRow_nil w 0 e t.size) ⟨fun b=>by simp[Value.ownBlock],fun _ _ _ _ hb=>hb,fun _ _ _ _ _ _ hb=>hb.elim⟩ (fun j hj=>absurd hj (by simp)) (fun _ hb=>hb.elim) (fun _ hy=>by cases hy) hl (by simp) (d:=d) hn (by simpa using hb)
   refine ZeM ho (s:=Builtin.append_ #[s,s] o.type #[a.eval x,a.eval y]) (fun cs=>by simp[builtin]) (v:=v') (w':=w') ?_ (hK _ _ _ _ _ _ hk q2 (Zog q3 hsl))
   rw[show a.eval x=_ from hx,hv];exact q1
  ·exact he.elim
 ·rename_i x' _ h1
  rw[h1]at hx
  split at he
  ·rename_i st1 hcl
   obtain⟨fp1,S1⟩:=ZsC h.toObjs hcl
   have hx1:=AvRep.kept S1.kept S1.stays hx
   have hy1:=AvRep.kept S1.kept S1.stays hy
   split at he
   ·rename_i e' t' l y0 l' hl0 hd0
    split at he
    ·rename_i hee
     obtain rfl:=ZR.1 hee
     split at he
     ·exact he.elim
     ·rename_i hne
      split at he
      ·rename_i l0 hc0
       obtain⟨e1,e2⟩:=Ze4 hc0
       subst e1
       obtain rfl:l0=l:=e2
       obtain⟨e1,kn,hl,hv⟩:=Zz3 S1.objs hd0 hy1
       obtain⟨d,hd,hn,hb,hk⟩:=ZmO he
       obtain⟨hvx,_,e2,xs,Fs,r1,r2,r3,r4⟩:=Zbk S1.objs hx1 hl0
       obtain rfl:=r1 rfl
       have hxy:y0∉[x']:=fun hm=>by
        rw[Xah]at hm
        rw[hm,Nat.beq_refl]at hne
        cases hne
       obtain⟨v',w',val',fp',q1,q2,q3,A',n',c',hsl⟩:=Zz0 (P:=P) (ty:=o.type) (nx:=[x']) S1.objs hu hi hz hsz hzs hby r2 r3 (fun j hj=>r4 j hj) (fun b hb=>⟨x',by simp,hb⟩) (fun y hy=>by rw[Xah.1 hy];exact⟨_,_,_,_,hl0⟩) hl hxy (d:=d) hn hb
       refine ZeM ho (s:=Builtin.append_ #[s,s] o.type #[a.eval x,a.eval y]) (fun cs=>by simp[builtin]) (v:=v') (w':=w') ?_ (hK _ _ _ _ _ _ hk (S1.trans q2) (Zog q3 hsl))
       rw[hvx,hv];exact q1
      ·exact he.elim
    ·exact he.elim
   ·exact he.elim
  ·exact he.elim
 ·exact he.elim
theorem ZMI {z:Array Value} {n j:Nat} (hj:j<n):((Builtin.zeroCells z n).toList.drop (j*z.size)).take z.size=z.toList:=by
 have h:Builtin.zeroCells z n=madeCells z (n*z.size):=rfl
 rw[h]
 exact ZAJ hj
theorem ZE0 (hT:ZbB P C.y) (h:Sim Γ val fp ρ st a w) {x y:Operand} {s s':TypeId} (ho:o.op = .call { callee:=.builtin .append,args:=#[x,y],argTypes:=#[s,s'] }) (he:ZbD (Zyc C st o.dst s s' (ev1 ρ x) (ev1 ρ y)) k) (hK:Fol Γ val fp st a w o k K):o.wp P a w K Q:=by
 have hx:=ZU h x
 have hy:=ZU h y
 unfold Zyc at he
 split at he
 ·rename_i e hel hty
  split at he
  ·rename_i t ht
   split at he
   ·rename_i n h1 h2
    rw[h1]at hx
    rw[h2]at hy
    obtain⟨hyv,_⟩:=ZqJ hy
    have hx:a.eval x = .slice none 0 0:=hx
    obtain⟨d,hd,hn,⟨n0,nb⟩,hk⟩:=ZmO he
    have hu:=hT.el s e hel
    obtain⟨_,_,d1,_,_,_,_,_,hu1,hd1,_⟩:=hT.ty s' _ hty
    have hd1:d1 = .int .i64:=hd1
    subst hd1
    obtain⟨i0,z,dd,hi,hsz,hz,hzc,hby,_,_,hf⟩:=hT.ty e t ht
    have hzs:z.cells.size=t.size:=by
     have h2:=(ZhN (w:=w) (N:=fun _=>False) hf).length
     rw[←hzc]at h2
     simpa using h2
    have hpos:=t.size_pos
    obtain⟨m,rfl⟩:∃m:Nat,n=m:=⟨n.toNat,by omega⟩
    have hm:0<m:=by omega
    have hmb:m≤4294967296:=by simp only[Zl]at nb;omega
    have hmm:m≤maxLen:=by simp only[maxLen];omega
    have hbm:m*i0.bytes≤281474976710656:=by
     have:=Nat.mul_le_mul_left m hby
     omega
    have hr:=Lib.run_append_nil_zeros (P:=P) w s s' o.type e i0 z .i64 .i64 hu hu1 hi hz m hm (by omega) (by omega) hbm
    have hge:=grownCap_ge w m 0 e
    have hlen:(List.replicate m t.dflt).length=m:=XaG
    have hzl:(Builtin.zeroCells z.cells m).toList.length=m*t.size:=by rw[XbE,size_zeroCells,hzs]
    obtain⟨val',fp',hstep,hv⟩:=ZqM h.toObjs hn (ob:=.sl e t (List.replicate m t.dflt) .shallow) (v:=.slice (some ⟨w.heap.size,0,none⟩) m (grownCap w m 0 e)) (F:=[w.heap.size])
     (w':=w.drew.alloc (.cells (Builtin.zeroCells z.cells m++Builtin.zeroCells z.cells (grownCap w m 0 e - m)) e)) rfl rfl rfl (Nat.le_succ _) (by simp) (fun b hb=>Below.heap_alloc w.drew _ b hb) (by simp)
     (fun _ _=>⟨(Builtin.zeroCells z.cells m).toList,⟨by rw[hlen];exact hzl,.inr ⟨w.heap.size,grownCap w m 0 e,Builtin.zeroCells z.cells m++Builtin.zeroCells z.cells (grownCap w m 0 e - m),by rw[hlen],Nat.zero_le _,heap_alloc_new w.drew _,by rw[hlen];simpa using hge,grownCap_le_maxLen w m 0 e hmm,by
      rw[Array.size_append,size_zeroCells,size_zeroCells,hzs,←XaH]
      congr 1
      omega,by
      rw[hlen,Array.toList_append,←hzl]
      exact List.take_left⟩⟩,by simp[Value.ownBlock],fun j hj=>by
       rw[←hzs,ZMI (by simpa using hj),List.getElem_replicate,hzc]
       exact ZhN hf⟩)
    refine ZeM ho (s:=Builtin.append_ #[s,s'] o.type #[a.eval x,a.eval y]) (fun cs=>by simp[builtin]) (hr:=?_) (hK _ _ _ _ _ _ (by simpa using hk) hstep (Zog hv rfl))
    rw[hx,hyv];exact hr
   ·exact he.elim
  ·exact he.elim
 ·exact he.elim
theorem Zy6 (hT:ZbB P C.y) (h:Sim Γ val fp ρ st a w) {x y:Operand} {tys:Array TypeId} (ho:o.op = .call { callee:=.builtin .append,args:=#[x,y],argTypes:=tys }) (he:ZbD (Zwd C st o.dst tys.toList (ev1 ρ x) (ev1 ρ y)) k) (hK:Fol Γ val fp st a w o k K):o.wp P a w K Q:=by
 have hx:=ZU h x
 have hy:=ZU h y
 unfold Zwd at he
 split at he
 ·rename_i s s' hs
  have htys:tys = #[s,s']:=by cases tys;simpa using hs
  subst htys
  split at he
  ·rename_i hss
   obtain rfl:=ZR.1 hss
   split at he
   ·rename_i e hel
    split at he
    ·rename_i t ht
     split at he
     ·exact ZHu hT h ho hel ht he hK
     split at he
     ·rename_i l' hl'
      have hu:=hT.el s e hel
      obtain⟨i0,z,dd,hi,hsz,hz,hzc,hby,_,_,hf⟩:=hT.ty e t ht
      have hzs:z.cells.size=t.size:=by
       have h2:=(ZhN (w:=w) (N:=fun _=>False) hf).length
       rw[←hzc]at h2
       simpa using h2
      obtain⟨A,cap,news,n1,n2,n3,n4,n5⟩:=ZJE h.toObjs hl' hy
      split at he
      ·rename_i h1
       rw[h1]at hx
       obtain⟨d,hd,hn,hb,hk⟩:=ZmO he
       obtain⟨v',w',q1,q2,q3,q4,q5⟩:=ZuU (ty:=o.type) (c:=cap) hu hi hz hsz hzs t.size_pos hby (World.ownsRow_nil w 0 e t.size) n2 n3 n5 (by simpa using hb)
       have hblk:∀b,b<w.heap.size→w'.heap[b]? = w.heap[b]? :=fun b hb'=>q3.block b hb' (by simp[Value.ownBlock])
       have hfresh:∀b∈v'.ownBlock.toList,w.heap.size≤b∧b<w'.heap.size:=by
        intro b hb'
        rcases q4 with q4|q4
        ·rw[q4]at hb';simp[Value.ownBlock]at hb'
        ·have:=(q2.lt b (by simpa using hb')).2
         rw[q4]at hb'
         simp at hb'
         omega
       simp only[Nat.zero_add,Xau]at q2
       obtain⟨val',fp',hstep,hv⟩:=ZqM h.toObjs hn (ob:=.sl e t l' .shallow) (v:=v') (F:=v'.ownBlock.toList) q3.os q3.tape q3.output q5 q3.size hblk hfresh
        (fun hk' _=>⟨news,q2,rfl,fun j hj=>(n4 j hj).kept hk'⟩)
       have hsl:∃A n c,v' = .slice A n c:=by rcases q2.2 with⟨e1,_⟩|⟨g,c,cur,e1,_⟩<;>exact⟨_,_,_,e1⟩
       obtain⟨A',n',c',hsl⟩:=hsl
       refine ZeM ho (s:=Builtin.append_ #[s,s] o.type #[a.eval x,a.eval y]) (fun cs=>by simp[builtin]) (v:=v') (w':=w') ?_ (hK _ _ _ _ _ _ hk hstep (Zog hv hsl))
       rw[show a.eval x=_ from hx,n1];exact q1
      ·rename_i x' _ h1
       rw[h1]at hx
       split at he
       ·rename_i e' t' l hl
        split at he
        ·rename_i hee
         obtain rfl:=ZR.1 hee
         split at he
         ·rename_i l0 hl0
          obtain⟨e1,e2⟩:=Ze4 hl0
          subst e1
          obtain rfl:l0=l:=e2
          obtain⟨d,hd,hn,hb,hk⟩:=ZmO he
          obtain⟨hv0,xs,s1,s2,s3⟩:=Zbk h.toObjs hx hl
          obtain⟨v',w',q1,q2,q3,q4,q5⟩:=ZuU (ty:=o.type) (c:=cap) hu hi hz hsz hzs t'.size_pos hby s1 n2 n3 n5 hb
          have hlkd:∀y,lk (Z0 st x' Ob.dead) y=if y=x' then some .dead else lk st y:=fun y=>by rw[Zd4,hl];rfl
          have hdx:d≠x':=fun e0=>by rw[hlkd,if_pos e0]at hn;cases hn
          have hdn:lk st d=none:=by rw[hlkd,if_neg hdx]at hn;exact hn
          have hlk:∀y,lk ((d,Ob.sl e t' (l0++l') .shallow)::Z0 st x' Ob.dead) y=if y=d then some (.sl e t' (l0++l') .shallow)else if y=x' then some .dead else lk st y:=fun y=>by rw[Z2,hlkd]
          have which:∀{y:Nat} {ob:Ob},lk ((d,Ob.sl e t' (l0++l') .shallow)::Z0 st x' Ob.dead) y=some ob→(lk st y=none∨y=x')→y=d∨y=x':=fun {y ob} hy' hn'=>by
           rcases hn' with hn'|hn'
           ·rw[hlk]at hy'
            by_cases e0:y=d
            ·exact .inl e0
            ·rw[if_neg e0]at hy'
             by_cases e1:y=x'
             ·exact .inr e1
             ·rw[if_neg e1,hn']at hy';cases hy'
           ·exact .inr hn'
          have hstep:Step Γ val (fun y=>if y=d then v' else val y) fp (fun y=>if y=d then v'.ownBlock.toList else if y=x' then[]else fp y) st ((d,Ob.sl e t' (l0++l') .shallow)::Z0 st x' Ob.dead) w w':=by
           refine h.toObjs.step (fun y=>y=x') q3.os q3.tape q3.output q5 q3.size (fun b hb' hnb=>q3.block b hb' (fun e0=>hnb x' _ rfl hl (by rw[s2,←e0];simp))) (fun y ob hy' hnn=>?_) (fun y ob hy' hnn=>?_) (fun y ob hy' hnn b hb'=>?_) (fun y z o1 o2 hne hy' hz' hnn hnn' b hb'=>?_) (fun hkept hstay y ob hy' hnn=>?_)
           ·have hnn:¬y=x':=hnn
            have hyd:y≠d:=fun e0=>by rw[e0,hdn]at hy';cases hy'
            rw[hlk,if_neg hyd,if_neg hnn]
            exact⟨hy',by simp[hyd],by simp[hyd,hnn]⟩
           ·have hnn:y=x':=hnn
            subst hnn
            rw[hl]at hy'
            obtain rfl:=Option.some.inj hy'
            exact⟨.dead,by rw[hlk,if_neg hdx.symm,if_pos rfl],(show Compat (.sl _ _ _ _) .dead from trivial),by simp[hdx.symm]⟩
           ·rcases which hy' hnn with rfl|rfl
            ·simp at hb'
             have hlt:=(q2.lt b hb').2
             refine⟨hlt,fun hbl=>⟨x',_,rfl,hl,?_⟩⟩
             rcases q4 with q4|q4
             ·rw[s2,←q4];simpa using hb'
             ·rw[q4]at hb';simp at hb';omega
            ·simp[hdx.symm]at hb'
           ·rcases which hy' hnn with rfl|rfl
            ·rcases which hz' hnn' with rfl|rfl
             ·exact absurd rfl hne
             ·simp[hdx.symm]
            ·simp[hdx.symm]at hb'
           ·rcases which hy' hnn with rfl|rfl
            ·rw[hlk,if_pos rfl]at hy'
             obtain rfl:=Option.some.inj hy'
             simp only[if_true]
             refine⟨xs++news,by rw[Xal];exact q2,rfl,?_⟩
             exact ZJX s1.1 (fun j hj=>(s3 j hj).kept hkept) (fun j hj=>(n4 j hj).kept hkept)
            ·rw[hlk,if_neg hdx.symm,if_pos rfl]at hy'
             obtain rfl:=Option.some.inj hy'
             show _=_
             simp[hdx.symm]
          have hsl:∃A n c,v' = .slice A n c:=by rcases q2.2 with⟨e1,_⟩|⟨g,c,cur,e1,_⟩<;>exact⟨_,_,_,e1⟩
          obtain⟨A',n',c',hsl⟩:=hsl
          refine ZeM ho (s:=Builtin.append_ #[s,s] o.type #[a.eval x,a.eval y]) (fun cs=>by simp[builtin]) (v:=v') (w':=w') ?_ (hK _ _ _ _ _ _ hk hstep (Zog (by simp) hsl))
          rw[hv0,n1];exact q1
         ·exact he.elim
        ·exact he.elim
       ·rename_i e' t' l kn hl
        split at he
        ·rename_i hf
         split at he
         ·rename_i l0 hl0
          obtain⟨e1,e2⟩:=Ze4 hl0
          subst e1
          obtain rfl:l0=l:=e2
          obtain⟨d,hd,hn,hb,hk⟩:=ZmO he
          obtain⟨hv0,_⟩:=Zbk h.toObjs hx hl
          obtain⟨v',w',val',fp',q1,q2,q3,A',n',c',hsl⟩:=ZHv (P:=P) (ty:=o.type) (c:=cap) h.toObjs hu hi hz hsz hzs hby hf hl n2 n3 n4 n5 (d:=d) hn hb
          refine ZeM ho (s:=Builtin.append_ #[s,s] o.type #[a.eval x,a.eval y]) (fun cs=>by simp[builtin]) (v:=v') (w':=w') ?_ (hK _ _ _ _ _ _ hk q2 (Zog q3 hsl))
          rw[hv0,n1];exact q1
         ·exact he.elim
        ·exact he.elim
       ·exact he.elim
      ·exact he.elim
     ·exact he.elim
    ·exact he.elim
   ·exact he.elim
  ·exact ZE0 hT h ho he hK
 ·exact he.elim
end
end Go.AE
namespace Go.AE
open Go Go.RowKit
def ZrY (st:St) (fp:Nat→List Nat) (b:Nat):Prop:=∃x o,lk st x=some o∧b∈fp x
def ZJl (P:Program) (f:FuncId) (con:Con):Prop:=
 ∀(args:List AV) (st:St) (k:AV→St→Prop),ZbD (con args st) k→∀(X:Nat→Prop) (n:Nat) (val:Nat→Value) (fp:Nat→List Nat) (w:World) (vs:Array Value),
  Objs ⟨w,X,ZrY st fp,n⟩ val fp st w→All2 (AvRep w (ZI X st fp) val st) args vs.toList →
  Calls P f vs w fun e w'=>∃v av st' val' fp',e = .returned v∧k av st'∧Objs ⟨w,X,ZrY st fp,n⟩ val' fp' st' w'∧Stays val val' st st'∧AvRep w' (ZI X st' fp') val' st' av v
theorem Zk2:∀{ns:List Nat} {x i:Nat},Zfv ns x=some i→ns[i]? = some x
 |y::r,x,i,h=>by
  unfold Zfv at h
  split at h
  ·rename_i he
   cases h
   simp[ZR.1 he]
  ·split at h
   ·rename_i j hj
    cases h
    simpa using Zk2 hj
   ·cases h
theorem ZyP:∀{ns:List Nat} {x:Nat},x∈ns→Zfv ns x≠none
 |y::r,x,h=>by
  unfold Zfv
  split
  ·simp
  ·rename_i hb
   rcases XaA.1 h with rfl|hm
   ·rw[Nat.beq_refl]at hb;cases hb
   ·have:=ZyP hm
    split
    ·simp
    ·rename_i hnone;exact absurd hnone this
theorem ZC7 {ns:List Nat} {st:St}:∀{l:List Nat} {j i:Nat},lk (Zd0 ns st j l) i=if i<j then none else(l[i - j]?).bind fun x=>(lk st x).map (Zq0 ns st)
 |[],j,i=>by simp[Zd0,lk]
 |x::r,j,i=>by
  unfold Zd0
  cases hx:lk st x with
  |some o=>
   simp only
   rw[Z2,ZC7 (l:=r)]
   by_cases h1:i=j
   ·subst h1;simp[hx]
   ·rw[if_neg h1]
    by_cases h2:i<j
    ·rw[if_pos (by omega),if_pos h2]
    ·rw[if_neg (by omega),if_neg h2,show i - j=(i - (j+1))+1 from by omega,List.getElem?_cons_succ]
  |none=>
   simp only
   rw[ZC7 (l:=r)]
   by_cases h1:i=j
   ·subst h1;simp[hx]
   ·by_cases h2:i<j
    ·rw[if_pos (by omega),if_pos h2]
    ·rw[if_neg (by omega),if_neg h2,show i - j=(i - (j+1))+1 from by omega,List.getElem?_cons_succ]
theorem Zk1 {ns:List Nat} {st:St} {i:Nat}:lk (Zd0 ns st 0 ns) i=(ns[i]?).bind fun x=>(lk st x).map (Zq0 ns st):=by
 rw[ZC7];simp
theorem ZBl {st:St}:∀{l:List Nat},ZE6 st l=true→∀x∈l,∃o,lk st x=some o
 |y::r,h,x,hx=>by
  unfold ZE6 at h
  split at h
  ·rename_i o ho
   rcases XaA.1 hx with rfl|hx
   ·exact⟨o,ho⟩
   ·exact ZBl h x hx
  ·cases h
theorem ZuR:∀{l:List Nat},Zvp l=true→l.Nodup
 |[],_=>List.nodup_nil
 |x::r,h=>by
  simp only[Zvp,Xae,XaX,List.contains_eq_mem]at h
  exact Xba.2 ⟨by simpa using h.1,ZuR h.2⟩
section
variable {P:Program} {C:Cfg} {Γ:Ctx} {val val' val'':Nat→Value} {fp fp' fp'':Nat→List Nat} {ρ:Env} {st st' st'':St} {a:Act} {w w' w'':World} {o:Oper} {k:AV→St→Prop} {K:Act→World→Prop} {Q:Exit→Act→World→Prop}
def ZoJ (ns:List Nat) (val:Nat→Value) (i:Nat):Value:=match ns[i]? with|some x=>val x|none=>undef
def ZlW (ns:List Nat) (fp:Nat→List Nat) (i:Nat):List Nat:=match ns[i]? with|some x=>fp x|none=>[]
def ZoO (Γ:Ctx) (st:St) (fp:Nat→List Nat) (ns:List Nat) (lent:Bool) (b:Nat):Prop:=
 Γ.X b∨(lent=false∧∃y o,lk st y=some o∧y∉ns∧b∈fp y)
theorem ZyE {ns:List Nat} {st:St}:∀o:Ob,Compat (Zq0 ns st o) o∧Compat o (Zq0 ns st o)
 | .sl _ _ _ _=>⟨And.intro rfl (And.intro rfl rfl),And.intro rfl (And.intro rfl rfl)⟩
 | .rc _=>⟨trivial,trivial⟩
 | .dead=>⟨trivial,trivial⟩
theorem ZMm {ns:List Nat} {lent:Bool} {b:Nat} (h:ZI (ZoO Γ st fp ns lent) (Zd0 ns st 0 ns) (ZlW ns fp) b):ZI Γ.X st fp b:=by
 rcases h with(h|⟨_,y,o,h1,_,h2⟩)|⟨i,o,h1,h2⟩
 ·exact .inl h
 ·exact .inr ⟨y,o,h1,h2⟩
 ·rw[Zk1]at h1
  cases hi:ns[i]? with
  |none=>rw[hi]at h1;cases h1
  |some x=>
   rw[hi]at h1
   simp only[XaP,Xbr]at h1
   obtain⟨o',h3,_⟩:=h1
   simp only[ZlW,hi]at h2
   exact .inr ⟨x,o',h3,h2⟩
theorem Zps {ns:List Nat} {lent:Bool}:Kept w w (ZI Γ.X st fp) (ZI (ZoO Γ st fp ns lent) (Zd0 ns st 0 ns) (ZlW ns fp)):=
 ⟨Nat.le_refl _,fun _ _ _=>rfl,fun _ _ h=>ZMm h⟩
theorem ZIh {ns:List Nat}:∀{cap l:List Nat} {vs:List Value},ZyO ns cap=some l→fnCaps val st cap vs→fnCaps (ZoJ ns val) (Zd0 ns st 0 ns) l vs
 |[],l,[],h,_=>by cases h;trivial
 |x::r,l,v::vs,h,⟨⟨cs,g,h1,h2,h3⟩,hr⟩=>by
  unfold ZyO at h
  split at h
  ·rename_i i l' hi hl
   cases h
   have hx:=Zk2 hi
   exact⟨⟨Zws ns st [] cs,g,by rw[Zk1,hx];simp[h1,Zq0],by simp only[ZoJ,hx];exact h2,h3⟩,ZIh hl hr⟩
  ·cases h
 |[],_,_::_,_,h=>h.elim
 |_::_,_,[],_,h=>h.elim
theorem ZAF (h:Objs Γ val fp st w) {ns:List Nat} {lent:Bool} {t:Option Ty} {x:CV} {v:Value} (hl:lent=false→Zmg ns st [x]=false) (hx:CvRep w (ZI Γ.X st fp) val st x v) :
  CvRep w (ZI (ZoO Γ st fp ns lent) (Zd0 ns st 0 ns) (ZlW ns fp)) (ZoJ ns val) (Zd0 ns st 0 ns) (ZyD ns st t x) v:=by
 cases x with
 |int k n=>exact hx
 |bool b=>exact hx
 |kb b=>exact(show v = .bool b from hx)
 |str s=>exact hx
 |skip=>exact hx
 |undef=>trivial
 |nil=>
  unfold ZyD
  dsimp only
  split
  ·rw[show v=_ from hx]
   exact⟨none,0,rfl,Nat.le_refl _,Nat.zero_le _,fun h=>absurd h (by simp)⟩
  ·exact hx
 |imm t' l=>exact Imm.kept (t:=.sl t') Zps hx
 |own y n=>
  unfold ZyD
  dsimp only
  cases hp:Zfv ns y with
  |some i=>
   have hi:=Zk2 hp
   obtain⟨hs,o',h1,h2,hn⟩:=hx
   refine And.intro hs ⟨Zq0 ns st o',by rw[Zk1,hi];simp[h1],?_,hn.compat (ZyE o').2⟩
   rcases h2 with rfl|h2
   ·exact .inl rfl
   ·exact .inr (by simp only[ZoJ,hi];exact h2)
  |none=>
   dsimp only
   split
   ·rename_i e t' l hy
    obtain⟨h1,h2⟩:=Zbk (v:=v) h hx hy
    have hlent:lent=true:=by
     cases lent with
     |true=>rfl
     |false=>
      have:=hl rfl
      simp[Zmg,hp,hy]at this
    subst hlent
    show Imm w _ (.sl t') l [v]
    rw[h1]
    refine(ZAe h2 (fun b hb hn=>?_) (fun hi=>hi.kept Zps)).1
    rcases hn with(hX|⟨hf,_⟩)|⟨i,o',h3,h4⟩
    ·exact(h.own y _ hy b hb).2.1 hX
    ·cases hf
    ·rw[Zk1]at h3
     cases hi:ns[i]? with
     |none=>rw[hi]at h3;cases h3
     |some z=>
      rw[hi]at h3
      simp only[XaP,Xbr]at h3
      obtain⟨oz,h5,_⟩:=h3
      simp only[ZlW,hi]at h4
      refine h.apart y z _ oz (fun e0=>?_) hy h5 b hb h4
      subst e0
      exact ZyP (XaZ hi) hp
   ·rename_i e t' l hy
    obtain⟨h1,h2⟩:=Zbk (v:=v) h hx hy
    show Imm w _ (.sl t') l [v]
    rw[h1]
    exact Imm.kept (t:=.sl t') Zps h2.2.1
   ·rename_i e t' l kn hy
    obtain⟨h1,h2⟩:=Zbk (v:=v) h hx hy
    have hlent:lent=true:=by
     cases lent with
     |true=>rfl
     |false=>
      have:=hl rfl
      simp[Zmg,hp,hy]at this
    subst hlent
    show Imm w _ (.sl t') l [v]
    rw[h1]
    refine(ZFJ h2 (fun b hb hn=>?_)).1
    rcases hn with(hX|⟨hf,_⟩)|⟨i,o',h3,h4⟩
    ·exact(h.own y _ hy b hb).2.1 hX
    ·cases hf
    ·rw[Zk1]at h3
     cases hi:ns[i]? with
     |none=>rw[hi]at h3;cases h3
     |some z=>
      rw[hi]at h3
      simp only[XaP,Xbr]at h3
      obtain⟨oz,h5,_⟩:=h3
      simp only[ZlW,hi]at h4
      refine h.apart y z _ oz (fun e0=>?_) hy h5 b hb h4
      subst e0
      exact ZyP (XaZ hi) hp
   ·trivial
 |iptr t' d c=>trivial
 |eptr y i c=>trivial
 |view y i=>trivial
 |ptr y c=>
  unfold ZyD
  dsimp only
  cases hp:Zfv ns y with
  |none=>trivial
  |some i=>
   have hi:=Zk2 hp
   obtain⟨cs,g,h1,h2,h3⟩:=hx
   exact⟨Zws ns st [] cs,g,by rw[Zk1,hi];simp[h1,Zq0],by simp only[ZoJ,hi];exact h2,h3⟩
 |fn f cap=>
  unfold ZyD
  dsimp only
  cases hp:ZyO ns cap with
  |none=>trivial
  |some l=>
   obtain⟨vs,h1,h2⟩:=hx
   exact⟨vs,h1,ZIh hp h2⟩
theorem ZsM {ns:List Nat} {y:CV} {r:List CV} (h:Zmg ns st (y::r)=false):Zmg ns st [y]=false∧Zmg ns st r=false:=by
 cases y<;>try exact⟨rfl,h⟩
 rename_i z _
 simp only[Zmg]at h ⊢
 cases hi:Zfv ns z with
 |some i=>rw[hi]at h;exact⟨rfl,h⟩
 |none=>
  rw[hi]at h
  dsimp only at h ⊢
  split at h
  ·exact⟨rfl,h⟩
  ·cases h
theorem Zuv (h:Objs Γ val fp st w) {ns:List Nat} {lent:Bool}:∀{ts:List Ty} {l:List CV} {vs:List Value},(lent=false→Zmg ns st l=false)→All2 (CvRep w (ZI Γ.X st fp) val st) l vs →
  All2 (CvRep w (ZI (ZoO Γ st fp ns lent) (Zd0 ns st 0 ns) (ZlW ns fp)) (ZoJ ns val) (Zd0 ns st 0 ns)) (Zws ns st ts l) vs
 |ts,[],[],_,_=>by cases ts<;>trivial
 |[],x::l,v::vs,hl,⟨h1,h2⟩=>⟨ZAF h (fun e=>(ZsM (hl e)).1) h1,Zuv (ts:=[]) h (fun e=>(ZsM (hl e)).2) h2⟩
 |t::ts,x::l,v::vs,hl,⟨h1,h2⟩=>⟨ZAF h (fun e=>(ZsM (hl e)).1) h1,Zuv (ts:=ts) h (fun e=>(ZsM (hl e)).2) h2⟩
 |_,[],_::_,_,h=>h.elim
 |_,_::_,[],_,h=>h.elim
theorem ZD5 (h:Objs Γ val fp st w) {ns:List Nat} {lent:Bool} {t:Option Ty} {x:AV} {v:Value} (hl:lent=false→ZyF ns st x=false) (ht:∀l,x ≠ .tup l) (hx:AvRep w (ZI Γ.X st fp) val st x v) :
  AvRep w (ZI (ZoO Γ st fp ns lent) (Zd0 ns st 0 ns) (ZlW ns fp)) (ZoJ ns val) (Zd0 ns st 0 ns) (ZJD ns st t x) v:=by
 cases x with
 |c x=>exact ZAF h hl hx
 |agg l=>
  obtain⟨vs,h1,h2⟩:=hx
  exact⟨vs,h1,Zuv h hl h2⟩
 |tup l=>exact absurd rfl (ht l)
theorem Zty (h:Objs Γ val fp st w) {ns:List Nat} {lent:Bool}:∀{ts:List TypeId} {l:List AV} {vs:List Value},(lent=false→∀x∈l,ZyF ns st x=false)→(∀x∈l,∀r,x ≠ .tup r)→All2 (AvRep w (ZI Γ.X st fp) val st) l vs →
  All2 (AvRep w (ZI (ZoO Γ st fp ns lent) (Zd0 ns st 0 ns) (ZlW ns fp)) (ZoJ ns val) (Zd0 ns st 0 ns)) (Zwr C ns st ts l) vs
 |ts,[],[],_,_,_=>by cases ts<;>trivial
 |[],x::l,v::vs,hl,ht,⟨h1,h2⟩=>⟨ZD5 h (fun e=>hl e x (by simp)) (ht x (by simp)) h1,Zty (ts:=[]) h (fun e y hy=>hl e y (by simp[hy])) (fun y hy=>ht y (by simp[hy])) h2⟩
 |t::ts,x::l,v::vs,hl,ht,⟨h1,h2⟩=>⟨ZD5 h (fun e=>hl e x (by simp)) (ht x (by simp)) h1,Zty (ts:=ts) h (fun e y hy=>hl e y (by simp[hy])) (fun y hy=>ht y (by simp[hy])) h2⟩
 |_,[],_::_,_,_,h=>h.elim
 |_,_::_,[],_,_,h=>h.elim
theorem ZKB (h:Objs Γ val fp st w) {ns:List Nat} {lent:Bool} (n:Nat) (hnd:ns.Nodup) (hl:lent=false→∀x∈ns,ZyG ns st x=false) (hop:∀x∈ns,ZBX st x=false) :
  Objs ⟨w,ZoO Γ st fp ns lent,ZrY (Zd0 ns st 0 ns) (ZlW ns fp),n⟩ (ZoJ ns val) (ZlW ns fp) (Zd0 ns st 0 ns) w:=by
 have at_:∀{i:Nat} {o:Ob},lk (Zd0 ns st 0 ns) i=some o→∃x o',ns[i]? = some x∧lk st x=some o'∧o=Zq0 ns st o':=by
  intro i o hi
  rw[Zk1]at hi
  cases hx:ns[i]? with
  |none=>rw[hx]at hi;cases hi
  |some x=>
   rw[hx]at hi
   simp only[XaP,Xbr]at hi
   obtain⟨o',h1,h2⟩:=hi
   exact⟨x,o',rfl,h1,h2.symm⟩
 refine⟨⟨rfl,rfl,rfl,Nat.le_refl _,Nat.le_refl _,fun _ _ _=>rfl⟩,fun i o hi=>?_,fun i o hi b hb=>?_,fun i j o o' hne hi hj b hb hb'=>?_,fun b hb=>?_⟩
 ·obtain⟨x,o',h1,h2,rfl⟩:=at_ hi
  have hr:=h.rep x o' h2
  simp only[ZoJ,ZlW,h1]
  cases o' with
  |dead=>exact hr
  |rc cs=>
   obtain⟨g,cur,e,q1,q2,q3,q4⟩:=hr
   exact⟨g,cur,e,q1,q2,q3,Zuv h (fun e0=>by have:=hl e0 x (XaZ h1);simpa [ZyG,h2]using this) q4⟩
  |sl e t l kd=>
   cases kd with
   |deep kn hh=>
    cases hh with
    |no=>
     obtain⟨_,e',xs,Fs,q1,q2,q3,q4⟩:=hr
     exact⟨trivial,e',xs,Fs,q1,q2,q3,fun j hj=>(q4 j hj).kept (fun _ _=>rfl) (fun _ _ _ hp=>by cases hp)⟩
    | _=>
     have:=hop x (XaZ h1)
     simp[ZBX,h2,Zzs,Zq2]at this
   |frozen=>exact⟨hr.1,Imm.kept (t:=.sl t) Zps hr.2.1,hr.2.2⟩
   |mix kk=>
    obtain⟨q0,xs,Fs,q1,q2,q3,q4⟩:=hr
    exact⟨q0,xs,Fs,q1,q2,fun j hj hjk=>(q3 j hj hjk).kept (fun _ _=>rfl) (fun _ _ _ hp=>by cases hp),fun j hj hjk=>(q4 j hj hjk).kept Zps⟩
   |shallow=>
    obtain⟨xs,q1,q2,q3⟩:=hr
    exact⟨xs,q1,q2,fun j hj=>(q3 j hj).kept Zps⟩
 ·obtain⟨x,o',h1,h2,rfl⟩:=at_ hi
  have hb':=hb
  simp only[ZlW,h1]at hb
  obtain⟨p1,p2,p3⟩:=h.own x o' h2 b hb
  refine⟨p1,?_,.inl ⟨i,_,hi,hb'⟩⟩
  rintro(hX|⟨_,y,oy,h3,h4,h5⟩)
  ·exact p2 hX
  ·exact h.apart x y o' oy (fun e0=>h4 (e0▸XaZ h1)) h2 h3 b hb h5
 ·obtain⟨x,ox,h1,h2,rfl⟩:=at_ hi
  obtain⟨y,oy,h3,h4,rfl⟩:=at_ hj
  simp only[ZlW,h1]at hb
  simp only[ZlW,h3]at hb'
  refine h.apart x y ox oy (fun e0=>hne ?_) h2 h4 b hb hb'
  subst e0
  obtain⟨hi',_⟩:=Xbn.1 h1
  exact(List.getElem?_inj hi' hnd).1 (h1.trans h3.symm)
 ·rcases hb with hX|⟨_,y,oy,h3,_,h5⟩
  ·exact XaS (h.low b hX) h.fr.size
  ·exact(h.own y oy h3 b h5).1
end
end Go.AE
namespace Go.AE
open Go Go.RowKit
section
variable {P:Program} {C:Cfg} {Γ:Ctx} {val val' val'':Nat→Value} {fp fp' fp'':Nat→List Nat} {ρ:Env} {st st' st'':St} {a:Act} {w w' w'':World} {o:Oper} {k:AV→St→Prop} {K:Act→World→Prop} {Q:Exit→Act→World→Prop}
def ZOH (ns:List Nat) (d i:Nat):Prop:=ns.length≤i∧back ns d i=(d+1)*1000+i
theorem ZL3 {ns:List Nat} {d i:Nat} (h:ns.length≤i):back ns d i=(d+1)*1000+i:=by
 unfold back
 rw[Xaw h]
theorem Ztq {ns:List Nat} {d i x:Nat} (h:ns[i]? = some x):back ns d i=x:=by
 unfold back
 rw[h]
theorem Zx5 {ns:List Nat} {d:Nat} {sc:St}:∀{l:List Nat} {j:Nat} {st st1:St},Zu8 ns d sc st j l=some st1→l.Nodup→(∀x∈l,∃o,lk st x=some o) →
  (∀i x,l[i]? = some x→∃o,lk sc (j+i)=some o∧lk st1 x=some (Zg1 ns d o))∧(∀x,x∉l→lk st1 x=lk st x)
 |[],j,st,st1,h,_,_=>by
  simp only[Zu8,Option.some.injEq]at h
  subst h
  exact⟨fun i x h=>by simp at h,fun _ _=>rfl⟩
 |y::r,j,st,st1,h,hnd,hin=>by
  unfold Zu8 at h
  split at h
  ·rename_i o ho
   obtain⟨hy,hr⟩:=Xba.1 hnd
   have hin':∀x∈r,∃o',lk (Z0 st y (Zg1 ns d o)) x=some o':=fun x hx=>by
    rw[Zd4,if_neg (fun (e:x=y)=>hy (by subst e;exact hx))]
    exact hin x (by simp[hx])
   obtain⟨h1,h2⟩:=Zx5 h hr hin'
   refine⟨fun i x hi=>?_,fun x hx=>?_⟩
   ·cases i with
    |zero=>
     simp only[List.getElem?_cons_zero,Option.some.injEq]at hi
     subst hi
     refine⟨o,ho,?_⟩
     rw[h2 y hy,Zd4,if_pos rfl]
     obtain⟨o',ho'⟩:=hin y (by simp)
     rw[ho'];rfl
    |succ i=>
     obtain⟨o',h3,h4⟩:=h1 i x (by simpa using hi)
     exact⟨o',by rw[←h3];congr 1;omega,h4⟩
   ·rw[h2 x (fun hm=>hx (by simp[hm])),Zd4,if_neg (fun e=>hx (by simp[e]))]
  ·cases h
theorem Ztp {ns:List Nat} {d:Nat}:∀{sc st st1:St},ZsR ns d st sc=some st1 →
  (∀i o,ns.length≤i→lk sc i=some o→lk st (back ns d i)=none∧lk st1 (back ns d i)=some (Zg1 ns d o)) ∧
  (∀x o,lk st x=some o→lk st1 x=some o) ∧
  (∀x o,lk st1 x=some o→lk st x=some o∨∃i o',ns.length≤i∧x=back ns d i∧lk sc i=some o'∧o=Zg1 ns d o')
 |[],st,st1,h=>by
  simp only[ZsR,Option.some.injEq]at h
  subst h
  exact⟨fun i o _ h=>by simp[lk]at h,fun _ _ h=>h,fun _ _ h=>.inl h⟩
 |(i0,o0)::r,st,st1,h=>by
  unfold ZsR at h
  split at h
  ·rename_i hb
   have hlt:=Zeq hb
   obtain⟨h1,h2,h3⟩:=Ztp h
   refine⟨fun i o hi ho=>?_,h2,fun x o hx=>?_⟩
   ·rw[Z2,if_neg (by omega)]at ho
    exact h1 i o hi ho
   ·rcases h3 x o hx with h4|⟨i,o',q1,q2,q3,q4⟩
    ·exact .inl h4
    ·exact .inr ⟨i,o',q1,q2,by rw[Z2,if_neg (by omega)];exact q3,q4⟩
  ·rename_i hb
   have hle:ns.length≤i0:=by
    rcases Xag i0 ns.length with hlt|hge
    ·exact absurd hb (by simp[Nat.blt_eq,hlt])
    ·exact hge
   split at h
   ·rename_i hn
    obtain⟨h1,h2,h3⟩:=Ztp h
    have hself:=h2 (back ns d i0) (Zg1 ns d o0) (by rw[Z2,if_pos rfl])
    refine⟨fun i o hi ho=>?_,fun x o hx=>h2 x o ?_,fun x o hx=>?_⟩
    ·rw[Z2]at ho
     by_cases e:i=i0
     ·rw[if_pos e]at ho
      cases ho
      subst e
      exact⟨hn,hself⟩
     ·rw[if_neg e]at ho
      obtain⟨q1,q2⟩:=h1 i o hi ho
      rw[Z2]at q1
      split at q1
      ·cases q1
      ·exact⟨q1,q2⟩
    ·rw[Z2,if_neg (fun e=>by rw[e,hn]at hx;cases hx)]
     exact hx
    ·rcases h3 x o hx with h4|⟨i,o',q1,q2,q3,q4⟩
     ·rw[Z2]at h4
      split at h4
      ·rename_i e
       cases h4
       exact .inr ⟨i0,o0,hle,e,by rw[Z2,if_pos rfl],rfl⟩
      ·exact .inl h4
     ·refine .inr ⟨i,o',q1,q2,?_,q4⟩
      rw[Z2]
      by_cases e:i=i0
      ·exfalso
       subst e
       have:=(h1 i o' q1 q3).1
       rw[Z2,if_pos rfl]at this
       cases this
      ·rw[if_neg e];exact q3
   ·cases h
theorem Zz1 {ns:List Nat} {d:Nat} {sc:St} (h:ZBm ns d st sc=some st'') (hnd:ns.Nodup) (hin:∀x∈ns,∃o,lk st x=some o) :
  (∀i o,lk sc i=some o→lk st'' (back ns d i)=some (Zg1 ns d o)) ∧
  (∀i x,ns[i]? = some x→∃o,lk sc i=some o) ∧
  (∀i o,ns.length≤i→lk sc i=some o→lk st (back ns d i)=none) ∧
  (∀x,x∉ns→∀o,lk st x=some o→lk st'' x=some o) ∧
  (∀x o,lk st'' x=some o→(x∉ns∧lk st x=some o)∨∃i o',x=back ns d i∧lk sc i=some o'∧o=Zg1 ns d o'):=by
 unfold ZBm at h
 split at h
 ·rename_i st1 h0
  obtain⟨a1,a2⟩:=Zx5 h0 hnd hin
  obtain⟨b1,b2,b3⟩:=Ztp h
  have hnone:∀x,lk st1 x=none→lk st x=none:=fun x hx=>by
   by_cases hm:x∈ns
   ·obtain⟨i,hi⟩:=List.getElem?_of_mem hm
    obtain⟨o,_,q⟩:=a1 i x hi
    rw[q]at hx;cases hx
   ·rw[←a2 x hm];exact hx
  refine⟨fun i o ho=>?_,fun i x hi=>?_,fun i o hi ho=>hnone _ (b1 i o hi ho).1,fun x hx o ho=>b2 x o (by rw[a2 x hx];exact ho),fun x o hx=>?_⟩
  ·cases hi:ns[i]? with
   |none=>
    have hle:ns.length≤i:=List.getElem?_eq_none_iff.1 hi
    exact(b1 i o hle ho).2
   |some x=>
    obtain⟨o',q1,q2⟩:=a1 i x hi
    rw[Nat.zero_add]at q1
    rw[q1]at ho
    cases ho
    rw[Ztq hi]
    exact b2 x _ q2
  ·obtain⟨o,q1,_⟩:=a1 i x hi
   exact⟨o,by simpa using q1⟩
  ·rcases b3 x o hx with q|⟨i,o',_,q2,q3,q4⟩
   ·by_cases hm:x∈ns
    ·obtain⟨i,hi⟩:=List.getElem?_of_mem hm
     obtain⟨o',p1,p2⟩:=a1 i x hi
     rw[p2]at q
     cases q
     exact .inr ⟨i,o',(Ztq hi).symm,by simpa using p1,rfl⟩
    ·rw[a2 x hm]at q
     exact .inl ⟨hm,q⟩
   ·exact .inr ⟨i,o',q2,q3,q4⟩
 ·cases h
def valB (ns:List Nat) (d:Nat) (st:St) (val valc:Nat→Value) (x:Nat):Value:=
 match Zfv ns x with
 |some i=>valc i
 |none=>match lk st x with
  |some _=>val x
  |none=>valc (x - (d+1)*1000)
def fpB (ns:List Nat) (d:Nat) (st:St) (fp fpc:Nat→List Nat) (x:Nat):List Nat:=
 match Zfv ns x with
 |some i=>fpc i
 |none=>match lk st x with
  |some _=>fp x
  |none=>fpc (x - (d+1)*1000)
theorem ZGA:∀{ns:List Nat} {i x:Nat},ns.Nodup→ns[i]? = some x→Zfv ns x=some i
 |y::r,i,x,hnd,h=>by
  obtain⟨hy,hr⟩:=Xba.1 hnd
  unfold Zfv
  cases i with
  |zero=>
   simp only[List.getElem?_cons_zero,Option.some.injEq]at h
   subst h
   rw[Nat.beq_refl]
  |succ i=>
   have h':r[i]? = some x:=by simpa using h
   have hne:Nat.beq y x=false:=by
    cases hb:Nat.beq y x with
    |false=>rfl
    |true=>exact absurd (ZR.1 hb▸XaZ h') hy
   rw[hne]
   dsimp only
   rw[ZGA hr h']
structure Back (Γ:Ctx) (val valc:Nat→Value) (fp fpc:Nat→List Nat) (ns:List Nat) (d n:Nat) (lent:Bool) (st sc st'':St) (w w':World):Prop where
 caller:Objs Γ val fp st w
 nodup:ns.Nodup
 there:∀x∈ns,∃o,lk st x=some o
 callee:Objs ⟨w,ZoO Γ st fp ns lent,ZrY (Zd0 ns st 0 ns) (ZlW ns fp),n⟩ valc fpc sc w'
 stays:Stays (ZoJ ns val) valc (Zd0 ns st 0 ns) sc
 laid:ZBm ns d st sc=some st''
variable {valc:Nat→Value} {fpc:Nat→List Nat} {ns:List Nat} {d n:Nat} {lent:Bool} {sc:St}
theorem Back.valB (b:Back Γ val valc fp fpc ns d n lent st sc st'' w w') {i:Nat} {o:Ob} (hi:lk sc i=some o):valB ns d st val valc (back ns d i)=valc i∧fpB ns d st fp fpc (back ns d i)=fpc i:=by
 cases hx:ns[i]? with
 |some x=>
  rw[Ztq hx]
  simp only[AE.valB,fpB,ZGA b.nodup hx,and_self]
 |none=>
  have hle:ns.length≤i:=List.getElem?_eq_none_iff.1 hx
  have hn:=(Zz1 b.laid b.nodup b.there).2.2.1 i o hle hi
  have hp:Zfv ns (back ns d i)=none:=by
   cases hp:Zfv ns (back ns d i)with
   |none=>rfl
   |some j=>
    obtain⟨o',ho'⟩:=b.there _ (XaZ (Zk2 hp))
    rw[ho']at hn;cases hn
  simp only[AE.valB,fpB,hp,hn]
  rw[ZL3 hle,Nat.add_sub_cancel_left]
  exact⟨rfl,rfl⟩
theorem ZG5 {x:Nat} (hx:x∉ns) {o:Ob} (ho:lk st x=some o):valB ns d st val valc x=val x:=by
 have hp:Zfv ns x=none:=by
  cases hp:Zfv ns x with
  |none=>rfl
  |some j=>exact absurd (XaZ (Zk2 hp)) hx
 simp only[valB,hp,ho]
theorem ZqI {x:Nat} (hx:x∉ns) {o:Ob} (ho:lk st x=some o):fpB ns d st fp fpc x=fp x:=by
 have hp:Zfv ns x=none:=by
  cases hp:Zfv ns x with
  |none=>rfl
  |some j=>exact absurd (XaZ (Zk2 hp)) hx
 simp only[fpB,hp,ho]
theorem Zx4 (o:Ob):Compat o (Zg1 ns d o):=by
 cases o with
 |sl e t l k=>exact And.intro rfl (And.intro rfl rfl)
 |rc cs=>trivial
 |dead=>trivial
theorem ZIg (hb:∀i o,lk sc i=some o→lk st'' (back ns d i)=some (Zg1 ns d o)) (hv:∀i o,lk sc i=some o→val'' (back ns d i)=valc i) :
  ∀{cap:List Nat} {vs:List Value},fnCaps valc sc cap vs→fnCaps val'' st'' (cap.map (back ns d)) vs
 |[],[],_=>trivial
 |_::_,_::_,⟨⟨_,g,h1,h2,h3⟩,hr⟩=>⟨⟨_,g,hb _ _ h1,(hv _ _ h1).trans h2,h3⟩,ZIg hb hv hr⟩
 |[],_::_,h=>h.elim
 |_::_,[],h=>h.elim
theorem ZCT {N N':Nat→Prop} (hb:∀i o,lk sc i=some o→lk st'' (back ns d i)=some (Zg1 ns d o)) (hv:∀i o,lk sc i=some o→val'' (back ns d i)=valc i)
  {x:CV} {v:Value} (hk:Zj5 [x]=false∨Kept w w N N') (h:CvRep w N valc sc x v):CvRep w N' val'' st'' (ZpH ns d x) v:=by
 cases x with
 |int k n=>exact h
 |bool b=>exact h
 |kb b=>exact h
 |str s=>exact h
 |nil=>exact h
 |skip=>exact h
 |undef=>trivial
 |imm t l=>
  rcases hk with hk|hk
  ·cases hk
  ·exact Imm.kept (t:=.sl t) hk h
 |iptr t e c=>
  rcases hk with hk|hk
  ·cases hk
  ·obtain⟨b,o,es,h1,h2,h3,h4,h5⟩:=h
   exact⟨b,o,es,h1,fun hn=>h2 (hk.more b h3 hn),h3,h4,h5.kept hk⟩
 |own i n=>
  obtain⟨hs,o,h1,h2,hn⟩:=h
  refine And.intro hs ⟨_,hb i o h1,?_,hn.compat (Zx4 o)⟩
  rcases h2 with rfl|h2
  ·exact .inl rfl
  ·exact .inr (h2.trans (hv i o h1).symm)
 |eptr i j c=>
  obtain⟨hp,o,h1,h2⟩:=h
  refine And.intro hp ⟨_,hb i o h1,fun e t l kd ho=>?_⟩
  rw[hv i o h1]
  cases o with
  |sl e0 t0 l0 k0=>exact h2 e t l kd ho
  |rc _=>cases ho
  |dead=>cases ho
 |view i c=>trivial
 |ptr i c=>
  obtain⟨_,g,h1,h2,h3⟩:=h
  exact⟨_,g,hb i _ h1,(hv i _ h1).trans h2,h3⟩
 |fn f cap=>
  obtain⟨vs,h1,h2⟩:=h
  exact⟨vs,h1,ZIg hb hv h2⟩
theorem Zz7 {x:CV} {l:List CV} (h:Zj5 (x::l)=false):Zj5 [x]=false∧Zj5 l=false:=by
 cases x<;>first|exact⟨rfl,h⟩|cases h
theorem Zv8 {N N':Nat→Prop} (hb:∀i o,lk sc i=some o→lk st'' (back ns d i)=some (Zg1 ns d o)) (hv:∀i o,lk sc i=some o→val'' (back ns d i)=valc i) :
  ∀{l:List CV} {vs:List Value},(Zj5 l=false∨Kept w w N N')→All2 (CvRep w N valc sc) l vs→All2 (CvRep w N' val'' st'') (l.map (ZpH ns d)) vs
 |[],[],_,_=>trivial
 |_::_,_::_,hk,⟨h1,h2⟩=>⟨ZCT hb hv (hk.imp (fun e=>(Zz7 e).1) id) h1,Zv8 hb hv (hk.imp (fun e=>(Zz7 e).2) id) h2⟩
 |[],_::_,_,h=>h.elim
 |_::_,[],_,h=>h.elim
def ZCY:AV→Bool
 | .c x=>Zj5 [x]
 | .agg l=>Zj5 l
 | .tup _=>true
def ZFy (ns:List Nat) (d:Nat):AV→AV
 | .c x=>.c (ZpH ns d x)
 | .agg l=>.agg (l.map (ZpH ns d))
 | .tup l=>.tup l
theorem ZL1 {N N':Nat→Prop} (hb:∀i o,lk sc i=some o→lk st'' (back ns d i)=some (Zg1 ns d o)) (hv:∀i o,lk sc i=some o→val'' (back ns d i)=valc i)
  {x:AV} {v:Value} (hk:ZCY x=false∨Kept w w N N') (h:Av1 w N valc sc x v):Av1 w N' val'' st'' (ZFy ns d x) v:=by
 cases x with
 |c x=>exact ZCT hb hv hk h
 |agg l=>
  obtain⟨vs,h1,h2⟩:=h
  exact⟨vs,h1,Zv8 hb hv hk h2⟩
 |tup l=>exact h.elim
theorem ZDQ {N N':Nat→Prop} (hb:∀i o,lk sc i=some o→lk st'' (back ns d i)=some (Zg1 ns d o)) (hv:∀i o,lk sc i=some o→val'' (back ns d i)=valc i) :
  ∀{l:List AV} {vs:List Value},(l.any ZCY=false∨Kept w w N N')→All2 (Av1 w N valc sc) l vs→All2 (Av1 w N' val'' st'') (l.map (ZFy ns d)) vs
 |[],[],_,_=>trivial
 |_::_,_::_,hk,⟨h1,h2⟩=>⟨ZL1 hb hv (hk.imp (fun e=>by simp only[List.any_cons,Xbh]at e;exact e.1) id) h1,ZDQ hb hv (hk.imp (fun e=>by simp only[List.any_cons,Xbh]at e;exact e.2) id) h2⟩
 |[],_::_,_,h=>h.elim
 |_::_,[],_,h=>h.elim
theorem ZMW {N N':Nat→Prop} (hb:∀i o,lk sc i=some o→lk st'' (back ns d i)=some (Zg1 ns d o)) (hv:∀i o,lk sc i=some o→val'' (back ns d i)=valc i)
  {x:AV} {v:Value} (hk:Zva x=false∨Kept w w N N') (h:AvRep w N valc sc x v):AvRep w N' val'' st'' (ZE7 ns d x) v:=by
 cases x with
 |c x=>exact ZCT hb hv hk h
 |agg l=>
  obtain⟨vs,h1,h2⟩:=h
  exact⟨vs,h1,Zv8 hb hv hk h2⟩
 |tup l=>
  obtain⟨vs,h1,h2⟩:=h
  have e1:Zva (.tup l)=l.any ZCY:=by
   show l.any _=_
   refine congrArg l.any (funext fun x=>?_)
   cases x<;>rfl
  have e2:ZE7 ns d (.tup l) = .tup (l.map (ZFy ns d)):=by
   show AV.tup (l.map _)=_
   refine congrArg (fun g=>AV.tup (l.map g)) (funext fun x=>?_)
   cases x<;>rfl
  rw[e2]
  exact⟨vs,h1,ZDQ hb hv (by rw[←e1];exact hk) h2⟩
theorem ZMb {N N':Nat→Prop} {e:TypeId} {t:Ty} {l:List t.den} (hf:ZsT (.sl e t l .shallow)=false) {d:t.den} {cs:List Value} (h:Imm w N t d cs):Imm w N' t d cs:=by
 cases t with
 |int k=>exact h
 |bool=>exact h
 |str=>exact h
 |sl t=>cases hf
 |pair a b=>
  cases a<;>cases b<;>first|exact h|cases hf
theorem ZNe {N N':Nat→Prop} (hb:∀i o,lk sc i=some o→lk st'' (back ns d i)=some (Zg1 ns d o)) (hv:∀i o,lk sc i=some o→val'' (back ns d i)=valc i)
  {ob:Ob} {v:Value} {F:List Nat} (hop:Zzs ob=false) (hk:ZsT ob=false∨Kept w w N N') (h:ObRep w N valc sc ob v F):ObRep w N' val'' st'' (Zg1 ns d ob) v F:=by
 cases ob with
 |dead=>exact h
 |rc cs=>
  obtain⟨g,cur,e,h1,h2,h3,h4⟩:=h
  exact⟨g,cur,e,h1,h2,h3,Zv8 hb hv hk h4⟩
 |sl e t l kd=>
  cases kd with
  |deep kn hh=>
   cases hh with
   |no=>
    obtain⟨_,e',xs,Fs,q1,q2,q3,q4⟩:=h
    exact⟨trivial,e',xs,Fs,q1,q2,q3,fun j hj=>(q4 j hj).kept (fun _ _=>rfl) (fun _ _ _ hp=>by cases hp)⟩
   | _=>cases hop
  |frozen=>
   rcases hk with hk|hk
   ·cases t with
    |pair a b=>cases a<;>cases b<;>cases hk
    |_=>cases hk
   ·exact⟨h.1,Imm.kept (t:=.sl t) hk h.2.1,h.2.2⟩
  |mix kk=>
   rcases hk with hk|hk
   ·cases t with
    |pair a b=>cases a<;>cases b<;>cases hk
    |_=>cases hk
   ·obtain⟨q0,xs,Fs,q1,q2,q3,q4⟩:=h
    exact⟨q0,xs,Fs,q1,q2,fun j hj hjk=>(q3 j hj hjk).kept (fun _ _=>rfl) (fun _ _ _ hp=>by cases hp),fun j hj hjk=>(q4 j hj hjk).kept hk⟩
  |shallow=>
   obtain⟨xs,h1,h2,h3⟩:=h
   refine⟨xs,h1,h2,fun j hj=>?_⟩
   rcases hk with hk|hk
   ·exact ZMb hk (h3 j hj)
   ·exact(h3 j hj).kept hk
theorem Back.step (b:Back Γ val valc fp fpc ns d n lent st sc st'' w w') (hno:lent=true→∀i o,lk sc i=some o→ZsT o=false) (hop:∀i o,lk sc i=some o→Zzs o=false) :
  Step Γ val (AE.valB ns d st val valc) fp (fpB ns d st fp fpc) st st'' w w' ∧
  ∀av v,(lent=true→Zva av=false)→AvRep w' (ZI (ZoO Γ st fp ns lent) sc fpc) valc sc av v→AvRep w' (ZI Γ.X st'' (fpB ns d st fp fpc)) (AE.valB ns d st val valc) st'' (ZE7 ns d av) v:=by
 obtain⟨s1,s2,s3,s4,s5⟩:=Zz1 b.laid b.nodup b.there
 have hv:=fun i o (hi:lk sc i=some o)=>(b.valB hi).1
 have hf:=fun i o (hi:lk sc i=some o)=>(b.valB hi).2
 have foot:∀{x:Nat},ZrY (Zd0 ns st 0 ns) (ZlW ns fp) x→∃y o,y∈ns∧lk st y=some o∧x∈fp y:=by
  rintro x ⟨i,o,h1,h2⟩
  rw[Zk1]at h1
  cases hi:ns[i]? with
  |none=>rw[hi]at h1;cases h1
  |some y=>
   rw[hi]at h1
   simp only[XaP,Xbr]at h1
   obtain⟨o',h3,_⟩:=h1
   simp only[ZlW,hi]at h2
   exact⟨y,o',XaZ hi,h3,h2⟩
 have hsz:w.heap.size≤w'.heap.size:=b.callee.fr.size
 have hsame:∀x,x<w.heap.size→(∀y o,y∈ns→lk st y=some o→x∉fp y)→w'.heap[x]? = w.heap[x]? :=fun x hx hn=>b.callee.fr.block x hx (fun hF=>by
  obtain⟨y,o,h1,h2,h3⟩:=foot hF
  exact hn y o h1 h2 h3)
 have cown:∀i o,lk sc i=some o→∀x∈fpc i,x<w'.heap.size∧¬ZoO Γ st fp ns lent x∧((∃y o,y∈ns∧lk st y=some o∧x∈fp y)∨w.heap.size≤x):=fun i o hi x hx=>by
  obtain⟨p1,p2,p3⟩:=b.callee.own i o hi x hx
  exact⟨p1,p2,p3.imp foot id⟩
 have hstays:Stays val (AE.valB ns d st val valc) st st'':=fun y o hy=>by
  by_cases hm:y∈ns
  ·obtain⟨i,hi⟩:=List.getElem?_of_mem hm
   obtain⟨o',q1,q2,q3⟩:=b.stays i (Zq0 ns st o) (by rw[Zk1,hi];simp[hy])
   refine⟨Zg1 ns d o',by have:=s1 i o' q1;rwa [Ztq hi]at this,((ZyE o).2.trans q2).trans (Zx4 o'),?_⟩
   have:=hv i o' q1
   rw[Ztq hi]at this
   rw[this,q3]
   simp only[ZoJ,hi]
  ·exact⟨o,s4 y hm o hy,Compat.refl o,ZG5 hm hy⟩
 have hmore:∀x,x<w.heap.size→ZI Γ.X st'' (fpB ns d st fp fpc) x→ZI Γ.X st fp x:=by
  rintro x hx (h1|⟨y,o,h1,h2⟩)
  ·exact .inl h1
  ·rcases s5 y o h1 with⟨q1,q2⟩|⟨i,o',rfl,q2,rfl⟩
   ·rw[ZqI q1 q2]at h2
    exact .inr ⟨y,o,q2,h2⟩
   ·rw[hf i o' q2]at h2
    rcases(cown i o' q2 x h2).2.2 with⟨z,oz,_,h3,h4⟩|h3
    ·exact .inr ⟨z,oz,h3,h4⟩
    ·omega
 have hkept:Kept w w' (ZI Γ.X st fp) (ZI Γ.X st'' (fpB ns d st fp fpc)):=⟨hsz,fun x hx hn=>hsame x hx (fun y o _ h2 h3=>hn (.inr ⟨y,o,h2,h3⟩)),hmore⟩
 have hk:lent=false→Kept w' w' (ZI (ZoO Γ st fp ns lent) sc fpc) (ZI Γ.X st'' (fpB ns d st fp fpc)):=fun hl=>⟨Nat.le_refl _,fun _ _ _=>rfl,by
  rintro x hx (h1|⟨y,o,h1,h2⟩)
  ·exact .inl (.inl h1)
  ·rcases s5 y o h1 with⟨q1,q2⟩|⟨i,o',rfl,q2,rfl⟩
   ·rw[ZqI q1 q2]at h2
    exact .inl (.inr ⟨hl,y,o,q2,q1,h2⟩)
   ·rw[hf i o' q2]at h2
    exact .inr ⟨i,o',q2,h2⟩⟩
 refine⟨⟨⟨⟨b.callee.fr.os.trans b.caller.fr.os,b.callee.fr.tape.trans b.caller.fr.tape,b.callee.fr.output.trans b.caller.fr.output,XbO b.caller.fr.drawn b.callee.fr.drawn,XbO b.caller.fr.size hsz,fun x hx hA=>?_⟩,
  fun x o hx=>?_,fun x o hx y hy=>?_,fun x y o o' hne hx hy z hz hz'=>?_,b.caller.low⟩,hkept,hstays⟩,fun av v hno' h=>?_⟩
 ·rw[hsame x (XaS hx b.caller.fr.size) (fun y o _ h2 h3=>by
   rcases(b.caller.own y o h2 x h3).2.2 with h4|h4
   ·exact hA h4
   ·omega)]
  exact b.caller.fr.block x hx hA
 ·rcases s5 x o hx with⟨q1,q2⟩|⟨i,o',rfl,q2,rfl⟩
  ·rw[ZG5 q1 q2,ZqI q1 q2]
   refine ObRep.kept hkept hstays (fun y hy=>hsame y (b.caller.own x o q2 y hy).1 (fun z oz hz hlz hyz=>?_)) (b.caller.rep x o q2)
   exact b.caller.apart x z o oz (fun e=>q1 (e▸hz)) q2 hlz y hy hyz
  ·rw[hv i o' q2,hf i o' q2]
   refine ZNe s1 hv (hop i o' q2) ?_ (b.callee.rep i o' q2)
   cases lent with
   |true=>exact .inl (hno rfl i o' q2)
   |false=>exact .inr (hk rfl)
 ·rcases s5 x o hx with⟨q1,q2⟩|⟨i,o',rfl,q2,rfl⟩
  ·rw[ZqI q1 q2]at hy
   obtain⟨p1,p2⟩:=b.caller.own x o q2 y hy
   exact⟨XaS p1 hsz,p2⟩
  ·rw[hf i o' q2]at hy
   obtain⟨p1,p2,p3⟩:=cown i o' q2 y hy
   refine⟨p1,fun hX=>p2 (.inl hX),?_⟩
   rcases p3 with⟨z,oz,_,h3,h4⟩|h3
   ·exact(b.caller.own z oz h3 y h4).2.2
   ·exact .inr (XbO b.caller.fr.size h3)
 ·rcases s5 x o hx with⟨q1,q2⟩|⟨i,oi,rfl,q2,rfl⟩
  ·rw[ZqI q1 q2]at hz
   rcases s5 y o' hy with⟨r1,r2⟩|⟨j,oj,rfl,r2,rfl⟩
   ·rw[ZqI r1 r2]at hz'
    exact b.caller.apart x y o o' hne q2 r2 z hz hz'
   ·rw[hf j oj r2]at hz'
    rcases(cown j oj r2 z hz').2.2 with⟨u,ou,h2,h3,h4⟩|h3
    ·exact b.caller.apart x u o ou (fun e=>q1 (e▸h2)) q2 h3 z hz h4
    ·have:=(b.caller.own x o q2 z hz).1
     omega
  ·rw[hf i oi q2]at hz
   rcases s5 y o' hy with⟨r1,r2⟩|⟨j,oj,rfl,r2,rfl⟩
   ·rw[ZqI r1 r2]at hz'
    rcases(cown i oi q2 z hz).2.2 with⟨u,ou,h2,h3,h4⟩|h3
    ·exact b.caller.apart u y ou o' (fun e=>r1 (e▸h2)) h3 r2 z h4 hz'
    ·have:=(b.caller.own y o' r2 z hz').1
     omega
   ·rw[hf j oj r2]at hz'
    exact b.callee.apart i j oi oj (fun e=>hne (by rw[e])) q2 r2 z hz hz'
 ·refine ZMW s1 hv ?_ h
  cases lent with
  |true=>exact .inl (hno' rfl)
  |false=>exact .inr (hk rfl)
end
end Go.AE
namespace Go.AE
open Go Go.RowKit
def ZkD (P:Program) (C:Cfg):Prop:=
 ∀ f con, lk C.tab f = some con → ZJl P f con ∧ ∃ fn c, P.funcs[f]? = some fn ∧ (fn.name == "runtime.NumGoroutine") = false ∧ fn.body = some c
section
variable {P:Program} {C:Cfg} {Γ:Ctx} {val val' val'':Nat→Value} {fp fp' fp'':Nat→List Nat} {ρ:Env} {st st' st'':St} {a:Act} {w w' w'':World} {o:Oper} {k:AV→St→Prop} {K:Act→World→Prop} {Q:Exit→Act→World→Prop}
theorem ZCQ {f : FuncId} {fn : Func} {c : Code} (hf : P.funcs[f]? = some fn) (hname : (fn.name == "runtime.NumGoroutine") = false) (hb : fn.body = some c) (args : Array Value) (w : World) :
  (callFunc f args).run P w = .ok (.enter f args) w:=by
 have h1 : fn.name ≠ "runtime.NumGoroutine" := by simpa using hname
 simp[callFunc,hf,h1,hb]
theorem ZL9 {e:Eff} {f:AV→St→Eff} (h:ZbD (ZKo e f) k):ZbD e fun v st'=>ZbD (f v st') k:=by
 induction e with
 |fail=>exact h
 |ret v st'=>exact h
 |req p v st'=>
  have h:ZbD (match f v st' with
   | .ret v st=>.req p v st
   |_=>.fail) k:=h
  split at h
  ·rename_i v2 st2 h2
   refine And.intro h.1 ?_
   show ZbD (f v st') k
   rw[h2]
   exact h.2
  ·exact h.elim
 |br b v1 v2 st'=>exact h.elim
 |nilt p st'=>exact h.elim
 |niln p st'=>exact h.elim
 |ite b e1 e2 h1 h2=>exact And.intro (fun hb=>h1 (h.1 hb)) (fun hb=>h2 (h.2 hb))
 |any α g ih=>exact fun x=>ih x (h x)
 |need p e ih=>exact And.intro h.1 (ih h.2)
 |hyp p v st'=>exact h.elim
 |opt α o g ih=>exact h.elim fun x hx=>⟨x,hx.1,ih x hx.2⟩
theorem ZwD:∀{l:List AV},ZJL l=true→∀x∈l,∀r,x ≠ .tup r
 |y::l,h,x,hx,r=>by
  cases y with
  |tup _=>cases h
  |c y=>
   rcases XaA.1 hx with rfl|hx
   ·exact fun e=>by cases e
   ·exact ZwD (l:=l) h x hx r
  |agg y=>
   rcases XaA.1 hx with rfl|hx
   ·exact fun e=>by cases e
   ·exact ZwD (l:=l) h x hx r
theorem ZFA {N:Nat→Prop}:∀{cap:List Nat} {vs:List Value},fnCaps val st cap vs→All2 (AvRep w N val st) (cap.map fun x=>.c (.ptr x 0)) vs
 |[],[],_=>trivial
 |_::_,_::_,⟨⟨cs,g,h1,h2,h3⟩,hr⟩=>⟨⟨cs,g,h1,h2,h3⟩,ZFA hr⟩
 |[],_::_,h=>h.elim
 |_::_,[],h=>h.elim
theorem ZFO (h:Sim Γ val fp ρ st a w):∀l:List Operand,All2 (AvRep w (ZI Γ.X st fp) val st) (l.map (ev1 ρ)) (l.map a.eval)
 |[]=>trivial
 |x::l=>⟨ZU h x,ZFO h l⟩
theorem ZFS {α:Sort _}:∀(l:List Nat) (k:List Nat→α),fNs l k=k l
 |[],_=>rfl
 |x::r,k=>ZFS r fun r'=>k (x::r')
theorem ZJw {α:Sort _} (x:CV) (k:CV→α):fC x k=k x:=by
 cases x<;>first|rfl|exact ZFS _ _
theorem ZBu {α:Sort _}:∀(l:List CV) (k:List CV→α),fCs l k=k l
 |[],_=>rfl
 |x::r,k=>(ZBu r fun r'=>fC x fun x'=>k (x'::r')).trans (ZJw x _)
theorem ZNx {α:Sort _} (x:AV) (k:AV→α):fA1 x k=k x:=by
 cases x with
 |c x=>exact ZJw x fun x=>k (.c x)
 |agg l=>exact ZBu l fun l=>k (.agg l)
 |tup l=>rfl
theorem ZKq {α:Sort _}:∀(l:List AV) (k:List AV→α),fAs l k=k l
 |[],_=>rfl
 |x::r,k=>(ZKq r fun r'=>fA1 x fun x'=>k (x'::r')).trans (ZNx x _)
theorem ZN3 {α:Sort _} (x:AV) (k:AV→α):fA x k=k x:=by
 cases x with
 |c x=>exact ZJw x fun x=>k (.c x)
 |agg l=>exact ZBu l fun l=>k (.agg l)
 |tup l=>exact ZKq l fun l=>k (.tup l)
theorem ZN4 {α:Sort _} (o:Ob) (k:Ob→α):fO o k=k o:=by
 cases o with
 |sl e t l kd=>cases kd with
  |deep b hh=>cases hh<;>rfl
  |shallow=>rfl
  |frozen=>rfl
  |mix _=>rfl
 |rc cs=>exact ZBu cs _
 |dead=>rfl
theorem ZFT {α:Sort _}:∀(st:St) (k:St→α),fSt st k=k st
 |[],_=>rfl
 |(n,o)::r,k=>(ZFT r fun r'=>fO o fun o'=>k ((n,o')::r')).trans (ZN4 o _)
theorem ZGR (hC:ZkD P C) (h:Objs Γ val fp st w) {f:FuncId} {tys:List TypeId} {args:List AV} {vs:Array Value} (ht:∀x∈args,∀r,x ≠ .tup r)
  (hv:All2 (AvRep w (ZI Γ.X st fp) val st) args vs.toList) (he:ZbD (ZFP C st o.dst f tys args) k) (hK:Fol Γ val fp st a w o k K) :
  ∃ fn c, P.funcs[f]? = some fn ∧ (fn.name == "runtime.NumGoroutine") = false ∧ fn.body = some c ∧
   Calls P f vs w fun e w'=>∃v,e = .returned v∧K (a.put o.dst v) w':=by
 unfold ZFP at he
 split at he
 ·rename_i con hcon
  obtain⟨hok,fn,c,h1,h2,h3⟩:=hC f con hcon
  refine⟨fn,c,h1,h2,h3,?_⟩
  rw[ZFS]at he
  dsimp only at he
  generalize hns:ZMP (lk C.hand f) st args=ns at he
  generalize C.good.any (Nat.beq f)=gd at he
  split at he
  ·exact he.elim
  rename_i st0 hcl
  obtain⟨fpc,Sc⟩:=Zr8 h hcl
  have h:=Sc.objs
  have hv:All2 (AvRep w (ZI Γ.X st0 fpc) val st0) args vs.toList:=hv.mono fun r=>AvRep.kept Sc.kept Sc.stays r
  have hK:Fol Γ val fpc st0 a w o k K:=fun av st' v val' fp' w' q1 q2 q3=>hK av st' v val' fp' w' q1 (Sc.trans q2) q3
  clear Sc hcl hns
  rw[ZFT]at he
  revert fpc
  intro fp h hv hK
  generalize st0=st at h hv hK he
  obtain⟨fp0,S0⟩:∃fp0,Step Γ val val fp fp0 st (ZqH gd st ns args) w w:=by
   unfold ZqH
   split
   ·exact Zhu _ h
   ·exact⟨fp,Step.refl h⟩
  have h:=S0.objs
  have hv:All2 (AvRep w (ZI Γ.X (ZqH gd st ns args) fp0) val (ZqH gd st ns args)) args vs.toList:=hv.mono fun r=>AvRep.kept S0.kept S0.stays r
  have hK:Fol Γ val fp0 (ZqH gd st ns args) a w o k K:=fun av st' v val' fp' w' q1 q2 q3=>hK av st' v val' fp' w' q1 (S0.trans q2) q3
  clear S0
  generalize ZqH gd st ns args=st at h hv hK he
  revert fp0
  intro fp h hv hK
  split at he
  ·rename_i hb
   simp only[Xae]at hb
   obtain⟨hb,hop⟩:=hb
   have hop:∀x∈ns,ZBX st x=false:=by
    simp only[XaX,XaN]at hop
    exact fun x hx=>by simpa using hop x hx
   have hnd:=ZuR hb.1
   have hin:=ZBl hb.2
   have he:=ZL9 he
   generalize hlent:(args.any (ZyF ns st)||ns.any (ZyG ns st))=lent at he
   have hl1:lent=false→∀x∈args,ZyF ns st x=false:=fun e x hx=>by
    rw[e,Xbh,XaN]at hlent
    simpa using hlent.1 x hx
   have hl2:lent=false→∀x∈ns,ZyG ns st x=false:=fun e x hx=>by
    rw[e,Xbh,XaN,XaN]at hlent
    simpa using hlent.2 x hx
   have hobj:=ZKB (lent:=lent) h 0 hnd hl2 hop
   have hargs:=Zty (C:=C) (ts:=match C.nils.any (Nat.beq f),lk C.hand f with|true,some hs=>ZGq hs 0 tys|_,_=>tys) (ns:=ns) (lent:=lent) h hl1 ht hv
   refine(hok _ _ _ he _ _ _ _ _ _ hobj hargs).mono ?_
   rintro e w' ⟨v,av,sc,valc,fpc,rfl,hk,ho,hst,hav⟩
   refine⟨v,rfl,?_⟩
   split at hk
   ·exact hk.elim
   ·rename_i hno
    split at hk
    ·rename_i st'' hback
     have B:Back Γ val valc fp fpc ns (match o.dst with|some d=>d|none=>0) 0 lent st sc st'' w w':=⟨h,hnd,hin,ho,hst,hback⟩
     rw[Xbh]at hno
     obtain⟨hno,hno2⟩:=hno
     have hno2:∀p∈sc,Zzs p.2=false:=by
      rw[XaN]at hno2
      exact fun p hp=>by simpa using hno2 p hp
     have hno':lent=true→Zva av=false∧∀p∈sc,ZsT p.2=false:=fun e=>by
      subst e
      simp only[Xaj,Xbh,XaN]at hno
      exact⟨hno.1,fun p hp=>by simpa using hno.2 p hp⟩
     have hlk:∀{l:St} {i:Nat} {oi:Ob},lk l i=some oi→(i,oi)∈l:=by
      intro l
      induction l with
      |nil=>intro i oi h;cases h
      |cons p r ih=>
       intro i oi h
       obtain⟨j,oj⟩:=p
       rw[Z2]at h
       split at h
       ·rename_i e;cases h;subst e;exact Xas
       ·exact Xao _ (ih h)
     obtain⟨S,hr⟩:=B.step (fun e i oi hi=>(hno' e).2 _ (hlk hi)) (fun i oi hi=>hno2 _ (hlk hi))
     exact hK _ _ _ _ _ _ hk S (hr av v (fun e=>(hno' e).1) hav)
    ·exact hk.elim
  ·exact he.elim
 ·exact he.elim
theorem ZJ0 (hC:ZkD P C) (h:Sim Γ val fp ρ st a w) {f:Operand} {args:Array Operand} {tys:Array TypeId} (ho:o.op = .call { callee:=.value f,args:=args,argTypes:=tys }) (he:ZbD (Zby C ρ st o) k)
  (hK:Fol Γ val fp st a w o k K):o.wp P a w K Q:=by
 have hf:=ZU h f
 unfold Zby at he
 simp only[ho]at he
 split at he
 ·rename_i f0 cap hf0
  rw[hf0]at hf
  obtain⟨vs,hv,hcap⟩:=hf
  split at he
  ·rename_i hnt
   have hargs:All2 (AvRep w (ZI Γ.X st fp) val st) (args.toList.map (ev1 ρ)++cap.map fun x=>.c (.ptr x 0)) ((args.map a.eval++vs:Array Value)).toList:=by
    rw[Array.toList_append,Array.toList_map]
    exact(ZFO h _).append (ZFA hcap)
   obtain⟨fn,c,h1,h2,h3,hcall⟩:=ZGR (vs:=args.map a.eval++vs) hC h.toObjs (ZwD hnt) hargs he hK
   unfold Oper.wp execOp
   simp only[ho,resolve,Deferred.ofValue,hv,Sem.run_bind,Sem.run_pure,Result.andThen_ok,invoke,Array.empty_append,ZCQ h1 h2 h3]
   refine Calls.mono hcall ?_
   rintro e w' ⟨v,rfl,e2⟩
   exact e2
  ·exact he.elim
 ·exact he.elim
end
end Go.AE
