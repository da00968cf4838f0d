/-
  Plain laws of the models, in one text. No conditions.
-/
import Derived.Test.YtaeeiddjpigemaaGreatPx2
import Derived.Test.YtaeeiddjpigemaaGreatPx1
namespace Go.AE.Y
open Go Go.AE
set_option maxHeartbeats 400000
def ZpM (m:Zr) (i:Nat) (c:Int) (n:Nat):List (Int×Int):=(List.range n).map (fun (k:Nat)=>(c*(k:Int),ZbJ m i k))
def ZgZ (m:Zr) (r:ZG):Nat→List (Int×Int)
 |0=>[]
 |n+1=>ZgZ m r n++ZpM m (r.2.1.getD n 0).toNat (r.2.2.1.getD n 0) (Zd5 m (r.2.1.getD n 0).toNat)
def Zkw (m:Zr) (r:ZG):Int×List Int:=ZcZ (ZgZ m r r.2.1.length) r.2.2.2.1
def Zrx (m:Zr) (r:ZG):Zbt:=ofR (ZcV (Zkw m r).2 (Zkw m r).1)
structure Zdl (m:Zr) (r:ZG):Prop where
 vars:∀i,i<r.2.1.length→0≤r.2.1.getD i 0∧(r.2.1.getD i 0).toNat<m.1.length
 nodup:r.2.1.Nodup
 pos:1≤r.2.1.length
 lin:r.1=1→r.2.2.1.length=r.2.1.length∧(∀i,-9≤r.2.2.1.getD i 0∧r.2.2.1.getD i 0≤9) ∧ -1000≤r.2.2.2.1∧r.2.2.2.1≤1000
 two:r.1=4→r.2.1.length=2
 kind:r.1=1∨r.1=2∨r.1=3∨r.1=4
theorem ZGw {l:List Int} {n:Int} (h:Zo9 l n=true):l.Nodup∧∀i,i<l.length→0≤l.getD i 0∧l.getD i 0≤n - 1:=by
 unfold Zo9 at h
 rw[Xar]at h
 have h1:∀i,i<l.length→(0≤l.getD i 0∧l.getD i 0≤n - 1)∧∀x∈l.take i,l.getD i 0≠x:=fun i hi=>by
  have:=h i (Xay.2 hi)
  unfold ZmI at this
  simp only[Xag,Xaf,XaW,XaN,beq_iff_eq]at this
  exact this
 refine⟨?_,fun i hi=>(h1 i hi).1⟩
 unfold List.Nodup
 rw[XaV]
 intro i j hi hj hij e
 have h2:=(h1 j hj).2 l[i] (Xan.2 ⟨i,by rw[Xaz];omega,by rw[Xbb]⟩)
 rw[Xaa,Xac hj]at h2
 exact h2 e.symm
theorem Zp6 {m:Zr} {r:ZG} (hm:ZE m=true) (hr:r∈m.2):Zdl m r:=by
 have hm':=hm
 unfold ZE at hm
 simp only[Xag,Xaf,Xar]at hm
 have h:=hm.2.2.2.2 r hr
 unfold ZfM at h
 simp only[Xag,Xaf]at h
 obtain⟨h1,h2,h3,h4⟩:=h
 obtain⟨n1,n2⟩:=ZGw h1
 have hk:r.1=1∧ZzL r=true∨r.1=2∨r.1=3∨(r.1=4∧r.2.1.length=2):=by
  unfold ZgY at h4
  by_cases k1:r.1=1
  ·rw[Zx k1]at h4
   exact Or.inl ⟨k1,h4⟩
  rw[Zt k1]at h4
  by_cases k3:r.1=3
  ·exact Or.inr (Or.inr (Or.inl k3))
  rw[Zt k3]at h4
  by_cases k4:r.1=4
  ·rw[Zx k4,Xaf]at h4
   exact Or.inr (Or.inr (Or.inr ⟨k4,h4⟩))
  rw[Zt k4,beq_iff_eq]at h4
  exact Or.inr (Or.inl h4)
 refine⟨fun i hi=>by have:=n2 i hi;omega,n1,h2,fun k1=>?_,fun k4=>?_,?_⟩
 ·rcases hk with⟨_,hl⟩|k|k|⟨k,_⟩
  ·unfold ZzL at hl
   simp only[Xag,Xaf,Xar]at hl
   refine⟨by omega,fun i=>?_,hl.2.1.1,hl.2.1.2⟩
   rcases Xad i r.2.2.1.length with q|q
   ·have:=hl.2.2 _ (Zz (l:=r.2.2.1) (i:=i) (d:=0) q)
    unfold Zqf at this
    simp only[Xag,Xaf]at this
    exact this.2
   ·rw[Xaa,Xaw q]
    decide
  ·omega
  ·omega
  ·omega
 ·rcases hk with⟨k,_⟩|k|k|⟨_,k⟩
  ·omega
  ·omega
  ·omega
  ·exact k
 ·rcases hk with⟨k,_⟩|k|k|⟨k,_⟩
  ·exact Or.inl k
  ·exact Or.inr (Or.inl k)
  ·exact Or.inr (Or.inr (Or.inl k))
  ·exact Or.inr (Or.inr (Or.inr k))
theorem ZhJ {m:Zr} {r:ZG} (hm:ZE m=true) (h:Zdl m r):r.2.1.length≤5:=by
 have h5:m.1.length≤5:=by
  unfold ZE at hm
  simp only[Xag,Xaf]at hm
  exact hm.1.2
 have hs:=ZFU (f:=fun _=>1) (n:=m.1.length) (r.2.1.map Int.toNat) (Zrb (fun a ha b hb e=>by
  obtain⟨i,hi,ei⟩:=Xan.1 ha
  obtain⟨j,hj,ej⟩:=Xan.1 hb
  have h1:=(h.vars i hi).1
  have h2:=(h.vars j hj).1
  rw[Xaa,Xac hi]at h1
  rw[Xaa,Xac hj]at h2
  have h1:0≤r.2.1[i]:=h1
  have h2:0≤r.2.1[j]:=h2
  omega) h.nodup) (fun x hx=>by
  obtain⟨c,hc,rfl⟩:=XaF.1 hx
  obtain⟨i,hi,rfl⟩:=Xan.1 hc
  have:=(h.vars i hi).2
  rwa [Xaa,Xac hi]at this)
 have h1:∀l:List Nat,(l.map (fun _=>(1:Int))).sum=l.length:=by
  intro l
  induction l with
  |nil=>rfl
  |cons a l ih=>rw[XaQ,XbN,ih,Xap];omega
 have h2:∀n:Nat,ZfO (fun _=>1) n=n:=by
  intro n
  induction n with
  |zero=>rfl
  |succ n ih=>unfold ZfO;rw[ih];omega
 have h3:=Zz5 (g:=fun i=>if i∈r.2.1.map Int.toNat then 1 else 0) (h:=fun _=>1) m.1.length (fun i _=>by split<;>omega)
 rw[h1,Xak]at hs
 rw[h2]at h3
 omega
theorem Zs3 {l x:List Int} {i:Nat} (h:i<l.length):(Zb5 l x).getD i 0=x.getD (l.getD i 0).toNat 0:=by
 unfold Zb5
 rw[Zmi (d:=0) (h:=h)]
theorem ZG4 {m:Zr} {v:List Bool} {x:List Int} (hm:ZE m=true) (hd:Dec m v x) {i:Nat} (hi:i<m.1.length) (c:Int):∀n,n≤Zd5 m i→Zcy v (ZpM m i c n)=if x.getD i 0<n then c*x.getD i 0 else 0
 |0,_=>by
  obtain⟨x1,x2⟩:=ZcL hd.1
  have:=x2 i (by omega)
  rw[if_neg (by omega)]
  rfl
 |n+1,hn=>by
  obtain⟨x1,x2⟩:=ZcL hd.1
  have hx:=x2 i (by omega)
  have hk:(n:Int)≤m.1.getD i 0:=(Zfn hm hi).1 (by omega)
  have ih:=ZG4 hm hd hi c n (by omega)
  have e:ZpM m i c (n+1)=ZpM m i c n++[(c*(n:Int),ZbJ m i n)]:=by
   unfold ZpM
   rw[Xbz,Xa0]
   rfl
  rw[e,Zqb,ih,Zv0]
  dsimp only
  rw[Zmo hm hi hk,hd.2 i hi n hk]
  by_cases q:x.getD i 0=n
  ·rw[Xae q,ctt,if_neg (by omega),if_pos (by omega),q]
   omega
  ·rw[decide_eq_false q,cff]
   by_cases q2:x.getD i 0<n
   ·rw[if_pos q2,if_pos (by omega)];omega
   ·rw[if_neg q2,if_neg (by omega)];omega
theorem ZHi {m:Zr} {r:ZG} {v:List Bool} {x:List Int} (hm:ZE m=true) (ho:Zdl m r) (hd:Dec m v x):∀n,n≤r.2.1.length→Zcy v (ZgZ m r n)=ZcU r.2.2.1 (Zb5 r.2.1 x) n
 |0,_=>rfl
 |n+1,hn=>by
  obtain⟨x1,x2⟩:=ZcL hd.1
  obtain⟨v0,vi⟩:=ho.vars n (by omega)
  have hx:=x2 (r.2.1.getD n 0).toNat (by omega)
  have hs:=(Zfn hm vi (k:=(x.getD (r.2.1.getD n 0).toNat 0).toNat)).2 (by omega)
  unfold ZgZ
  rw[Zqb,ZHi hm ho hd n (by omega),ZG4 hm hd vi _ _ (Nat.le_refl _),if_pos (by omega),ZiS,Zs3 (by omega)]
theorem Zmu {m:Zr} (hm:ZE m=true) {i:Nat} (hi:i<m.1.length):1≤Zd5 m i∧Zd5 m i≤4:=by
 have:=ZeJ hm hi
 unfold Zd5
 omega
theorem ZAX {a k:Int} (ha : -9≤a∧a≤9) (hk:0≤k∧k≤3) : -27≤a*k∧a*k≤27:=by
 have:k=0∨k=1∨k=2∨k=3:=by omega
 rcases this with rfl|rfl|rfl|rfl<;>omega
theorem ZsX {m:Zr} {r:ZG} (hm:ZE m=true) (ho:Zdl m r) (k1:r.1=1):∀n,n≤r.2.1.length→(ZgZ m r n).length≤4*n∧∀t∈ZgZ m r n,okS t ∧ -27≤t.1∧t.1≤27
 |0,_=>⟨Nat.le_refl _,fun t ht=>absurd ht XaB⟩
 |n+1,hn=>by
  obtain⟨i1,i2⟩:=ZsX hm ho k1 n (by omega)
  obtain⟨v0,vi⟩:=ho.vars n (by omega)
  have hs:=Zmu hm vi
  obtain⟨_,hc,_⟩:=ho.lin k1
  unfold ZgZ
  refine⟨?_,fun t ht=>?_⟩
  ·unfold ZpM
   rw[Xal,Xak,XaI]
   omega
  ·rcases List.mem_append.1 ht with h|h
   ·exact i2 t h
   ·obtain⟨k,hk,rfl⟩:=XaF.1 h
    have hk:=Xay.1 hk
    have hkv:=(Zfn hm vi).1 hk
    have hb:=ZAX (hc n) (k:=(k:Int)) ⟨by omega,by omega⟩
    exact⟨⟨by (try dsimp only)<;>omega,(ZHA hm vi hkv).1⟩,hb⟩
theorem Zr4 {ts:List (Int×Int)} {b:Int} (h:∀t∈ts,okS t ∧ -27≤t.1∧t.1≤27):∀n:Nat,n≤ts.length→(ZcZ (ts.take n) b).2.length=13∧(b - 27*n≤(ZcZ (ts.take n) b).1∧(ZcZ (ts.take n) b).1≤b+27*n)∧∀j,-27*(n:Int)≤(ZcZ (ts.take n) b).2.getD j 0∧(ZcZ (ts.take n) b).2.getD j 0≤27*(n:Int)
 |0,_=>by
  rw[XaR]
  refine⟨rfl,⟨by show b - _≤b;omega,by show b≤b+_;omega⟩,fun j=>?_⟩
  show _≤(List.replicate 13 (0:Int)).getD j 0∧(List.replicate 13 (0:Int)).getD j 0≤_
  rw[ZD8]
  omega
 |n+1,hn=>by
  obtain⟨i1,i3,i4⟩:=Zr4 h n (by omega)
  obtain⟨⟨_,o2⟩,o3⟩:=h _ (Zz (l:=ts) (i:=n) (d:=(0,0)) (by omega))
  have hl:=Zy.1 o2
  rw[Zra (by omega)]
  generalize ZcZ (ts.take n) b=s at i1 i3 i4
  generalize ts.getD n (0,0)=t at o3 hl
  unfold Zm4
  by_cases q:t.2<0
  ·rw[if_pos q]
   dsimp only
   refine⟨by rw[Xam];exact i1,⟨by omega,by omega⟩,fun j=>?_⟩
   have hj:=i4 j
   have hv:=i4 (0 - t.2).toNat
   rw[ZiZ]
   split<;>omega
  ·rw[if_neg q]
   dsimp only
   refine⟨by rw[Xam];exact i1,⟨by omega,by omega⟩,fun j=>?_⟩
   have hj:=i4 j
   have hv:=i4 t.2.toNat
   rw[ZiZ]
   split<;>omega
theorem ZzW {net:List Int}:∀n,n≤12→(∀j,-1000≤net.getD j 0∧net.getD j 0≤1000)→(∀t∈ZcO net n,(ZX t.2=true∧1≤t.1∧t.1≤1000)∧vof t.2≤n)∧(ZcO net n).Pairwise (fun x y=>vof x.2<vof y.2)
 |0,_,_=>⟨fun t ht=>absurd ht XaB,List.Pairwise.nil⟩
 |n+1,hn,hb=>by
  obtain⟨i1,i2⟩:=ZzW n (by omega) hb
  have hbn:=hb (n+1)
  unfold ZcO
  have one:∀t∈(if 0<net.getD (n+1) 0 then[(net.getD (n+1) 0,((n+1:Nat):Int))]else if net.getD (n+1) 0<0 then[(0 - net.getD (n+1) 0,0 - ((n+1:Nat):Int))]else[]),(ZX t.2=true∧1≤t.1∧t.1≤1000)∧vof t.2=((n+1:Nat):Int):=fun t ht=>by
   split at ht
   ·rw[Xah]at ht
    subst ht
    exact⟨⟨Zy.2 ⟨by (try dsimp only)<;>omega,by (try dsimp only)<;>omega,by (try dsimp only)<;>omega⟩,by (try dsimp only)<;>omega,by (try dsimp only)<;>omega⟩,by unfold vof;(try dsimp only)<;>omega⟩
   ·split at ht
    ·rw[Xah]at ht
     subst ht
     exact⟨⟨Zy.2 ⟨by (try dsimp only)<;>omega,by (try dsimp only)<;>omega,by (try dsimp only)<;>omega⟩,by (try dsimp only)<;>omega,by (try dsimp only)<;>omega⟩,by unfold vof;(try dsimp only)<;>omega⟩
    ·exact absurd ht XaB
  refine⟨fun t ht=>?_,List.pairwise_append.2 ⟨i2,?_,fun x hx y hy=>?_⟩⟩
  ·rcases List.mem_append.1 ht with h|h
   ·have:=i1 t h
    exact⟨this.1,by omega⟩
   ·have:=one t h
    exact⟨this.1,by omega⟩
  ·split
   ·exact XbC _ _
   ·split
    ·exact XbC _ _
    ·exact List.Pairwise.nil
  ·have:=(i1 x hx).2
   have:=(one y hy).2
   omega
theorem ZFa {m:Zr} {r:ZG} (hm:ZE m=true) (ho:Zdl m r) (k1:r.1=1):(ZcV (Zkw m r).2 (Zkw m r).1).1=true:=by
 have h5:=ZhJ hm ho
 obtain⟨l1,l2⟩:=ZsX hm ho k1 r.2.1.length (Nat.le_refl _)
 obtain⟨_,_,b1,b2⟩:=ho.lin k1
 obtain⟨n1,n2,n3⟩:=Zr4 (b:=r.2.2.2.1) l2 (ZgZ m r r.2.1.length).length (Nat.le_refl _)
 rw[XaA]at n1 n2 n3
 have hb:∀j,-1000≤(Zkw m r).2.getD j 0∧(Zkw m r).2.getD j 0≤1000:=fun j=>by
  have:=n3 j
  unfold Zkw
  omega
 have hb2 : -2000≤(Zkw m r).1∧(Zkw m r).1≤2000:=by
  unfold Zkw
  omega
 obtain⟨p1,p2⟩:=ZzW (net:=(Zkw m r).2) 12 (Nat.le_refl _) hb
 have hneg:=Zqi (net:=(Zkw m r).2) (b:=(Zkw m r).1) (K:=1000) (by omega) (fun j=>by have:=hb j;omega) 12
 have hc:ZD (ZcO (Zkw m r).2 12,max 0 (Zbq (Zkw m r).2 (Zkw m r).1 12))=true:=Zkk.2 ⟨fun t ht=>(p1 t ht).1,p2,by (try dsimp only)<;>omega,by (try dsimp only)<;>omega⟩
 unfold ZcV
 rw[hc,ctt]
theorem ZLS {m:Zr} {r:ZG} {v:List Bool} {x:List Int} (hm:ZE m=true) (ho:Zdl m r) (hd:Dec m v x) (k1:r.1=1):ZW v (Zrx m r)=holdsB r (Zb5 r.2.1 x):=by
 obtain⟨_,l2⟩:=ZsX hm ho k1 r.2.1.length (Nat.le_refl _)
 have hlen:(Zb5 r.2.1 x).length=r.2.1.length:=Xak ..
 have e:=ZHi hm ho hd r.2.1.length (Nat.le_refl _)
 have hn:=ZC9 (b:=r.2.2.2.1) (v:=v) (fun t ht=>(l2 t ht).1)
 unfold Zrx
 rw[(ZvP (ZFa hm ho k1)).1]
 unfold Zkw
 rw[hn,e]
 unfold holdsB
 rw[Zx k1,hlen]
def Zel (m:Zr) (r:ZG) (k:Nat):List Int:=(r.2.1.filter (fun c=>decide ((k:Int)≤m.1.getD c.toNat 0))).map (fun c=>ZbJ m c.toNat k)
def ZmR (l:List Int):List Int:=l.mergeSort (fun a b=>decide (a≤b))
def ZrU (m:Zr) (r:ZG):Zu:=(List.range 4).flatMap (fun k=>if 1<(Zel m r k).length then[Zjl (ZmR (Zel m r k))]else[])
theorem Zla {m:Zr} {r:ZG} (ho:Zdl m r) {c:Int} (hc:c∈r.2.1):0≤c∧c.toNat<m.1.length:=by
 obtain⟨i,hi,rfl⟩:=Xan.1 hc
 have:=ho.vars i hi
 rwa [Xaa,Xac hi]at this
theorem Zn4 {m:Zr} {r:ZG} (hm:ZE m=true) (ho:Zdl m r) {k:Nat}:(Zel m r k).Nodup∧∀y∈Zel m r k,∃c,c∈r.2.1∧(k:Int)≤m.1.getD c.toNat 0∧y=ZbJ m c.toNat k:=by
 refine⟨Zrb (fun a ha b hb e=>?_) (ho.nodup.filter _),fun y hy=>?_⟩
 ·obtain⟨a1,a2⟩:=XaM.1 ha
  obtain⟨b1,b2⟩:=XaM.1 hb
  obtain⟨a3,a4⟩:=Zla ho a1
  obtain⟨b3,b4⟩:=Zla ho b1
  have:=(ZuT hm a4 (of_decide_eq_true a2) b4 (of_decide_eq_true b2) e).1
  omega
 ·obtain⟨c,hc,rfl⟩:=XaF.1 hy
  obtain⟨c1,c2⟩:=XaM.1 hc
  exact⟨c,c1,of_decide_eq_true c2,rfl⟩
theorem ZKY {v:List Int}:ZtN v=true↔v.Nodup:=by
 unfold ZtN Zk6 List.Nodup
 rw[Xar,XaV]
 constructor
 ·intro h i j hi hj hij e
  have:=h j (Xay.2 hj)
  rw[XaW,XaN]at this
  refine this v[i] (Xan.2 ⟨i,by rw[Xaz];omega,by rw[Xbb]⟩) ?_
  rw[Xaa,Xac hj]
  exact beq_iff_eq.2 e.symm
 ·intro h j hj
  have hj:=Xay.1 hj
  rw[XaW,XaN]
  intro y hy e
  obtain⟨i,hi,rfl⟩:=Xan.1 hy
  rw[Xaz]at hi
  have e:=beq_iff_eq.1 e
  rw[Xaa,Xac hj,Xbb]at e
  exact h i j (by omega) hj (by omega) e.symm
theorem ZKT {m:Zr} {r:ZG} {v:List Bool} {x:List Int} (hm:ZE m=true) (ho:Zdl m r) (hd:Dec m v x) (k2:r.1=2):(∀c∈ZrU m r,ZW v c=true)↔holdsB r (Zb5 r.2.1 x)=true:=by
 obtain⟨x1,x2⟩:=ZcL hd.1
 have hcell:∀c∈r.2.1,0≤x.getD c.toNat 0∧x.getD c.toNat 0≤m.1.getD c.toNat 0:=fun c hc=>by
  obtain⟨c0,c1⟩:=Zla ho hc
  exact x2 c.toNat (by omega)
 have hh:holdsB r (Zb5 r.2.1 x)=ZtN (Zb5 r.2.1 x):=by
  unfold holdsB
  rw[Zt (by omega),Zx k2]
 have hev:∀k,ZW v (Zjl (ZmR (Zel m r k)))=decide ((Zel m r k).countP (ZR v)≤1):=fun k=>by
  have hp:(ZmR (Zel m r k)).Perm (Zel m r k):=List.mergeSort_perm _ _
  rw[ZAV,hp.countP_eq]
  intro y hy
  obtain⟨c,c1,c2,rfl⟩:=(Zn4 hm ho).2 y (hp.mem_iff.1 hy)
  obtain⟨c3,c4⟩:=Zla ho c1
  have:=Zdc hm c4 c2
  omega
 have hall:(∀c∈ZrU m r,ZW v c=true)↔∀k,k<4→(Zel m r k).countP (ZR v)≤1:=by
  unfold ZrU
  constructor
  ·intro h k hk
   by_cases q:1<(Zel m r k).length
   ·have:=h _ (XaL.2 ⟨k,Xay.2 hk,by rw[if_pos q];exact Xau⟩)
    rw[hev,Xaf]at this
    exact this
   ·have:=List.countP_le_length (p:=ZR v) (l:=Zel m r k)
    omega
  ·intro h c hc
   obtain⟨k,hk,hc⟩:=XaL.1 hc
   split at hc
   ·rw[Xah]at hc
    subst hc
    rw[hev,Xaf]
    exact h k (Xay.1 hk)
   ·exact absurd hc XaB
 rw[hall,hh,ZKY]
 have hlit:∀c∈r.2.1,∀k:Nat,(k:Int)≤m.1.getD c.toNat 0→ZR v (ZbJ m c.toNat k)=decide (x.getD c.toNat 0=k):=fun c hc k hk=>by
  obtain⟨c0,c1⟩:=Zla ho hc
  rw[Zmo hm c1 hk,hd.2 c.toNat c1 k hk]
 constructor
 ·intro h
  unfold Zb5
  refine Zrb (fun a ha b hb e=>?_) ho.nodup
  have ha1:=hcell a ha
  have hb1:=hcell b hb
  obtain⟨a0,a1⟩:=Zla ho ha
  obtain⟨b0,b1⟩:=Zla ho hb
  have hs:=ZeJ hm a1
  have hk:=(ZnK (Zn4 hm ho).1).1 (h (x.getD a.toNat 0).toNat (by omega)) (ZbJ m a.toNat (x.getD a.toNat 0).toNat) (XaF.2 ⟨a,XaM.2 ⟨ha,Xae (by omega)⟩,rfl⟩) (ZbJ m b.toNat (x.getD a.toNat 0).toNat) (XaF.2 ⟨b,XaM.2 ⟨hb,Xae (by omega)⟩,rfl⟩)
   (by rw[hlit a ha _ (by omega),Xaf];omega) (by rw[hlit b hb _ (by omega),Xaf];omega)
  have:=(ZuT hm a1 (by omega) b1 (by omega) hk).1
  omega
 ·intro h k _
  rw[ZnK (Zn4 hm ho).1]
  intro y hy z hz py pz
  obtain⟨a,ha,ka,rfl⟩:=(Zn4 hm ho).2 y hy
  obtain⟨b,hb,kb,rfl⟩:=(Zn4 hm ho).2 z hz
  rw[hlit a ha k ka,Xaf]at py
  rw[hlit b hb k kb,Xaf]at pz
  have hab:a=b:=by
   unfold Zb5 List.Nodup at h
   rw[List.pairwise_map]at h
   by_cases e:a=b
   ·exact e
   ·exfalso
    obtain⟨i,hi,ei⟩:=Xan.1 ha
    obtain⟨j,hj,ej⟩:=Xan.1 hb
    rw[XaV]at h
    rcases Nat.lt_trichotomy i j with q|q|q
    ·have:=h i j hi hj q
     rw[ei,ej,py,pz]at this
     exact this rfl
    ·subst q
     rw[ei]at ej
     exact e ej
    ·have:=h j i hj hi q
     rw[ei,ej,py,pz]at this
     exact this rfl
  rw[hab]
end Go.AE.Y
namespace Go.AE.Y
open Go Go.AE
set_option maxHeartbeats 400000
theorem ZL1 (l:List Int):∀a:Int,l.foldl (fun a n=>a+(n+1)) a=a+(l.map (fun n=>n+1)).sum:=by
 induction l with
 |nil=>intro a;exact(Int.add_zero a).symm
 |cons x l ih=>
  intro a
  rw[Xbl,ih,XaQ,XbN]
  omega
theorem ZEu {m:Zr}:∀n,n≤m.1.length→ZM m n=ZfO (fun i=>m.1.getD i 0+1) n
 |0,_=>rfl
 |n+1,h=>by
  rw[ZfG (by omega),ZEu n (by omega)]
  rfl
def smM (m:Zr) (r:ZG):Zr:=(r.2.1.map (fun c=>m.1.getD c.toNat 0),[])
theorem ZBa {m:Zr} {r:ZG} (hm:ZE m=true) (ho:Zdl m r):ZE (smM m r)=true:=by
 have h5:=ZhJ hm ho
 have hs:ZmA (smM m r).1≤12:=by
  have h12:=(Zgl hm m.1.length (Nat.le_refl _)).2
  rw[ZEu _ (Nat.le_refl _)]at h12
  have e:ZmA (smM m r).1=((r.2.1.map Int.toNat).map (fun i=>m.1.getD i 0+1)).sum:=by
   unfold ZmA smM
   rw[ZL1,XbX,XbG,XbG]
   rfl
  rw[e,ZFU (n:=m.1.length) _ (Zrb (fun a ha b hb h=>by
   have:=(Zla ho ha).1
   have:=(Zla ho hb).1
   omega) ho.nodup) (fun x hx=>by
   obtain⟨c,hc,rfl⟩:=XaF.1 hx
   exact(Zla ho hc).2)]
  refine Int.le_trans (Zz5 _ (fun i hi=>?_)) h12
  have:=ZeJ hm hi
  split<;>omega
 unfold ZE
 simp only[Xag,Xaf,Xar]
 refine⟨⟨?_,?_⟩,?_,?_,hs,fun r hr=>absurd hr XaB⟩
 ·show 1≤(r.2.1.map _).length
  rw[Xak];exact ho.pos
 ·show (r.2.1.map _).length≤5
  rw[Xak];exact h5
 ·show ([]:List ZG).length≤8
  exact Nat.zero_le _
 ·intro x hx
  obtain⟨c,hc,rfl⟩:=XaF.1 hx
  have:=ZeJ hm (Zla ho hc).2
  unfold ZdX
  rw[Xag,Xaf,Xaf]
  omega
def ZlJ (m:Zr) (r:ZG) (vals:List Int):List Int:=(List.range r.2.1.length).map (fun i=>0 - ZbJ m (r.2.1.getD i 0).toNat (vals.getD i 0).toNat)
def Zo8 (m:Zr) (r:ZG):Zu:=((Zm5 (smM m r) (ZlX (smM m r))).filter (fun vals=>!holdsB r vals)).map (fun vals=>Zjg (ZlJ m r vals))
theorem ZJK {m:Zr} {r:ZG} {i:Nat} (h:i<r.2.1.length):(smM m r).1.getD i 0=m.1.getD (r.2.1.getD i 0).toNat 0:=by
 unfold smM
 rw[Zmi (d:=0) (h:=h)]
theorem ZIF {m:Zr} {r:ZG} {x:List Int} (ho:Zdl m r) (hx:Z2 m x=true):Z2 (smM m r) (Zb5 r.2.1 x)=true:=by
 obtain⟨x1,x2⟩:=ZcL hx
 have hlen:(Zb5 r.2.1 x).length=r.2.1.length:=Xak ..
 have hlen2:(smM m r).1.length=r.2.1.length:=Xak ..
 unfold Z2 cellAt
 simp only[Xag,Xaf,Xar,Xay]
 refine⟨by omega,fun i hi=>?_⟩
 have hi':i<r.2.1.length:=by omega
 have:=(ho.vars i hi').2
 rw[Zs3 hi',ZJK hi']
 exact x2 _ (by omega)
theorem ZvE {m:Zr} {r:ZG} {vals:List Int} (hm:ZE m=true) (ho:Zdl m r) (hv:Z2 (smM m r) vals=true):ZcN (ZlJ m r vals)=true∧∀i,i<r.2.1.length→0≤vals.getD i 0∧vals.getD i 0≤m.1.getD (r.2.1.getD i 0).toNat 0:=by
 obtain⟨v1,v2⟩:=ZcL hv
 have hlen2:(smM m r).1.length=r.2.1.length:=Xak ..
 have hr:∀i,i<r.2.1.length→0≤vals.getD i 0∧vals.getD i 0≤m.1.getD (r.2.1.getD i 0).toNat 0:=fun i hi=>by
  have:=v2 i (by omega)
  rwa [ZJK hi]at this
 have hneg:∀y∈ZlJ m r vals,-12≤y∧y ≤ -1:=fun y hy=>by
  obtain⟨i,hi,rfl⟩:=XaF.1 hy
  have hi:=Xay.1 hi
  have:=hr i hi
  have:=Zdc hm (ho.vars i hi).2 (k:=(vals.getD i 0).toNat) (by omega)
  omega
 refine⟨?_,hr⟩
 unfold ZcN
 rw[Xag,Xar,Xar]
 refine⟨fun y hy=>Zy.2 (by have:=hneg y hy;omega),fun y hy=>?_⟩
 rw[XaW,XaN]
 intro z hz e
 have:=hneg y hy
 have:=hneg z hz
 have:=beq_iff_eq.1 e
 omega
theorem ZC5 {m:Zr} {r:ZG} {v:List Bool} {x vals:List Int} (hm:ZE m=true) (ho:Zdl m r) (hd:Dec m v x) (hv:Z2 (smM m r) vals=true):ZW v (Zjg (ZlJ m r vals))=true↔vals≠Zb5 r.2.1 x:=by
 obtain⟨l1,l2⟩:=ZvE hm ho hv
 have hlen:(Zb5 r.2.1 x).length=r.2.1.length:=Xak ..
 have hlen2:(smM m r).1.length=r.2.1.length:=Xak ..
 have hvl:=(ZcL hv).1
 have hlit:∀i,i<r.2.1.length→ZR v (0 - ZbJ m (r.2.1.getD i 0).toNat (vals.getD i 0).toNat) = !decide (x.getD (r.2.1.getD i 0).toNat 0=vals.getD i 0):=fun i hi=>by
  have h1:=l2 i hi
  have h2:=(ho.vars i hi).2
  rw[ZJr hm h2 (by omega),hd.2 _ h2 _ (by omega),show (((vals.getD i 0).toNat:Nat):Int)=vals.getD i 0 by omega]
 rw[ZAs l1,Xbm]
 constructor
 ·rintro⟨y,hy,py⟩ e
  obtain⟨i,hi,rfl⟩:=XaF.1 hy
  have hi:=Xay.1 hi
  rw[hlit i hi,XaW,decide_eq_false_iff_not,e,Zs3 hi]at py
  exact py rfl
 ·intro hne
  by_cases q:∃i,i<r.2.1.length∧x.getD (r.2.1.getD i 0).toNat 0≠vals.getD i 0
  ·obtain⟨i,hi,h⟩:=q
   exact⟨_,XaF.2 ⟨i,Xay.2 hi,rfl⟩,by rw[hlit i hi,decide_eq_false h];rfl⟩
  ·exfalso
   refine hne (ZtK (by omega) (fun i hi=>?_))
   have hi':i<r.2.1.length:=by omega
   rw[Zs3 hi']
   by_cases e:x.getD (r.2.1.getD i 0).toNat 0=vals.getD i 0
   ·exact e.symm
   ·exact absurd ⟨i,hi',e⟩ q
theorem ZKX {m:Zr} {r:ZG} {v:List Bool} {x:List Int} (hm:ZE m=true) (ho:Zdl m r) (hd:Dec m v x):(∀c∈Zo8 m r,ZW v c=true)↔holdsB r (Zb5 r.2.1 x)=true:=by
 have hsm:=ZBa hm ho
 unfold Zo8
 constructor
 ·intro h
  cases hq:holdsB r (Zb5 r.2.1 x)with
  |true=>rfl
  |false=>
   exfalso
   have hp:=ZIF ho hd.1
   have:=h _ (XaF.2 ⟨Zb5 r.2.1 x,XaM.2 ⟨(Zyx hsm).2 hp,by rw[hq];rfl⟩,rfl⟩)
   exact(ZC5 hm ho hd hp).1 this rfl
 ·intro h c hc
  obtain⟨vals,hv,rfl⟩:=XaF.1 hc
  obtain⟨v1,v2⟩:=XaM.1 hv
  refine(ZC5 hm ho hd ((Zyx hsm).1 v1)).2 (fun e=>?_)
  rw[e,h]at v2
  cases v2
def ZnO (m:Zr) (r:ZG):Zu:=if r.1=1 then[Zrx m r]else if r.1=2 then ZrU m r else Zo8 m r
def Zcs (m:Zr):Zu:=(List.range m.1.length).flatMap (ZmF m)++m.2.flatMap (ZnO m)
def Zzz (m:Zr):Bool×Zu:=bif ZE m&&decide ((Zcs m).length≤400)then(true,Zcs m)else(false,[])
theorem ZFz {m:Zr} {r:ZG} {v:List Bool} {x:List Int} (hm:ZE m=true) (hr:r∈m.2) (hd:Dec m v x):(∀c∈ZnO m r,ZW v c=true)↔holdsB r (Zb5 r.2.1 x)=true:=by
 have ho:=Zp6 hm hr
 unfold ZnO
 by_cases k1:r.1=1
 ·rw[if_pos k1,←ZLS hm ho hd k1]
  exact⟨fun h=>h _ Xau,fun h c hc=>by rw[Xah]at hc;rw[hc];exact h⟩
 rw[if_neg k1]
 by_cases k2:r.1=2
 ·rw[if_pos k2]
  exact ZKT hm ho hd k2
 rw[if_neg k2]
 exact ZKX hm ho hd
theorem ZG6 {m:Zr} {v:List Bool} (hm:ZE m=true):Zek (Zcs m) v↔∃x,Dec m v x∧ZcH m x=true:=by
 unfold Zek Zcs
 constructor
 ·intro h
  obtain⟨x,hd⟩:=ZI3 hm (fun i hi c hc=>h c (Xa4 _ (XaL.2 ⟨i,Xay.2 hi,hc⟩)))
  refine⟨x,hd,?_⟩
  unfold ZcH
  rw[Xar]
  intro r hr
  exact(ZFz hm hr hd).1 (fun c hc=>h c (Xa1 _ (XaL.2 ⟨r,hr,hc⟩)))
 ·rintro⟨x,hd,hs⟩ c hc
  unfold ZcH at hs
  rw[Xar]at hs
  rcases List.mem_append.1 hc with h|h
  ·obtain⟨i,hi,hc⟩:=XaL.1 h
   exact ZI8 hm hd i (Xay.1 hi) c hc
  ·obtain⟨r,hr,hc⟩:=XaL.1 h
   exact(ZFz hm hr hd).2 (hs r hr) c hc
end Go.AE.Y
namespace Go.AE.Y
open Go Go.AE
set_option maxHeartbeats 400000
theorem Zs4 {n i:Nat} (h:i<n):(List.range n).getD i 0=i:=by
 rw[Xaa,Xac (by rw[XaI];exact h),List.getElem_range]
 rfl
theorem ZA1 (vs:List Int):vs.map (fun x=>((1:Int),0 - x))=Z1 (Zbb vs):=by
 unfold Z1 Zbb
 rw[XbG]
 rfl
theorem ZrJ {vs:List Int} (hl:vs.length≤1000) (hv:∀x∈vs,-1000≤x∧x≤1000):ZjG vs=some ((Zjl vs).2,(Zjl vs).1):=by
 unfold ZjG
 rw[Zf (by omega) (by omega)]
 show _=some ((vs.length:Int) - 1,Z1 (Zbb vs))
 rw[←ZA1]
 refine ZbU (f:=Zgz vs) vs 0 (fun x=>((1:Int),0 - x)) [] (fun o=>((vs.length:Int) - 1,o)) (fun i out hi ho=>?_) ?_
 ·have:=hv _ (Zz (l:=vs) (i:=i) (d:=0) hi)
  have ho:out.length=i:=by rw[ho];simp
  unfold Zgz
  dsimp only
  rw[Zc (by omega),Zb ⟨by omega,by omega⟩,Xab,Zf (by omega) (by omega),Zb (by simp only[Zl,Xap,Xao];omega),Zf (by omega) (by omega)]
 ·unfold Zgz
  dsimp only
  rw[Zd (by omega)]
theorem ZuS {vs:List Int} (hl:vs.length≤1000) (hv:∀x∈vs,-1000≤x∧x≤1000):ZnC vs=some ((Zjl vs).2,(Zjl vs).1):=by
 unfold ZnC
 rw[Zf (by omega) (by omega)]
 show _=some ((vs.length:Int) - 1,Z1 (Zbb vs))
 rw[←ZA1]
 refine ZbU (f:=ZjX vs) vs 0 (fun x=>((1:Int),0 - x)) [] (fun o=>((vs.length:Int) - 1,o)) (fun i out hi ho=>?_) ?_
 ·have:=hv _ (Zz (l:=vs) (i:=i) (d:=0) hi)
  have ho:out.length=i:=by rw[ho];simp
  unfold ZjX
  dsimp only
  rw[Zc (by omega),Zb ⟨by omega,by omega⟩,Xab,Zf (by omega) (by omega),Zb (by simp only[Zl,Xap,Xao];omega),Zf (by omega) (by omega)]
 ·unfold ZjX
  dsimp only
  rw[Zd (by omega)]
theorem ZJY (m:Zr) (i:Nat):(Zdx m i).length=Zd5 m i:=by
 unfold Zdx
 rw[Xak,XaI]
theorem ZAa {m:Zr} (hm:ZE m=true) {i:Nat} (hi:i<m.1.length):∀x∈Zdx m i,1≤x∧x≤12:=fun x hx=>by
 obtain⟨k,hk,rfl⟩:=XaF.1 hx
 have:=Zdc hm hi ((Zfn hm hi).1 (Xay.1 hk))
 omega
theorem Zsg {m:Zr} (hm:ZE m=true) {i:Nat} (hi:i<m.1.length):(Zd5 m i:Int)=m.1.getD i 0+1:=by
 have:=(Zmu hm hi).1
 unfold Zd5 at this ⊢
 omega
theorem Zux {m:Zr} (hm:ZE m=true) {i:Nat} (hi:i<m.1.length):Zgw m i=some (Zdx m i):=by
 have hz:=Zsg hm hi
 have h4:=Zmu hm hi
 unfold Zgw
 rw[Zb ⟨by omega,by omega⟩,Xab,Zf (by omega) (by omega)]
 refine ZbU (f:=Ze1 m i) (List.range (Zd5 m i)) 0 (ZbJ m i) [] (fun o=>o) (fun k out hk ho=>?_) ?_
 ·rw[XaI]at hk
  have ho:out.length=k:=by rw[ho];simp
  unfold Ze1
  dsimp only
  rw[Xab,Zc (by omega),ZiI hm hi (by omega),Ze,Zb (by simp only[Zl,Xap,Xao];omega),Zf (by omega) (by omega),Zs4 hk]
  rfl
 ·rw[XaI]
  unfold Ze1
  dsimp only
  rw[Xab,Zd (by omega)]
theorem ZtE {l:List Int} (h:ZcN l=true) (hl:l.length≤40):Zio l=(true,(Zjg l).2,(Zjg l).1):=by
 unfold Zio
 rw[Xae hl,h]
 rfl
theorem ZCt {m:Zr} (hm:ZE m=true) {i:Nat} (hi:i<m.1.length):Zqq m i=some (ZmF m i):=by
 have hz:=Zsg hm hi
 have h4:=Zmu hm hi
 obtain⟨v1,_,_,_,v5⟩:=Zv4 hm hi
 have hin:=ZAa hm hi
 have hfin:ZjV (Zdx m i)=some (ZmF m i):=by
  unfold ZjV
  rw[ZkC _ (by omega),Ze,ZtE v1 (by omega),ZuS (by omega) (fun x hx=>by have:=hin x hx;omega),Ze]
  unfold ZmF
  generalize Zjg (Zdx m i)=a
  generalize Zjl (Zdx m i)=b
  rfl
 unfold Zqq
 have:=ZbU (f:=ZjW m i) (List.range (Zd5 m i)) 0 (ZbJ m i) [] (fun o=>ZmF m i) (fun k out hk ho=>?_) ?_
 ·exact this
 ·rw[XaI]at hk
  have ho:out.length=k:=by rw[ho];simp
  unfold ZjW
  dsimp only
  rw[Zb ⟨by omega,by omega⟩,Xab,Zc (by omega),Zir hm hi (by omega),Ze,Zb (by simp only[Zl,Xap,Xao];omega),Zf (by omega) (by omega),Zs4 hk]
  rfl
 ·rw[XaI]
  unfold ZjW
  dsimp only
  rw[Zb ⟨by omega,by omega⟩,Xab,Zd (by omega),Xat]
  show up (ZjV (Zdx m i))=_
  rw[hfin]
  rfl
theorem ZmQ {m:Zr} {r:ZG} (hm:ZE m=true) (ho:Zdl m r) {i:Nat} (hi:i<r.2.1.length):(0≤r.2.1.getD i 0∧(r.2.1.getD i 0).toNat<m.1.length)∧(Zd5 m (r.2.1.getD i 0).toNat:Int)=m.1.getD (r.2.1.getD i 0).toNat 0+1∧Zd5 m (r.2.1.getD i 0).toNat≤4∧r.2.1.length≤5:=by
 have h:=ho.vars i hi
 exact⟨h,Zsg hm h.2,(Zmu hm h.2).2,ZhJ hm ho⟩
theorem ZGC {m:Zr} {r:ZG} (hm:ZE m=true) (ho:Zdl m r) (k1:r.1=1):Zb3 m r=some [Zrx m r]:=by
 obtain⟨l1,l2,l3,l4⟩:=ho.lin k1
 have h5:=ZhJ hm ho
 have hfin:Ze0 r (ZgZ m r r.2.1.length)=some [Zrx m r]:=by
  obtain⟨c1,c2⟩:=ZsX hm ho k1 r.2.1.length (Nat.le_refl _)
  unfold Ze0
  rw[ZtQ (fun t ht=>(c2 t ht).1) (by omega) ⟨by omega,by omega⟩,Ze]
  unfold Zrx Zkw
  generalize ZcV _ _=q
  rfl
 unfold Zb3
 rw[Zx k1]
 refine ZJ (fun s:Int×List (Int×Int)=>∃i:Nat,s.1=i∧i≤r.2.1.length∧s.2=ZgZ m r i) (fun s=>r.2.1.length - s.1.toNat) (fun _=>[Zrx m r]) ?_ _ ⟨0,rfl,Nat.zero_le _,rfl⟩
 rintro⟨s,out⟩ ⟨i,hi1,hi,ho'⟩
 dsimp only at hi1 ho'
 subst hi1
 unfold Zhr
 dsimp only
 rcases Xad i r.2.1.length with q|q
 ·left
  obtain⟨⟨a0,a1⟩,a2,a3,_⟩:=ZmQ hm ho q
  have hc:=l2 i
  obtain⟨c1,_⟩:=ZsX hm ho k1 i hi
  rw[Zc (by omega),Zb ⟨by omega,by omega⟩,Xab,Zb ⟨by omega,by omega⟩,Zf (by omega) (by omega)]
  have hl:loop (Zda m r i) ((0:Int),out)=some (Sum.inl ((i:Int)+1,ZgZ m r (i+1)):(Int×List (Int×Int))⊕(List Zbt)):=by
   have:=ZbU (f:=Zda m r i) (List.range (Zd5 m (r.2.1.getD i 0).toNat)) 0 (fun (k:Nat)=>(r.2.2.1.getD i 0*(k:Int),ZbJ m (r.2.1.getD i 0).toNat k)) out (fun o=>Sum.inl ((i:Int)+1,o)) (fun k o hk hko=>?_) ?_
   ·rw[this,ho']
    rfl
   ·rw[XaI]at hk
    have hko:o.length≤40:=by rw[hko,ho'];omega
    have hb:=ZAX (a:=r.2.2.1.getD i 0) (k:=k) hc ⟨by omega,by omega⟩
    have eb:=ZiI hm a1 (k:=k) (by omega)
    rw[show (((r.2.1.getD i 0).toNat:Nat):Int)=r.2.1.getD i 0 by omega]at eb
    unfold Zda
    dsimp only
    rw[Xab,Zc (by omega),Zb ⟨by omega,by omega⟩,Zf (by omega) (by omega),eb,Ze,Zb (by simp only[Zl,Xap,Xao];omega),Zf (by omega) (by omega),Zs4 hk]
    rfl
   ·rw[XaI]
    unfold Zda
    dsimp only
    rw[Xab,Zd (by omega),Zf (by omega) (by omega)]
  rw[hl]
  exact⟨_,rfl,⟨i+1,by simp,by omega,rfl⟩,by (try dsimp only)<;>omega,rfl⟩
 ·right
  have:i=r.2.1.length:=by omega
  subst this
  rw[Zd (by omega),ho',hfin]
  rfl
theorem Zzx {s:Int×List Int} {t:Int×Int} (h:0<t.2):Zm4 s t=(s.1,s.2.set t.2.toNat (s.2.getD t.2.toNat 0+t.1)):=by
 unfold Zm4
 rw[if_neg (by omega)]
theorem ZFi {b:Int} {j:Nat}:∀(ts:List (Int×Int)) (s:Int×List Int),(∀t∈ts,0<t.2∧t.2.toNat≠j)→(ts.foldl Zm4 s).2.getD j 0=s.2.getD j 0
 |[],_,_=>rfl
 |t::ts,s,h=>by
  rw[Xbl,ZFi (b:=b) ts (Zm4 s t) (fun x hx=>h x (Xas _ hx))]
  obtain⟨h1,h2⟩:=h t Xau
  rw[Zzx h1]
  exact ZU h2
theorem ZHl:∀(ts:List (Int×Int)) (s:Int×List Int),(∀t∈ts,0<t.2)→(ts.foldl Zm4 s).1=s.1
 |[],_,_=>rfl
 |t::ts,s,h=>by
  rw[Xbl,ZHl ts (Zm4 s t) (fun x hx=>h x (Xas _ hx))]
  rw[Zzx (h t Xau)]
theorem ZKR (m:Zr) (i:Nat) (c:Int) (n:Nat):ZpM m i c (n+1)=ZpM m i c n++[(c*(n:Int),ZbJ m i n)]:=by
 unfold ZpM
 rw[Xbz,Xa0]
 rfl
theorem ZzM {m:Zr} {r:ZG} {t:Int×Int}:∀n,t∈ZgZ m r n→∃i k,i<n∧k<Zd5 m (r.2.1.getD i 0).toNat∧t.2=ZbJ m (r.2.1.getD i 0).toNat k
 |0,h=>absurd h XaB
 |n+1,h=>by
  rcases List.mem_append.1 h with q|q
  ·obtain⟨i,k,h1,h2,h3⟩:=ZzM n q
   exact⟨i,k,by omega,h2,h3⟩
  ·obtain⟨k,hk,rfl⟩:=XaF.1 q
   exact⟨n,k,by omega,Xay.1 hk,rfl⟩
theorem ZFy {m:Zr} {r:ZG} (ho:Zdl m r) {i j:Nat} (hi:i<r.2.1.length) (hj:j<r.2.1.length) (h:(r.2.1.getD i 0).toNat=(r.2.1.getD j 0).toNat):i=j:=by
 have h1:=(ho.vars i hi).1
 have h2:=(ho.vars j hj).1
 have e:r.2.1.getD i 0=r.2.1.getD j 0:=by omega
 rw[Xaa,Xaa,Xac hi,Xac hj]at e
 exact(List.getElem_inj ho.nodup).1 e
theorem ZLR {m:Zr} {r:ZG} (hm:ZE m=true) (ho:Zdl m r) {i k:Nat} (hi:i<r.2.1.length) (hk:k<Zd5 m (r.2.1.getD i 0).toNat):∀t∈ZgZ m r i++ZpM m (r.2.1.getD i 0).toNat (r.2.2.1.getD i 0) k,0<t.2∧t.2.toNat≠(ZbJ m (r.2.1.getD i 0).toNat k).toNat:=fun t ht=>by
 have hv:=(ho.vars i hi).2
 have hk':=(Zfn hm hv).1 hk
 have r1:=Zdc hm hv hk'
 rcases List.mem_append.1 ht with q|q
 ·obtain⟨i',k',h1,h2,h3⟩:=ZzM i q
  have hv':=(ho.vars i' (by omega)).2
  have h2':=(Zfn hm hv').1 h2
  have r2:=Zdc hm hv' h2'
  rw[h3]
  refine⟨by omega,fun e=>?_⟩
  have:=(ZuT hm hv' h2' hv hk' (by omega)).1
  have:=ZFy ho (by omega) hi this
  omega
 ·obtain⟨k',h1,rfl⟩:=XaF.1 q
  have h1:=Xay.1 h1
  have h2':=(Zfn hm hv).1 (show k'<Zd5 m (r.2.1.getD i 0).toNat by omega)
  have r2:=Zdc hm hv h2'
  dsimp only
  refine⟨by omega,fun e=>?_⟩
  have:=(ZuT hm hv h2' hv hk' (by omega)).2
  omega
theorem ZK7 {m:Zr} {r:ZG} (hm:ZE m=true) (ho:Zdl m r) {b:Int} {i k:Nat} (hi:i<r.2.1.length) (hk:k<Zd5 m (r.2.1.getD i 0).toNat) :
  (ZcZ (ZgZ m r i++ZpM m (r.2.1.getD i 0).toNat (r.2.2.1.getD i 0) (k+1)) b).2=(ZcZ (ZgZ m r i++ZpM m (r.2.1.getD i 0).toNat (r.2.2.1.getD i 0) k) b).2.set (ZbJ m (r.2.1.getD i 0).toNat k).toNat (r.2.2.1.getD i 0*(k:Int)):=by
 have hn:=ZLR hm ho hi hk
 have hv:=(ho.vars i hi).2
 have r1:=Zdc hm hv ((Zfn hm hv).1 hk)
 have h0:=ZFi (b:=b) _ (b,List.replicate 13 0) hn
 rw[ZD8]at h0
 rw[ZKR,←XaK]
 unfold ZcZ
 rw[Xa6]
 show (Zm4 _ (r.2.2.1.getD i 0*(k:Int),ZbJ m (r.2.1.getD i 0).toNat k)).2=_
 rw[Zzx (show 0<ZbJ m (r.2.1.getD i 0).toNat k by omega)]
 dsimp only
 rw[h0,XbX]
theorem ZGW {m:Zr} {r:ZG} (hm:ZE m=true) (ho:Zdl m r) (k1:r.1=1):ZnS m r=some [Zrx m r]:=by
 obtain⟨l1,l2,l3,l4⟩:=ho.lin k1
 have h5:=ZhJ hm ho
 obtain⟨c1,c2⟩:=ZsX hm ho k1 r.2.1.length (Nat.le_refl _)
 have hpos:∀t∈ZgZ m r r.2.1.length,0<t.2:=fun t ht=>by
  obtain⟨i,k,h1,h2,h3⟩:=ZzM _ ht
  have hv:=(ho.vars i h1).2
  have:=Zdc hm hv ((Zfn hm hv).1 h2)
  omega
 have hfin:ZkR r (ZcZ (ZgZ m r r.2.1.length) r.2.2.2.1).2=some [Zrx m r]:=by
  obtain⟨n1,_,n3⟩:=Zr4 (b:=r.2.2.2.1) c2 (ZgZ m r r.2.1.length).length (Nat.le_refl _)
  rw[XaA]at n1 n3
  unfold ZkR
  rw[Zta n1 (fun j=>by have:=n3 j;omega) ⟨by omega,by omega⟩,Ze]
  unfold Zrx Zkw
  have e:(ZcZ (ZgZ m r r.2.1.length) r.2.2.2.1).1=r.2.2.2.1:=ZHl _ _ hpos
  rw[e]
  generalize ZcV _ _=q
  rfl
 unfold ZnS
 rw[Zb ⟨by omega,by simp only[Zl];omega,rfl⟩]
 refine ZJ (fun s:Int×List Int=>∃i:Nat,s.1=i∧i≤r.2.1.length∧s.2=(ZcZ (ZgZ m r i) r.2.2.2.1).2) (fun s=>r.2.1.length - s.1.toNat) (fun _=>[Zrx m r]) ?_ _ ⟨0,rfl,Nat.zero_le _,rfl⟩
 rintro⟨s,net⟩ ⟨i,hi1,hi,ho'⟩
 dsimp only at hi1 ho'
 subst hi1
 unfold Zon
 dsimp only
 rcases Xad i r.2.1.length with q|q
 ·left
  obtain⟨⟨a0,a1⟩,a2,a3,_⟩:=ZmQ hm ho q
  have hc:=l2 i
  rw[Zc (by omega)]
  have hl:loop (ZkS m r i) ((0:Int),net)=some (Sum.inl ((i:Int)+1,(ZcZ (ZgZ m r (i+1)) r.2.2.2.1).2):(Int×List Int)⊕(List Zbt)):=by
   refine ZJ (fun s:Int×List Int=>∃k:Nat,s.1=k∧k≤Zd5 m (r.2.1.getD i 0).toNat∧s.2.length=13∧s.2=(ZcZ (ZgZ m r i++ZpM m (r.2.1.getD i 0).toNat (r.2.2.1.getD i 0) k) r.2.2.2.1).2) (fun s=>Zd5 m (r.2.1.getD i 0).toNat - s.1.toNat) (fun _=>_) ?_ _ ⟨0,rfl,Nat.zero_le _,?_,?_⟩
   ·rintro⟨s,net2⟩ ⟨k,hk1,hk,hlen,hnet⟩
    dsimp only at hk1 hlen hnet
    subst hk1
    unfold ZkS
    dsimp only
    rw[Zb ⟨by omega,by omega⟩,Xab,Zb ⟨by omega,by omega⟩]
    rcases Xad k (Zd5 m (r.2.1.getD i 0).toNat)with q2|q2
    ·left
     have hb:=ZAX (a:=r.2.2.1.getD i 0) (k:=k) hc ⟨by omega,by omega⟩
     have eb:=Zir hm a1 (k:=k) (by omega)
     rw[show (((r.2.1.getD i 0).toNat:Nat):Int)=r.2.1.getD i 0 by omega]at eb
     have rm:=Zdc hm a1 ((Zfn hm a1).1 q2)
     have ev:(1:Int)+k+ZM m (r.2.1.getD i 0).toNat=ZbJ m (r.2.1.getD i 0).toNat k:=rfl
     rw[ev]at eb
     rw[Zc (by omega),Zb ⟨by omega,by omega⟩,eb,Ze,Zb ⟨by omega,by omega⟩,Zf (by omega) (by omega),Zb ⟨by omega,by omega⟩,Zf (by omega) (by omega)]
     exact⟨_,rfl,⟨k+1,by simp,by omega,by dsimp only;rw[Xam];exact hlen,by dsimp only;rw[hnet,ZK7 hm ho q q2]⟩,by (try dsimp only)<;>omega,rfl⟩
    ·right
     have:k=Zd5 m (r.2.1.getD i 0).toNat:=by omega
     subst this
     rw[Zd (by omega),Zf (by omega) (by omega),hnet]
     rfl
   ·obtain⟨c1,c2⟩:=ZsX hm ho k1 i hi
    have:=(Zr4 (b:=r.2.2.2.1) c2 (ZgZ m r i).length (Nat.le_refl _)).1
    rw[XaA]at this
    dsimp only
    rw[ho',this]
   ·dsimp only
    rw[ho']
    show _=(ZcZ (ZgZ m r i++[]) r.2.2.2.1).2
    rw[Xax]
  rw[hl]
  exact⟨_,rfl,⟨i+1,by simp,by omega,rfl⟩,by (try dsimp only)<;>omega,rfl⟩
 ·right
  have:i=r.2.1.length:=by omega
  subst this
  rw[Zd (by omega),ho',hfin]
  rfl
end Go.AE.Y
namespace Go.AE.Y
open Go Go.AE
set_option maxHeartbeats 400000
theorem ZAU {β R:Type} {f:Int×List β→Option ((Int×List β)⊕R)} (n:Nat) (p:Nat→Bool) (g:Nat→β) (fin:R)
  (h:∀(i:Nat) (out:List β),i<n→out.length≤n→f ((i:Int),out)=some (.inl ((i:Int)+1,bif p i then out++[g i]else out)))
  (hn:f ((n:Int),((List.range n).filter p).map g)=some (.inr fin)):loop f ((0:Int),[])=some fin:=by
 refine ZJ (fun s:Int×List β=>∃i:Nat,s.1=i∧i≤n∧s.2=((List.range i).filter p).map g) (fun s=>n - s.1.toNat) (fun _=>fin) ?_ _ ⟨0,rfl,Nat.zero_le _,rfl⟩
 rintro⟨i,out⟩ ⟨j,hj,hl,ho⟩
 dsimp only at hj ho
 subst hj
 rcases Xad j n with q|q
 ·left
  have hlen:out.length≤n:=by
   rw[ho,Xak]
   have:=XbJ p (List.range j)
   rw[XaI]at this
   omega
  rw[h j out q hlen]
  refine⟨_,rfl,⟨j+1,by simp,by omega,?_⟩,by (try dsimp only)<;>omega,rfl⟩
  dsimp only
  rw[Xbz,List.filter_append,Xa0,ho]
  cases hp:p j with
  |true=>rw[ctt,Xa8 hp];rfl
  |false=>rw[cff,Xa7 (by rw[hp];decide)];exact(Xax _).symm
 ·right
  have:j=n:=by omega
  rw[ho,this]
  exact hn
theorem ZHa {α β:Type} (l:List α) (d:α) (p:α→Bool) (g:α→β):(l.filter p).map g=((List.range l.length).filter (fun i=>p (l.getD i d))).map (fun i=>g (l.getD i d)):=by
 have e:(List.range l.length).map (fun i=>l.getD i d)=l:=by
  refine XbP (by rw[Xak,XaI]) (fun i h1 h2=>?_)
  rw[XbZ,List.getElem_range,Xaa,Xac h2]
  rfl
 have:=List.filter_map (f:=fun i=>l.getD i d) (p:=p) (l:=List.range l.length)
 rw[e]at this
 rw[this,XbG]
 rfl
theorem ZDT {l l':List Int} (h:l.Pairwise (· ≤ ·)) (h':l'.Pairwise (· ≤ ·)) (hp:l.Perm l'):l=l':=
 List.Perm.eq_of_pairwise (le:=fun x y=>x≤y) (fun _ _ _ _ h1 h2=>Int.le_antisymm h1 h2) h h' hp
theorem ZDf (l:List Int):(ZmR l).Pairwise (· ≤ ·):=ZFJ l (fun x=>x)
theorem ZmS (l:List Int):(ZmR l).Perm l:=List.mergeSort_perm l _
theorem ZLk {l:List Int} (h:l.length≤4000000000):ZD9 l=some (ZmR l):=if_pos h
theorem ZJR {l:List Int} {k:Nat} (h:k+1<l.length):((l.set (k+1) (l.getD k 0)).set k (l.getD (k+1) 0)).Perm l:=by
 have:=List.set_set_perm (i:=k+1) (j:=k) h (show k<l.length by omega)
 rw[Xaa,Xaa,Xac h,Xac (show k<l.length by omega)]
 exact this
theorem ZMb {l:List Int} (h:∀a b,a<b→b<l.length→l.getD a 0≤l.getD b 0):l.Pairwise (· ≤ ·):=by
 rw[XaV]
 intro i j hi hj hij
 have:=h i j hij hj
 rwa [Xaa,Xaa,Xac hi,Xac hj]at this
theorem ZCv {l:List Int} (hn:l.length≤1000) {i:Nat} (hi:i<l.length) {o:List Int} (hp:o.Perm l) (hs:∀a b,a<b→b<i→o.getD a 0≤o.getD b 0) :
  ∃r:(Int×List Int)⊕List Int,loop (ZkU i) ((i:Int),o)=some r∧∃o':List Int,r=Sum.inl ((i:Int)+1,o')∧o'.Perm l∧∀a b,a<b→b<i+1→o'.getD a 0≤o'.getD b 0:=by
 refine Zb4 (fun s:Int×List Int=>∃k:Nat,s.1=k∧k≤i∧s.2.Perm l∧∀a b,a<b→b≤i→b≠k→s.2.getD a 0≤s.2.getD b 0) (fun s=>s.1.toNat) (fun r:(Int×List Int)⊕List Int=>∃o':List Int,r=Sum.inl ((i:Int)+1,o')∧o'.Perm l∧∀a b,a<b→b<i+1→o'.getD a 0≤o'.getD b 0) ?_ _ ⟨i,rfl,Nat.le_refl _,hp,fun a b h1 h2 h3=>hs a b h1 (by omega)⟩
 rintro⟨s,o⟩ ⟨k,hk1,hk,hp,hs⟩
 dsimp only at hk1 hp hs
 subst hk1
 have hl:=hp.length_eq
 unfold ZkU
 dsimp only
 cases k with
 |zero=>
  right
  rw[Zd (by omega),Zf (by omega) (by omega)]
  exact⟨_,rfl,o,rfl,hp,fun a b h1 h2=>hs a b h1 (by omega) (by omega)⟩
 |succ k=>
  rw[Zc (by omega),Zb ⟨by omega,by omega⟩,Zf (by omega) (by omega),Zb ⟨by omega,by omega⟩,show (((k+1:Nat):Int) - 1).toNat=k by omega,Xab]
  by_cases q:o.getD (k+1) 0<o.getD k 0
  ·left
   rw[Zc q,Zb ⟨by omega,by omega⟩,Zf (by omega) (by omega),Zb ⟨by omega,by omega⟩,Zb ⟨by omega,by omega⟩,Zf (by omega) (by omega),Zb ⟨by omega,by rw[Xam];omega⟩,Zf (by omega) (by omega)]
   have hget:∀j,((o.set (k+1) (o.getD k 0)).set k (o.getD (k+1) 0)).getD j 0=if j=k then o.getD (k+1) 0 else if j=k+1 then o.getD k 0 else o.getD j 0:=fun j=>by
    by_cases e:j=k
    ·rw[if_pos e,e,ZcM (by rw[Xam];omega)]
    ·rw[if_neg e,ZU (by omega)]
     by_cases e2:j=k+1
     ·rw[if_pos e2,e2,ZcM (by omega)]
     ·rw[if_neg e2,ZU (by omega)]
   refine⟨_,rfl,⟨k,by omega,by omega,(ZJR (by omega)).trans hp,fun a b h1 h2 h3=>?_⟩,by dsimp only;omega⟩
   dsimp only
   rw[hget a,hget b,if_neg h3]
   by_cases eb:b=k+1
   ·rw[if_pos eb]
    by_cases ea:a=k
    ·rw[if_pos ea];omega
    ·rw[if_neg ea,if_neg (by omega)]
     exact hs a k (by omega) (by omega) (by omega)
   ·rw[if_neg eb]
    by_cases ea:a=k
    ·rw[if_pos ea]
     exact hs (k+1) b (by omega) h2 eb
    ·rw[if_neg ea]
     by_cases ea2:a=k+1
     ·rw[if_pos ea2]
      exact hs k b (by omega) h2 eb
     ·rw[if_neg ea2]
      exact hs a b h1 h2 eb
  ·right
   rw[Zd q,Zf (by omega) (by omega)]
   refine⟨_,rfl,o,rfl,hp,fun a b h1 h2=>?_⟩
   by_cases e:b=k+1
   ·subst e
    by_cases e2:a=k
    ·rw[e2];omega
    ·have:=hs a k (by omega) (by omega) (by omega)
     omega
   ·exact hs a b h1 (by omega) e
theorem Zz4 {l:List Int} (hn:l.length≤1000):ZnT l=some (ZmR l):=by
 unfold ZnT
 rw[Zb (by simp only[Zl,Xao];omega),Xat]
 have:=Zb4 (f:=ZkT) (fun s:Int×List Int=>∃i:Nat,s.1=i∧i≤l.length∧s.2.Perm l∧∀a b,a<b→b<i→s.2.getD a 0≤s.2.getD b 0) (fun s=>l.length - s.1.toNat) (fun r=>r=ZmR l) ?_ ((0:Int),l) ⟨0,rfl,Nat.zero_le _,List.Perm.refl _,fun a b h1 h2=>by omega⟩
 ·obtain⟨r,e,h⟩:=this
  rw[e,h]
 rintro⟨s,o⟩ ⟨i,hi1,hi,hp,hs⟩
 dsimp only at hi1 hp hs
 subst hi1
 have hl:=hp.length_eq
 unfold ZkT
 dsimp only
 rcases Xad i l.length with q|q
 ·left
  obtain⟨r,e,o',e2,h3,h4⟩:=ZCv hn q hp hs
  rw[Zc (by omega),e,e2]
  exact⟨_,rfl,⟨i+1,by simp,by omega,h3,h4⟩,by dsimp only;omega⟩
 ·right
  rw[Zd (by omega)]
  refine⟨_,rfl,?_⟩
  exact ZDT (ZMb (fun a b h1 h2=>hs a b h1 (by omega))) (ZDf l) (hp.trans (ZmS l).symm)
theorem Zvn {m:Zr} {r:ZG} (hm:ZE m=true) (ho:Zdl m r) (k:Nat):(∀y∈Zel m r k,1≤y∧y≤12)∧(Zel m r k).length≤5:=by
 refine⟨fun y hy=>?_,?_⟩
 ·obtain⟨c,c1,c2,rfl⟩:=(Zn4 hm ho).2 y hy
  have:=Zdc hm (Zla ho c1).2 c2
  omega
 ·unfold Zel
  rw[Xak]
  have:=XbJ (fun c:Int=>decide ((k:Int)≤m.1.getD c.toNat 0)) r.2.1
  have:=ZhJ hm ho
  omega
def Zkl (m:Zr) (r:ZG) (k:Nat):Zu:=if 1<(Zel m r k).length then[Zjl (ZmR (Zel m r k))]else[]
theorem ZEF {m:Zr} {r:ZG} (hm:ZE m=true) (ho:Zdl m r) (k:Nat):(∀x∈ZmR (Zel m r k),-1000≤x∧x≤1000)∧(ZmR (Zel m r k)).length≤1000:=by
 obtain⟨h1,h2⟩:=Zvn hm ho k
 refine⟨fun x hx=>?_,?_⟩
 ·have:=h1 x ((ZmS _).mem_iff.1 hx)
  omega
 ·rw[(ZmS _).length_eq];omega
theorem Zvm (m:Zr) (r:ZG) (k:Nat):(List.range (k+1)).flatMap (Zkl m r)=(List.range k).flatMap (Zkl m r)++Zkl m r k:=by
 rw[Xbz,List.flatMap_append,List.flatMap_cons,XbQ,Xax]
theorem ZtG (m:Zr) (r:ZG):∀k,((List.range k).flatMap (Zkl m r)).length≤k
 |0=>Nat.le_refl _
 |k+1=>by
  have:=ZtG m r k
  have h2:(Zkl m r k).length≤1:=by
   unfold Zkl
   split
   ·exact Nat.le_refl _
   ·exact Nat.zero_le _
  rw[Zvm,Xal]
  omega
theorem ZEX {m:Zr} {r:ZG} (hm:ZE m=true) (ho:Zdl m r) (k2:r.1=2):Zb3 m r=some (ZrU m r):=by
 have h5:=ZhJ hm ho
 unfold Zb3
 rw[Zt (by omega),Zx k2]
 refine ZJ (fun s:Int×Zu=>∃k:Nat,s.1=k∧k≤4∧s.2=(List.range k).flatMap (Zkl m r)) (fun s=>4 - s.1.toNat) (fun _=>ZrU m r) ?_ _ ⟨0,rfl,by omega,rfl⟩
 rintro⟨s,out⟩ ⟨k,hk1,hk,hout⟩
 dsimp only at hk1 hout
 subst hk1
 have hol:out.length≤k:=by rw[hout];exact ZtG m r k
 unfold Zhs
 dsimp only
 rcases Xad k 4 with q|q
 ·left
  have hin:=Zvn hm ho k
  obtain⟨d1,d2⟩:=ZEF hm ho k
  have hj:Zd0 k out (Zel m r k)=some (Sum.inl ((k:Int)+1,(List.range (k+1)).flatMap (Zkl m r))):=by
   unfold Zd0
   rw[Zvm,←hout]
   unfold Zkl
   by_cases q2:1<(Zel m r k).length
   ·rw[if_pos q2,Zc (by omega),ZLk (by omega),Ze,ZrJ d2 d1,Ze,Zb (by simp only[Zl,Xap,Xao];omega),Zf (by omega) (by omega)]
   ·rw[if_neg q2,Zd (by omega),Zf (by omega) (by omega),Xax]
  have hl:loop (Zd2 m r k out) ((0:Int),[])=some (Sum.inl ((k:Int)+1,(List.range (k+1)).flatMap (Zkl m r)):(Int×Zu)⊕Zu):=by
   refine ZAU r.2.1.length (fun i=>decide ((k:Int)≤m.1.getD (r.2.1.getD i 0).toNat 0)) (fun i=>ZbJ m (r.2.1.getD i 0).toNat k) _ (fun i o hi ho2=>?_) ?_
   ·obtain⟨⟨a0,a1⟩,a2,a3,_⟩:=ZmQ hm ho hi
    have eb:=ZiI hm a1 (k:=k) (by omega)
    rw[show (((r.2.1.getD i 0).toNat:Nat):Int)=r.2.1.getD i 0 by omega,show (1:Int)+k+ZM m (r.2.1.getD i 0).toNat=ZbJ m (r.2.1.getD i 0).toNat k from rfl]at eb
    unfold Zd2
    dsimp only
    rw[Zc (by omega),Zb ⟨by omega,by omega⟩,Xab,Zb ⟨by omega,by omega⟩]
    by_cases q3:(k:Int)≤m.1.getD (r.2.1.getD i 0).toNat 0
    ·rw[Zc q3,eb,Ze,Zb (by simp only[Zl,Xap,Xao];omega),Zf (by omega) (by omega),Xae q3]
     rfl
    ·rw[Zd q3,Zf (by omega) (by omega),decide_eq_false q3]
     rfl
   ·have e:=ZHa r.2.1 0 (fun c=>decide ((k:Int)≤m.1.getD c.toNat 0)) (fun c=>ZbJ m c.toNat k)
    rw[←e]
    unfold Zd2
    dsimp only
    rw[Zd (by omega)]
    show up (Zd0 k out (Zel m r k))=_
    rw[hj]
    rfl
  rw[Zc (by omega),hl]
  exact⟨_,rfl,⟨k+1,by simp,by omega,rfl⟩,by (try dsimp only)<;>omega,rfl⟩
 ·right
  have:k=4:=by omega
  rw[Zd (by omega),hout,this]
  rfl
theorem ZFM {m:Zr} {r:ZG} (hm:ZE m=true) (ho:Zdl m r):ZkO m r=some (ZrU m r):=by
 have h5:=ZhJ hm ho
 unfold ZkO
 refine ZJ (fun s:Int×Zu=>∃k:Nat,s.1=k∧k≤4∧s.2=(List.range k).flatMap (Zkl m r)) (fun s=>4 - s.1.toNat) (fun _=>ZrU m r) ?_ _ ⟨0,rfl,by omega,rfl⟩
 rintro⟨s,out⟩ ⟨k,hk1,hk,hout⟩
 dsimp only at hk1 hout
 subst hk1
 have hol:out.length≤k:=by rw[hout];exact ZtG m r k
 unfold Zly
 dsimp only
 rcases Xad k 4 with q|q
 ·left
  have hin:=Zvn hm ho k
  obtain⟨d1,d2⟩:=ZEF hm ho k
  have hj:Zfr k out (Zel m r k)=some (Sum.inl ((k:Int)+1,(List.range (k+1)).flatMap (Zkl m r))):=by
   unfold Zfr
   rw[Zvm,←hout]
   unfold Zkl
   by_cases q2:1<(Zel m r k).length
   ·rw[if_pos q2,Zc (by omega),Zz4 (by omega),Ze,ZuS d2 d1,Ze,Zb (by simp only[Zl,Xap,Xao];omega),Zf (by omega) (by omega)]
   ·rw[if_neg q2,Zd (by omega),Zf (by omega) (by omega),Xax]
  have hl:loop (Zfs m r k out) ((0:Int),[])=some (Sum.inl ((k:Int)+1,(List.range (k+1)).flatMap (Zkl m r)):(Int×Zu)⊕Zu):=by
   refine ZAU r.2.1.length (fun i=>decide ((k:Int)≤m.1.getD (r.2.1.getD i 0).toNat 0)) (fun i=>ZbJ m (r.2.1.getD i 0).toNat k) _ (fun i o hi ho2=>?_) ?_
   ·obtain⟨⟨a0,a1⟩,a2,a3,_⟩:=ZmQ hm ho hi
    have eb:=Zir hm a1 (k:=k) (by omega)
    rw[show (((r.2.1.getD i 0).toNat:Nat):Int)=r.2.1.getD i 0 by omega,show (1:Int)+k+ZM m (r.2.1.getD i 0).toNat=ZbJ m (r.2.1.getD i 0).toNat k from rfl]at eb
    unfold Zfs
    dsimp only
    rw[Zc (by omega),Zb ⟨by omega,by omega⟩,Xab,Zb ⟨by omega,by omega⟩]
    by_cases q3:(k:Int)≤m.1.getD (r.2.1.getD i 0).toNat 0
    ·rw[Zc q3,Zb ⟨by omega,by omega⟩,eb,Ze,Zb (by simp only[Zl,Xap,Xao];omega),Zf (by omega) (by omega),Xae q3]
     rfl
    ·rw[Zd q3,Zf (by omega) (by omega),decide_eq_false q3]
     rfl
   ·have e:=ZHa r.2.1 0 (fun c=>decide ((k:Int)≤m.1.getD c.toNat 0)) (fun c=>ZbJ m c.toNat k)
    rw[←e]
    unfold Zfs
    dsimp only
    rw[Zd (by omega)]
    show up (Zfr k out (Zel m r k))=_
    rw[hj]
    rfl
  rw[Zc (by omega),hl]
  exact⟨_,rfl,⟨k+1,by simp,by omega,rfl⟩,by (try dsimp only)<;>omega,rfl⟩
 ·right
  have:k=4:=by omega
  rw[Zd (by omega),hout,this]
  rfl
end Go.AE.Y
namespace Go.AE.Y
open Go Go.AE
set_option maxHeartbeats 400000
structure Zu9 (m:Zr) (r:ZG) (vals:List Int) (i:Nat) (x:List Int):Prop where
 len:x.length=m.1.length
 dig:∀j,j<m.1.length→0≤x.getD j 0∧x.getD j 0≤m.1.getD j 0
 same:∀j,j<i→x.getD (r.2.1.getD j 0).toNat 0=vals.getD j 0
theorem ZC0 {m:Zr} (hm:ZE m=true) (r:ZG) (vals:List Int):Zu9 m r vals 0 (List.replicate m.1.length 0):=by
 have h:=ZcL (Zpz hm)
 exact⟨h.1,fun j hj=>h.2 j (by rw[h.1];exact hj),fun j hj=>absurd hj (Nat.not_lt_zero _)⟩
theorem ZCZ {m:Zr} {r:ZG} {vals x:List Int} (ho:Zdl m r) (hv:∀i,i<r.2.1.length→0≤vals.getD i 0∧vals.getD i 0≤m.1.getD (r.2.1.getD i 0).toNat 0) {i:Nat} (hi:i<r.2.1.length) (h:Zu9 m r vals i x):Zu9 m r vals (i+1) (x.set (r.2.1.getD i 0).toNat (vals.getD i 0)):=by
 have hc:=(ho.vars i hi).2
 refine⟨by rw[Xam];exact h.len,fun j hj=>?_,fun j hj=>?_⟩
 ·by_cases e:j=(r.2.1.getD i 0).toNat
  ·rw[e,ZcM (by rw[h.len];exact hc)]
   exact hv i hi
  ·rw[ZU (by omega)]
   exact h.dig j hj
 ·by_cases e:j=i
  ·rw[e,ZcM (by rw[h.len];exact hc)]
  ·rw[ZU (fun q=>e (ZFy ho (by omega) hi q.symm))]
   exact h.same j (by omega)
theorem ZCY {m:Zr} {r:ZG} {vals x:List Int} (hl:vals.length=r.2.1.length) (h:Zu9 m r vals r.2.1.length x):Z2 m x=true∧Zb5 r.2.1 x=vals:=by
 refine⟨?_,ZtK (by unfold Zb5;rw[Xak,hl]) (fun i hi=>?_)⟩
 ·unfold Z2 cellAt
  simp only[Xag,Xaf,Xar,Xay]
  exact⟨h.len,fun i hi=>h.dig i (by have:=h.len;omega)⟩
 ·have hi':i<r.2.1.length:=by unfold Zb5 at hi;rwa [Xak]at hi
  rw[Zs3 hi']
  exact h.same i hi'
theorem ZHe {m:Zr} {r:ZG} {vals:List Int} (hm:ZE m=true) (ho:Zdl m r) (hv:∀i,i<r.2.1.length→0≤vals.getD i 0∧vals.getD i 0≤m.1.getD (r.2.1.getD i 0).toNat 0):∀i,i≤r.2.1.length→∃x,Zu9 m r vals i x
 |0,_=>⟨_,ZC0 hm r vals⟩
 |i+1,hi=>by
  obtain⟨x,hx⟩:=ZHe hm ho hv i (by omega)
  exact⟨_,ZCZ ho hv (by omega) hx⟩
theorem ZtV (m:Zr) (r:ZG) (vals:List Int):(ZlJ m r vals).length=r.2.1.length:=by
 unfold ZlJ
 rw[Xak,XaI]
def ZAA (m:Zr) (r:ZG) (l:List (List Int)):Zu:=(l.filter (fun vals=>!holdsB r vals)).map (fun vals=>Zjg (ZlJ m r vals))
def Zg6 (m:Zr) (r:ZG) (vals:List Int):Zu:=bif holdsB r vals then[]else[Zjg (ZlJ m r vals)]
theorem ZrW (m:Zr) (r:ZG) (v:List Int) (l:List (List Int)):ZAA m r (v::l)=Zg6 m r v++ZAA m r l:=by
 unfold ZAA Zg6
 cases h:holdsB r v with
 |true=>rw[Xa7 (by rw[h];decide),ctt,Xat]
 |false=>rw[Xa8 (by rw[h];rfl),cff];rfl
theorem ZzE {m:Zr} {r:ZG} (hm:ZE m=true) (hs:Ze3 r) (hr:r∈m.2) {vals:List Int} (hv:Z2 (smM m r) vals=true) {out:Zu} (hout:out.length≤100000) :
  ZdR r m vals out=some (true,out++Zg6 m r vals):=by
 have ho:=Zp6 hm hr
 have h5:=ZhJ hm ho
 obtain⟨l1,l2⟩:=ZvE hm ho hv
 have hvl:vals.length=r.2.1.length:=by
  have:=(ZcL hv).1
  unfold smM at this
  rwa [Xak]at this
 obtain⟨x,hx⟩:=ZHe hm ho l2 r.2.1.length (Nat.le_refl _)
 obtain⟨x1,x2⟩:=ZCY hvl hx
 have hrb:=ZvH hm r hr
 have hok:=ZzV hm hs x1 hrb
 rw[x2]at hok
 unfold ZdR Zg6
 rw[Zq1 hs (ZvS hrb).2.2 hok,Ze]
 cases holdsB r vals with
 |true=>rw[cnt,ctt,Xax]
 |false=>
  rw[cnf,cff]
  have hfin:Zco out (ZlJ m r vals)=some (true,out++[Zjg (ZlJ m r vals)]):=by
   unfold Zco
   rw[Zkm _ (by rw[ZtV];omega),Ze,ZtE l1 (by rw[ZtV];omega),Zb (by simp only[Zl,Xap,Xao];omega)]
  have:=ZbU (f:=Zcp r m vals out) (List.range r.2.1.length) 0 (fun i=>0 - ZbJ m (r.2.1.getD i 0).toNat (vals.getD i 0).toNat) [] (fun _=>(true,out++[Zjg (ZlJ m r vals)])) (fun i o hi ho2=>?_) ?_
  ·exact this
  ·rw[XaI]at hi
   have ho2:o.length=i:=by rw[ho2];simp
   obtain⟨⟨a0,a1⟩,a2,a3,_⟩:=ZmQ hm ho hi
   have hvi:=l2 i hi
   have eb:=ZiI hm a1 (k:=(vals.getD i 0).toNat) (by omega)
   rw[show (((r.2.1.getD i 0).toNat:Nat):Int)=r.2.1.getD i 0 by omega,show (1:Int)+((vals.getD i 0).toNat:Nat)+ZM m (r.2.1.getD i 0).toNat=ZbJ m (r.2.1.getD i 0).toNat (vals.getD i 0).toNat from rfl,show (((vals.getD i 0).toNat:Nat):Int)=vals.getD i 0 by omega]at eb
   have rm:=Zdc hm a1 (k:=(vals.getD i 0).toNat) (by omega)
   unfold Zcp
   dsimp only
   rw[Zc (by omega),Zb ⟨by omega,by omega⟩,Zb ⟨by omega,by omega⟩,Xab,eb,Ze,Zf (by omega) (by omega),Zb (by simp only[Zl,Xap,Xao];omega),Zf (by omega) (by omega),Zs4 hi]
  ·rw[XaI,Xat]
   unfold Zcp
   dsimp only
   rw[Zd (by omega)]
   show up (Zco out (ZlJ m r vals))=_
   rw[hfin]
   rfl
theorem ZHt (m:Zr) (r:ZG):(smM m r).1.length=r.2.1.length:=Xak ..
theorem ZEY {m:Zr} {r:ZG} (hm:ZE m=true) (hs:Ze3 r) (hr:r∈m.2) (h1:r.1≠1) (h2:r.1≠2):Zb3 m r=some (Zo8 m r):=by
 have ho:=Zp6 hm hr
 have h5:=ZhJ hm ho
 have hsm:=ZBa hm ho
 have hz:Z2 (smM m r) (ZlX (smM m r))=true:=Zpz hsm
 have hlen:=ZHt m r
 have hfin:Zd1 m r (smM m r).1=some (Zo8 m r):=by
  unfold Zd1
  rw[Zb ⟨by omega,by simp only[Zl];omega,rfl⟩,Xab]
  have key:Zck (smM m r).1 (List.replicate (smM m r).1.length 0) r m=some (Zo8 m r):=by
   unfold Zck
   rw[ZCN (by rw[XaG];omega),Ze]
   refine(ZJ (f:=ZbY (smM m r).1 r m) (fun s:List Int×Zu=>Z2 (smM m r) s.1=true∧s.2.length+muF s.1≤2000) (fun s=>muF s.1) (fun s=>s.2++ZAA m r (Zm5 (smM m r) s.1)) ?_ _ ⟨hz,by unfold muF;simp;omega⟩).trans (by rw[Xat];rfl)
   rintro⟨x,out⟩ ⟨hx,hb⟩
   dsimp only at hx hb ⊢
   obtain⟨x1,x2⟩:=Ze9 hx
   have hp:=(Zq8 hsm hx).1
   have hst:(Zg6 m r x).length≤1:=by
    unfold Zg6
    cases holdsB r x with
    |true=>exact Nat.zero_le _
    |false=>exact Nat.le_refl _
   unfold ZbY
   dsimp only
   rw[ZzE hm hs hr hx (by omega),Ze,ctt,Zf (by omega) (by omega),ZFm (X:=(List Int×Zu)⊕Zu) hsm hx (fun y=>.inl (y,out++Zg6 m r x)) (.inr (out++Zg6 m r x)) (f:=ZcY (smM m r).1 (true,out++Zg6 m r x)) (g:=ZbX (true,out++Zg6 m r x)) (fun i y=>rfl) (fun i y=>rfl),Zvc hsm hx]
   cases hq:(ZbO (smM m r) x).1 with
   |true=>
    left
    have hmu:=Zsd hsm hx hq
    refine⟨_,rfl,⟨ZmO hx,by dsimp only;rw[Xal];omega⟩,hmu,?_⟩
    dsimp only
    rw[ctt,ZrW,XaK]
   |false=>
    right
    rw[cff,cff,ZrW]
    show some (Sum.inr (out++Zg6 m r x))=some (Sum.inr (out++(Zg6 m r x++[])))
    rw[Xax]
  rw[key,Ze]
 unfold Zb3
 rw[Zt h1,Zt h2]
 have:=ZbU (f:=Zd3 m r) r.2.1 0 (fun c=>m.1.getD c.toNat 0) [] (fun _=>Zo8 m r) (fun i o hi ho2=>?_) ?_
 ·exact this
 ·have ho2:o.length=i:=by rw[ho2];simp
  have hv:=ho.vars i hi
  unfold Zd3
  dsimp only
  rw[Zc (by omega),Zb ⟨by omega,by omega⟩,Xab,Zb ⟨by omega,by omega⟩,Zb (by simp only[Zl,Xap,Xao];omega),Zf (by omega) (by omega)]
 ·rw[Xat]
  unfold Zd3
  dsimp only
  rw[Zd (by omega)]
  show up (Zd1 m r (smM m r).1)=_
  rw[hfin]
  rfl
theorem ZFN {m:Zr} {r:ZG} (hm:ZE m=true) (hs:Ze3 r) (hr:r∈m.2):ZnR m r=some (Zo8 m r):=by
 have ho:=Zp6 hm hr
 have h5:=ZhJ hm ho
 have hsm:=ZBa hm ho
 have hz:Z2 (smM m r) (ZlX (smM m r))=true:=Zpz hsm
 have hlen:=ZHt m r
 have hrb:=ZvH hm r hr
 obtain⟨m1,m2,m3⟩:=ZeB hm
 have hsame:(((smM m r).1,[]):Zr)=smM m r:=rfl
 have hfin:ZhF m r (smM m r).1=some (Zo8 m r):=by
  unfold ZhF
  rw[Zb ⟨by omega,by simp only[Zl];omega,rfl⟩,Xab]
  refine(ZJ (f:=ZkP m r (smM m r).1) (fun s:Bool×Zu×List Int=>Z2 (smM m r) s.2.2=true∧(s.1=true→s.2.1.length+muF s.2.2≤2000)) (fun s=>bif s.1 then 1+muF s.2.2 else 0) (fun s=>s.2.1++bif s.1 then ZAA m r (Zm5 (smM m r) s.2.2)else[]) ?_ (true,[],List.replicate r.2.1.length 0) ⟨by rw[←hlen];exact hz,fun _=>by unfold muF;simp;omega⟩).trans (by rw[←hlen];rfl)
  rintro⟨go,out,x⟩ ⟨hx,hb⟩
  dsimp only at hx hb ⊢
  obtain⟨x1,x2⟩:=Ze9 hx
  have hvl:x.length=r.2.1.length:=by omega
  have hp:=(Zq8 hsm hx).1
  obtain⟨l1,l2⟩:=ZvE hm ho hx
  unfold ZkP
  dsimp only
  cases go with
  |false=>
   right
   rw[cff,cff,Xax]
  |true=>
   left
   have hb:=hb rfl
   have hnx:ZnB (smM m r) x=some (ZbO (smM m r) x):=ZCp hsm hx
   have hj3:∀o:Zu,ZhH (smM m r).1 x o=some (Sum.inl ((ZbO (smM m r) x).1,o,(ZbO (smM m r) x).2)):=fun o=>by
    unfold ZhH
    rw[hsame,hnx,Ze]
   have hj2:∀y,Zu9 m r x r.2.1.length y→ZhG r (smM m r).1 out x (y,ZlJ m r x)=some (Sum.inl ((ZbO (smM m r) x).1,out++Zg6 m r x,(ZbO (smM m r) x).2)):=fun y hy=>by
    obtain⟨y1,y2⟩:=ZCY hvl hy
    unfold ZhG Zg6
    dsimp only
    rw[ZBe hm hs y1 hrb,Ze,y2]
    cases holdsB r x with
    |true=>rw[cnt,ctt,Xax,hj3]
    |false=>rw[cnf,cff,ZkC _ (by rw[ZtV];omega),Ze,ZtE l1 (by rw[ZtV];omega),Zb (by simp only[Zl,Xap,Xao];omega),hj3]
   have hl:loop (ZkQ m r (smM m r).1 out x) ((0:Int),List.replicate m.1.length 0,[])=some (Sum.inl ((ZbO (smM m r) x).1,out++Zg6 m r x,(ZbO (smM m r) x).2):(Bool×Zu×List Int)⊕Zu):=by
    refine ZJ (fun s:Int×List Int×List Int=>∃i:Nat,s.1=i∧i≤r.2.1.length∧Zu9 m r x i s.2.1∧s.2.2=(List.range i).map (fun i=>0 - ZbJ m (r.2.1.getD i 0).toNat (x.getD i 0).toNat)) (fun s=>r.2.1.length - s.1.toNat) (fun _=>_) ?_ _ ⟨0,rfl,Nat.zero_le _,ZC0 hm r x,rfl⟩
    rintro⟨s,y,lits⟩ ⟨i,hi1,hi,hy,hlits⟩
    dsimp only at hi1 hy hlits
    subst hi1
    have hll:lits.length=i:=by rw[hlits,Xak,XaI]
    unfold ZkQ
    dsimp only
    rcases Xad i r.2.1.length with q|q
    ·left
     obtain⟨⟨a0,a1⟩,a2,a3,_⟩:=ZmQ hm ho q
     have hvi:=l2 i q
     have hyl:=hy.len
     have eb:=Zir hm a1 (k:=(x.getD i 0).toNat) (by omega)
     rw[show (((r.2.1.getD i 0).toNat:Nat):Int)=r.2.1.getD i 0 by omega,show (1:Int)+((x.getD i 0).toNat:Nat)+ZM m (r.2.1.getD i 0).toNat=ZbJ m (r.2.1.getD i 0).toNat (x.getD i 0).toNat from rfl,show (((x.getD i 0).toNat:Nat):Int)=x.getD i 0 by omega]at eb
     have rm:=Zdc hm a1 (k:=(x.getD i 0).toNat) (by omega)
     rw[Zc (by omega),Zb ⟨by omega,by omega⟩,Zb ⟨by omega,by omega⟩,Xab,Zb ⟨by omega,by omega⟩]
     unfold Zom
     rw[Zb ⟨by omega,by omega⟩,Zb ⟨by omega,by omega⟩,Xab,eb,Ze,Zf (by omega) (by omega),Zb (by simp only[Zl,Xap,Xao];omega),Zf (by omega) (by omega)]
     refine⟨_,rfl,⟨i+1,by simp,by omega,ZCZ ho l2 q hy,?_⟩,by (try dsimp only)<;>omega,rfl⟩
     dsimp only
     rw[hlits,Xbz,Xa0]
     rfl
    ·right
     have:i=r.2.1.length:=by omega
     subst this
     rw[Zd (by omega),hlits]
     show up (ZhG r (smM m r).1 out x (y,ZlJ m r x))=_
     rw[hj2 y hy]
     rfl
   rw[ctt,Zb ⟨by omega,by simp only[Zl];omega,rfl⟩,Xab,hl]
   have hst:(Zg6 m r x).length≤1:=by
    unfold Zg6
    cases holdsB r x with
    |true=>exact Nat.zero_le _
    |false=>exact Nat.le_refl _
   have has:=Zvc hsm hx
   cases hq:(ZbO (smM m r) x).1 with
   |true=>
    have hmu:=Zsd hsm hx hq
    rw[hq,ctt]at has
    refine⟨_,rfl,⟨ZmO hx,fun _=>by dsimp only;rw[Xal];omega⟩,by show 1+muF (ZbO (smM m r) x).2<1+muF x;omega,?_⟩
    dsimp only
    rw[ctt,ctt,has,ZrW,XaK]
   |false=>
    rw[hq,cff]at has
    refine⟨_,rfl,⟨ZmO hx,fun h=>by cases h⟩,by show 0<1+muF x;omega,?_⟩
    dsimp only
    rw[cff,ctt,has,ZrW,Xax]
    show out++Zg6 m r x=out++(Zg6 m r x++[])
    rw[Xax]
 unfold ZnR
 have:=ZbU (f:=ZhI m r) r.2.1 0 (fun c=>m.1.getD c.toNat 0) [] (fun _=>Zo8 m r) (fun i o hi ho2=>?_) ?_
 ·exact this
 ·have ho2:o.length=i:=by rw[ho2];simp
  have hv:=ho.vars i hi
  unfold ZhI
  dsimp only
  rw[Zc (by omega),Zb ⟨by omega,by omega⟩,Xab,Zb ⟨by omega,by omega⟩,Zb (by simp only[Zl,Xap,Xao];omega),Zf (by omega) (by omega)]
 ·rw[Xat]
  unfold ZhI
  dsimp only
  rw[Zd (by omega)]
  show up (ZhF m r (smM m r).1)=_
  rw[hfin]
  rfl
end Go.AE.Y
namespace Go.AE.Y
open Go Go.AE
set_option maxHeartbeats 400000
theorem ZHs {m:Zr}:∀n x,(Zp8 m n x).length≤n+1
 |0,_=>Nat.le_refl _
 |n+1,x=>by
  show (x::bif (ZbO m x).1 then Zp8 m n (ZbO m x).2 else[]).length≤n+1+1
  rw[Xap]
  cases (ZbO m x).1 with
  |true=>have:=ZHs (m:=m) n (ZbO m x).2;rw[ctt];omega
  |false=>rw[cff];exact Nat.succ_le_succ (Nat.zero_le _)
theorem Zx2 {m:Zr} {r:ZG}:(ZnO m r).length≤1025:=by
 unfold ZnO
 split
 ·simp
 ·split
  ·have:=ZtG m r 4
   have e:ZrU m r=(List.range 4).flatMap (Zkl m r):=rfl
   rw[e]
   omega
  ·unfold Zo8
   rw[Xak]
   have:=XbJ (fun vals=>!holdsB r vals) (Zm5 (smM m r) (ZlX (smM m r)))
   have:=ZHs (m:=smM m r) 1024 (ZlX (smM m r))
   unfold Zm5 at *
   omega
theorem ZE2 {m:Zr} {r:ZG} (hm:ZE m=true) (hs:Ze3 r) (hr:r∈m.2):Zb3 m r=some (ZnO m r):=by
 have ho:=Zp6 hm hr
 unfold ZnO
 by_cases k1:r.1=1
 ·rw[if_pos k1];exact ZGC hm ho k1
 ·rw[if_neg k1]
  by_cases k2:r.1=2
  ·rw[if_pos k2];exact ZEX hm ho k2
  ·rw[if_neg k2];exact ZEY hm hs hr k1 k2
theorem ZFQ {m:Zr} {r:ZG} (hm:ZE m=true) (hs:Ze3 r) (hr:r∈m.2):Zqr m r=some (ZnO m r):=by
 have ho:=Zp6 hm hr
 unfold ZnO Zqr
 by_cases k1:r.1=1
 ·rw[if_pos k1,Zx k1,ZGW hm ho k1,Ze]
 ·rw[if_neg k1,Zt k1]
  by_cases k2:r.1=2
  ·rw[if_pos k2,Zx k2,ZFM hm ho,Ze]
  ·rw[if_neg k2,Zt k2,ZFN hm hs hr,Ze]
def Znv (m:Zr) (n:Nat):Zu:=(List.range n).flatMap (ZmF m)
def Zms (m:Zr) (n:Nat):Zu:=Znv m m.1.length++(m.2.take n).flatMap (ZnO m)
theorem Zt8 (m:Zr) (n:Nat):Znv m (n+1)=Znv m n++ZmF m n:=by
 unfold Znv
 rw[Xbz,List.flatMap_append,List.flatMap_cons,XbQ,Xax]
theorem ZrS (m:Zr):∀n,(Znv m n).length=2*n
 |0=>rfl
 |n+1=>by
  rw[Zt8,Xal,ZrS m n]
  show 2*n+2=_
  omega
theorem Zuh {m:Zr} {n:Nat} (h:n<m.2.length):Zms m (n+1)=Zms m n++ZnO m (m.2.getD n (0,[],[],0,[])):=by
 unfold Zms
 rw[Zpw (0,[],[],0,[]) h,List.flatMap_append,List.flatMap_cons,XbQ,Xax,XaK]
theorem ZvT {m:Zr}:∀n,n≤m.2.length→(Zms m n).length≤2*m.1.length+1025*n
 |0,_=>by
  unfold Zms
  rw[XaR,XbQ,Xax,ZrS]
  omega
 |n+1,h=>by
  have:=ZvT (m:=m) n (by omega)
  have:=Zx2 (m:=m) (r:=m.2.getD n (0,[],[],0,[]))
  rw[Zuh (by omega),Xal]
  omega
theorem ZAx (m:Zr):Zcs m=Zms m m.2.length:=by
 unfold Zcs Zms Znv
 rw[XaA]
theorem ZpC (m:Zr) (h:Zfo m):Zfy m=some (Zzz m):=by
 unfold Zfy Zzz
 rw[ZiG m h,Ze]
 cases hm:ZE m with
 |false=>rw[cnf,Xai,cff]
 |true=>
  obtain⟨m1,m2,m3⟩:=ZeB hm
  rw[cnt,Xaj]
  have h2:ZhO (Zcs m)=some (bif decide ((Zcs m).length≤400)then(true,Zcs m)else(false,[])):=by
   unfold ZhO
   by_cases q:(Zcs m).length≤400
   ·rw[Zd (by omega),Xae q,ctt]
   ·rw[Zc (by omega),decide_eq_false q,cff]
  have h1:ZhN m (Znv m m.1.length)=some (bif decide ((Zcs m).length≤400)then(true,Zcs m)else(false,[])):=by
   unfold ZhN
   refine ZJ (f:=ZhP m) (fun s:Int×Zu=>∃i:Nat,s.1=i∧i≤m.2.length∧s.2=Zms m i) (fun s=>m.2.length - s.1.toNat) (fun _=>_) ?_ _ ⟨0,rfl,Nat.zero_le _,by unfold Zms;rw[XaR,XbQ,Xax]⟩
   rintro⟨s,out⟩ ⟨i,hi1,hi,ho⟩
   dsimp only at hi1 ho
   subst hi1
   unfold ZhP
   dsimp only
   rcases Xad i m.2.length with q|q
   ·left
    have hr:=Zz (l:=m.2) (i:=i) (d:=(0,[],[],0,[])) q
    have hl:=ZvT (m:=m) i hi
    have hl2:=Zx2 (m:=m) (r:=m.2.getD i (0,[],[],0,[]))
    rw[Zc (by omega),Zb ⟨by omega,by omega⟩,Xab,ZE2 hm (h.2.2 _ hr) hr,Ze,Zb (by rw[ho];simp only[Zl];omega),Zf (by omega) (by omega)]
    exact⟨_,rfl,⟨i+1,by simp,by omega,by dsimp only;rw[ho,Zuh q]⟩,by (try dsimp only)<;>omega,rfl⟩
   ·right
    have:i=m.2.length:=by omega
    rw[Zd (by omega),ho,this,←ZAx,h2]
    rfl
  refine ZJ (f:=ZhQ m) (fun s:Int×Zu=>∃i:Nat,s.1=i∧i≤m.1.length∧s.2=Znv m i) (fun s=>m.1.length - s.1.toNat) (fun _=>_) ?_ _ ⟨0,rfl,Nat.zero_le _,rfl⟩
  rintro⟨s,out⟩ ⟨i,hi1,hi,ho⟩
  dsimp only at hi1 ho
  subst hi1
  unfold ZhQ
  dsimp only
  rcases Xad i m.1.length with q|q
  ·left
   obtain⟨v1,_,_,_,v5⟩:=Zv4 hm q
   have hin:=ZAa hm q
   have hl:=ZrS m i
   rw[Zc (by omega),Zux hm q,Ze,Zkm _ (by omega),Ze,ZtE v1 (by omega),ZrJ (by omega) (fun x hx=>by have:=hin x hx;omega),Ze,Zb (by rw[ho];simp only[Zl,Xap,Xao];omega),Zf (by omega) (by omega)]
   refine⟨_,rfl,⟨i+1,by simp,by omega,?_⟩,by (try dsimp only)<;>omega,rfl⟩
   dsimp only
   rw[ho,Zt8]
   unfold ZmF
   generalize Zjg (Zdx m i)=a
   generalize Zjl (Zdx m i)=b
   rfl
  ·right
   have:i=m.1.length:=by omega
   rw[Zd (by omega),ho,this,h1]
   rfl
theorem ZwP (m:Zr) (h:Zfo m):ZkE m=some (Zzz m):=by
 unfold ZkE Zzz
 rw[Zmv m h,Ze]
 cases hm:ZE m with
 |false=>rw[cnf,Xai,cff]
 |true=>
  obtain⟨m1,m2,m3⟩:=ZeB hm
  rw[cnt,Xaj]
  have h2:ZhV (Zcs m)=some (bif decide ((Zcs m).length≤400)then(true,Zcs m)else(false,[])):=by
   unfold ZhV
   by_cases q:(Zcs m).length≤400
   ·rw[Zd (by omega),Xae q,ctt]
   ·rw[Zc (by omega),decide_eq_false q,cff]
  have h1:ZhU m (Znv m m.1.length)=some (bif decide ((Zcs m).length≤400)then(true,Zcs m)else(false,[])):=by
   unfold ZhU
   refine ZJ (f:=ZhW m) (fun s:Int×Zu=>∃i:Nat,s.1=i∧i≤m.2.length∧s.2=Zms m i) (fun s=>m.2.length - s.1.toNat) (fun _=>_) ?_ _ ⟨0,rfl,Nat.zero_le _,by unfold Zms;rw[XaR,XbQ,Xax]⟩
   rintro⟨s,out⟩ ⟨i,hi1,hi,ho⟩
   dsimp only at hi1 ho
   subst hi1
   unfold ZhW
   dsimp only
   rcases Xad i m.2.length with q|q
   ·left
    have hr:=Zz (l:=m.2) (i:=i) (d:=(0,[],[],0,[])) q
    have hl:=ZvT (m:=m) i hi
    have hl2:=Zx2 (m:=m) (r:=m.2.getD i (0,[],[],0,[]))
    rw[Zc (by omega),Zb ⟨by omega,by omega⟩,Xab,ZFQ hm (h.2.2 _ hr) hr,Ze,Zb (by rw[ho];simp only[Zl];omega),Zf (by omega) (by omega)]
    exact⟨_,rfl,⟨i+1,by simp,by omega,by dsimp only;rw[ho,Zuh q]⟩,by (try dsimp only)<;>omega,rfl⟩
   ·right
    have:i=m.2.length:=by omega
    rw[Zd (by omega),ho,this,←ZAx,h2]
    rfl
  refine ZJ (f:=ZhX m) (fun s:Int×Zu=>∃i:Nat,s.1=i∧i≤m.1.length∧s.2=Znv m i) (fun s=>m.1.length - s.1.toNat) (fun _=>_) ?_ _ ⟨0,rfl,Nat.zero_le _,rfl⟩
  rintro⟨s,out⟩ ⟨i,hi1,hi,ho⟩
  dsimp only at hi1 ho
  subst hi1
  unfold ZhX
  dsimp only
  rcases Xad i m.1.length with q|q
  ·left
   have hl:=ZrS m i
   have hc:(ZmF m i).length=2:=rfl
   rw[Zc (by omega),ZCt hm q,Ze,Zb (by rw[ho];simp only[Zl];omega),Zf (by omega) (by omega)]
   exact⟨_,rfl,⟨i+1,by simp,by omega,by dsimp only;rw[ho,Zt8]⟩,by (try dsimp only)<;>omega,rfl⟩
  ·right
   have:i=m.1.length:=by omega
   rw[Zd (by omega),ho,this,h1]
   rfl
theorem ZLr {m:Zr} {i k:Nat} (h:k<Zd5 m i):(Zdx m i).getD k 0=ZbJ m i k:=by
 unfold Zdx
 rw[Zmi (d:=0) (h:=by rw[XaI];exact h),Zs4 h]
theorem ZI7 {m:Zr} {v:List Bool} {x:List Int} (hm:ZE m=true) (hd:Dec m v x) {i k:Nat} (hi:i<m.1.length) (hk:k<Zd5 m i):v.getD (ZbJ m i k - 1).toNat false=decide (x.getD i 0=k):=by
 have h:=hd.2 i hi k ((Zfn hm hi).1 hk)
 unfold trV at h
 rw[←h]
 congr 1
 unfold ZbJ
 omega
theorem ZI9 {m:Zr} {v:List Bool} {x:List Int} (hm:ZE m=true) (hd:Dec m v x) {i:Nat} (hi:i<m.1.length):x.length=m.1.length∧0≤x.getD i 0∧x.getD i 0<Zd5 m i:=by
 obtain⟨x1,x2⟩:=ZcL hd.1
 have:=x2 i (by omega)
 have:=Zsg hm hi
 exact⟨x1,by omega,by omega⟩
theorem ZB0 {m:Zr} {v:List Bool} {x:List Int} (h:Zfo m) (hm:ZE m=true) (hv:v.length=12) (hd:Dec m v x):Zgv m v=some (true,x):=by
 obtain⟨m1,m2,m3⟩:=ZeB hm
 obtain⟨x1,x2⟩:=ZcL hd.1
 unfold Zgv
 rw[ZiG m h,Ze,hm,cnt,ZdM (by omega)]
 refine ZJ (f:=ZgR m v) (fun s:Int×List Int=>∃i:Nat,s.1=i∧i≤m.1.length∧s.2=x.take i) (fun s=>m.1.length - s.1.toNat) (fun _=>(true,x)) ?_ _ ⟨0,rfl,Nat.zero_le _,rfl⟩
 rintro⟨s,out⟩ ⟨i,hi1,hi,ho⟩
 dsimp only at hi1 ho
 subst hi1
 unfold ZgR
 dsimp only
 rcases Xad i m.1.length with q|q
 ·left
  obtain⟨_,d1,d2⟩:=ZI9 hm hd q
  have h4:=Zmu hm q
  have hvl:=ZJY m i
  have hol:out.length=i:=by rw[ho,Xaz];omega
  have hl:loop (ZgS v i (Zdx m i)) ((0:Int),(0:Int),out)=some (Sum.inl ((i:Int)+1,out++[x.getD i 0]):(Int×List Int)⊕(Bool×List Int)):=by
   refine ZJ (fun s:Int×Int×List Int=>∃k:Nat,s.2.1=k∧k≤Zd5 m i∧s.1=(if x.getD i 0<k then 1 else 0)∧s.2.2=(if x.getD i 0<k then out++[x.getD i 0]else out)) (fun s=>Zd5 m i - s.2.1.toNat) (fun _=>_) ?_ _ ⟨0,rfl,Nat.zero_le _,by dsimp only;rw[if_neg (by omega)],by dsimp only;rw[if_neg (by omega)]⟩
   rintro⟨c,s,o⟩ ⟨k,hk1,hk,hc,ho2⟩
   dsimp only at hk1 hc ho2
   subst hk1
   have hcb:0≤c∧c≤1:=by rw[hc];split<;>omega
   have hob:o.length≤6:=by
    rw[ho2]
    split
    ·rw[Xal,Xav];omega
    ·omega
   unfold ZgS
   dsimp only
   rcases Xad k (Zd5 m i)with q2|q2
   ·left
    have rm:=Zdc hm q ((Zfn hm q).1 q2)
    have hda:=ZI7 hm hd q q2
    rw[Zc (by omega),Zb ⟨by omega,by omega⟩,Xab,ZLr q2,Zf (by omega) (by omega),Zb ⟨by omega,by omega⟩,hda]
    by_cases e:x.getD i 0=k
    ·rw[Xae e,ctt,Zb (by simp only[Zl,Xap,Xao];omega),Zf (by omega) (by omega),Zf (by omega) (by omega)]
     refine⟨_,rfl,⟨k+1,by simp,by omega,?_,?_⟩,by (try dsimp only)<;>omega,rfl⟩
     ·dsimp only
      rw[hc,if_neg (by omega),if_pos (by omega)]
      rfl
     ·dsimp only
      rw[ho2,if_neg (by omega),if_pos (by omega),e]
    ·rw[decide_eq_false e,cff,Zf (by omega) (by omega)]
     refine⟨_,rfl,⟨k+1,by simp,by omega,?_,?_⟩,by (try dsimp only)<;>omega,rfl⟩
     ·dsimp only
      rw[hc]
      by_cases e2:x.getD i 0<k
      ·rw[if_pos e2,if_pos (by omega)]
      ·rw[if_neg e2,if_neg (by omega)]
     ·dsimp only
      rw[ho2]
      by_cases e2:x.getD i 0<k
      ·rw[if_pos e2,if_pos (by omega)]
      ·rw[if_neg e2,if_neg (by omega)]
   ·right
    rw[if_pos (by omega)]at hc ho2
    rw[Zd (by omega),hc,ho2]
    unfold Zkp
    dsimp only
    rw[ZdM (by omega),Zf (by omega) (by omega)]
    rfl
  rw[Zc (by omega),Zux hm q,Ze,hl]
  exact⟨_,rfl,⟨i+1,by simp,by omega,by dsimp only;rw[ho,Zpw 0 (by omega)]⟩,by (try dsimp only)<;>omega,rfl⟩
 ·right
  have:i=m.1.length:=by omega
  rw[Zd (by omega),ho,this,←x1,XaA]
theorem ZCl {m:Zr} {v:List Bool} {x:List Int} (h:Zfo m) (hm:ZE m=true) (hv:v.length=12) (hd:Dec m v x):Zjm m v=some (true,x):=by
 obtain⟨m1,m2,m3⟩:=ZeB hm
 obtain⟨x1,x2⟩:=ZcL hd.1
 unfold Zjm
 rw[Zmv m h,Ze,hm,cnt,ZdM (by omega)]
 refine ZJ (f:=Zg0 m v) (fun s:Int×List Int=>∃i:Nat,s.1=i∧i≤m.1.length∧s.2=x.take i) (fun s=>m.1.length - s.1.toNat) (fun _=>(true,x)) ?_ _ ⟨0,rfl,Nat.zero_le _,rfl⟩
 rintro⟨s,out⟩ ⟨i,hi1,hi,ho⟩
 dsimp only at hi1 ho
 subst hi1
 unfold Zg0
 dsimp only
 rcases Xad i m.1.length with q|q
 ·left
  obtain⟨_,d1,d2⟩:=ZI9 hm hd q
  have h4:=Zmu hm q
  have hz:=Zsg hm q
  have hol:out.length=i:=by rw[ho,Xaz];omega
  have hl:loop (Zg1 m v i out) ((-1:Int),(0:Int),(0:Int))=some (Sum.inl ((i:Int)+1,out++[x.getD i 0]):(Int×List Int)⊕(Bool×List Int)):=by
   refine ZJ (fun s:Int×Int×Int=>∃k:Nat,s.2.2=k∧k≤Zd5 m i∧s.2.1=(if x.getD i 0<k then 1 else 0)∧s.1=(if x.getD i 0<k then x.getD i 0 else -1)) (fun s=>Zd5 m i - s.2.2.toNat) (fun _=>_) ?_ _ ⟨0,rfl,Nat.zero_le _,by dsimp only;rw[if_neg (by omega)],by dsimp only;rw[if_neg (by omega)]⟩
   rintro⟨v1,c,s⟩ ⟨k,hk1,hk,hc,hv1⟩
   dsimp only at hk1 hc hv1
   subst hk1
   have hcb:0≤c∧c≤1:=by rw[hc];split<;>omega
   unfold Zg1
   dsimp only
   rw[Zb ⟨by omega,by omega⟩,Xab]
   rcases Xad k (Zd5 m i)with q2|q2
   ·left
    have rm:=Zdc hm q ((Zfn hm q).1 q2)
    have hda:=ZI7 hm hd q q2
    have eb:=Zir hm q (k:=k) (by omega)
    rw[show (1:Int)+k+ZM m i=ZbJ m i k from rfl]at eb
    rw[Zc (by omega),eb,Ze,Zf (by omega) (by omega),Zb ⟨by omega,by omega⟩,hda]
    by_cases e:x.getD i 0=k
    ·rw[Xae e,ctt,Zf (by omega) (by omega),Zf (by omega) (by omega)]
     refine⟨_,rfl,⟨k+1,by simp,by omega,?_,?_⟩,by (try dsimp only)<;>omega,rfl⟩
     ·dsimp only
      rw[hc,if_neg (by omega),if_pos (by omega)]
      rfl
     ·dsimp only
      rw[if_pos (by omega),e]
    ·rw[decide_eq_false e,cff,Zf (by omega) (by omega)]
     refine⟨_,rfl,⟨k+1,by simp,by omega,?_,?_⟩,by (try dsimp only)<;>omega,rfl⟩
     ·dsimp only
      rw[hc]
      by_cases e2:x.getD i 0<k
      ·rw[if_pos e2,if_pos (by omega)]
      ·rw[if_neg e2,if_neg (by omega)]
     ·dsimp only
      rw[hv1]
      by_cases e2:x.getD i 0<k
      ·rw[if_pos e2,if_pos (by omega)]
      ·rw[if_neg e2,if_neg (by omega)]
   ·right
    rw[if_pos (by omega)]at hc hv1
    rw[Zd (by omega),hc,hv1,ZdM (by omega),Zb (by simp only[Zl,Xap,Xao];omega),Zf (by omega) (by omega)]
  rw[Zc (by omega),hl]
  exact⟨_,rfl,⟨i+1,by simp,by omega,by dsimp only;rw[ho,Zpw 0 (by omega)]⟩,by (try dsimp only)<;>omega,rfl⟩
 ·right
  have:i=m.1.length:=by omega
  rw[Zd (by omega),ho,this,←x1,XaA]
end Go.AE.Y
namespace Go.AE.Y
open Go Go.AE
set_option maxHeartbeats 400000
theorem ZEC {l:List Int} (h:ZcN l=true):ZD (Zjg l)=true∧(Zjg l).1.length≤12:=by
 refine⟨ZtF (fun x hx=>(ZfL h).1 x ((Zg9 h x).1 hx)) (ZoF h),?_⟩
 show (Z1 (Zbm l)).length≤12
 unfold Z1
 rw[Xak]
 exact Zmp l
theorem ZED {vs:List Int} (h1:∀x∈vs,1≤x∧x≤12) (h2:vs.Pairwise (· < ·)) (h3:1≤vs.length) (h4:vs.length≤12):ZD (Zjl vs)=true∧(Zjl vs).1.length≤12:=by
 have hm:∀t∈(Zjl vs).1,∃x∈vs,t=(1,0 - x):=fun t ht=>by
  have ht:t∈Z1 (Zbb vs):=ht
  rw[←ZA1]at ht
  obtain⟨x,hx,e⟩:=XaF.1 ht
  exact⟨x,hx,e.symm⟩
 refine⟨Zkk.2 ⟨fun t ht=>?_,?_,?_,?_⟩,?_⟩
 ·obtain⟨x,hx,rfl⟩:=hm t ht
  have:=h1 x hx
  exact⟨Zy.2 (by (try dsimp only)<;>omega),by (try dsimp only)<;>omega,by (try dsimp only)<;>omega⟩
 ·show (Z1 (Zbb vs)).Pairwise _
  rw[←ZA1,List.pairwise_map]
  refine h2.imp_of_mem (fun {a b} ha hb hab=>?_)
  have:=h1 a ha
  have:=h1 b hb
  unfold vof
  dsimp only
  omega
 ·show 0≤(vs.length:Int) - 1
  omega
 ·show (vs.length:Int) - 1≤20000
  omega
 ·show (Z1 (Zbb vs)).length≤12
  rw[←ZA1,Xak]
  exact h4
theorem ZJX (m:Zr) (i:Nat):(Zdx m i).Pairwise (· < ·):=by
 unfold Zdx
 rw[List.pairwise_map]
 refine List.pairwise_lt_range.imp (fun h=>?_)
 unfold ZbJ
 omega
theorem ZLl {l:List Int} (h:l.Nodup):(ZmR l).Pairwise (· < ·):=by
 have h1:=ZDf l
 have h2:(ZmR l).Nodup:=(ZmS l).nodup_iff.2 h
 exact(h1.and h2).imp (fun h=>by have:=h.1;have:=h.2;omega)
theorem ZLL {m:Zr} (hm:ZE m=true):∀c∈Zcs m,ZD c=true∧c.1.length≤12:=fun c hc=>by
 unfold Zcs at hc
 rcases List.mem_append.1 hc with q|q
 ·obtain⟨i,hi,hc⟩:=XaL.1 q
  have hi:=Xay.1 hi
  obtain⟨v1,_,_,v4,v5⟩:=Zv4 hm hi
  unfold ZmF at hc
  rcases XaC.1 hc with e|e
  ·rw[e];exact ZEC v1
  ·rw[Xah.1 e]
   exact ZED (ZAa hm hi) (ZJX m i) v4 (by omega)
 ·obtain⟨r,hr,hc⟩:=XaL.1 q
  have ho:=Zp6 hm hr
  unfold ZnO at hc
  by_cases k1:r.1=1
  ·rw[if_pos k1,Xah]at hc
   rw[hc]
   obtain⟨e,h⟩:=ZvP (ZFa hm ho k1)
   refine⟨h,?_⟩
   unfold Zrx
   rw[e]
   exact Zp5 _ 12
  ·rw[if_neg k1]at hc
   by_cases k2:r.1=2
   ·rw[if_pos k2]at hc
    obtain⟨k,hk,hc⟩:=XaL.1 hc
    have hin:=Zvn hm ho k
    have hnd:=(Zn4 hm ho (k:=k)).1
    by_cases q2:1<(Zel m r k).length
    ·rw[if_pos q2,Xah]at hc
     rw[hc]
     have hl:=(ZmS (Zel m r k)).length_eq
     exact ZED (fun x hx=>hin.1 x ((ZmS _).mem_iff.1 hx)) (ZLl hnd) (by omega) (by omega)
    ·rw[if_neg q2]at hc
     exact absurd hc XaB
   ·rw[if_neg k2]at hc
    obtain⟨vals,hv,rfl⟩:=XaF.1 hc
    have hcell:=(Zyx (ZBa hm ho)).1 (XaM.1 hv).1
    exact ZEC (ZvE hm ho hcell).1
theorem Zzl {m:Zr} {c x:List Int} {v:List Bool} (hm:ZE m=true) (hd:Dec m v x):∀n,n≤m.1.length→Zep (Zdj m c m.1.length) v (ZM m n).toNat=0 - ZcU c x n
 |0,_=>by
  show Zep _ _ (ZmA []).toNat=0 - 0
  rfl
 |n+1,h=>by
  obtain⟨b0,s0,s3,b1,b12⟩:=ZfT hm (show n<m.1.length by omega)
  obtain⟨x1,x2⟩:=ZcL hd.1
  have hxn:=x2 n (by omega)
  have ih:=Zzl (c:=c) hm hd n (by omega)
  have hb:=ZBm (net:=Zdj m c m.1.length) (v:=v) (b:=(ZM m n).toNat) (c:=c.getD n 0) (x:=x.getD n 0) (s:=m.1.getD n 0) hxn
   (fun k hk=>by
    have:=ZFh (c:=c) hm m.1.length (Nat.le_refl _) n (by omega) k hk
    rwa [show 1+k+(ZM m n).toNat=(ZM m n).toNat+k+1 by omega]at this)
   (fun k hk=>by
    have:=hd.2 n (by omega) k hk
    unfold trV at this
    rwa [show ((k:Int)+ZM m n).toNat=(ZM m n).toNat+k by omega]at this)
   (m.1.getD n 0+1).toNat (by omega)
  rw[show (ZM m (n+1)).toNat=(ZM m n).toNat+(m.1.getD n 0+1).toNat by omega,hb,ih,if_pos (by omega),ZiS]
  rw[Int.sub_mul]
  omega
theorem ZIB {m:Zr} {c x:List Int} {v:List Bool} {most:Int} (hm:ZE m=true) (hd:Dec m v x):ZW v (ZcO (Zdj m c m.1.length) 12,max 0 (Zbq (Zdj m c m.1.length) (0 - most) 12))=decide (ZcU c x x.length≤most):=by
 obtain⟨x1,x2⟩:=ZcL hd.1
 have hb:=Zgl hm m.1.length (Nat.le_refl _)
 obtain⟨p1,p2⟩:=ZCw (net:=Zdj m c m.1.length) (v:=v) (b:=0 - most) 12
 have h1:=Zzl (c:=c) hm hd m.1.length (Nat.le_refl _)
 have h2:=ZDk (net:=Zdj m c m.1.length) (v:=v) (b:=(ZM m m.1.length).toNat) (fun j hj=>Zq9 hm m.1.length (Nat.le_refl _) j (Or.inr hj)) (12 - (ZM m m.1.length).toNat)
 rw[show (ZM m m.1.length).toNat+(12 - (ZM m m.1.length).toNat)=12 by omega,h1,←x1]at h2
 unfold ZW
 dsimp only
 rw[←x1]at p1 p2 ⊢
 generalize Zcy v (ZcO (Zdj m c x.length) 12)=S at p1 p2 ⊢
 generalize Zep (Zdj m c x.length) v 12=T at p1 h2
 generalize Zbq (Zdj m c x.length) (0 - most) 12=N at p1 ⊢
 by_cases q:ZcU c x x.length≤most
 ·rw[Xae q]
  exact Xae (by omega)
 ·rw[decide_eq_false q]
  exact decide_eq_false (by omega)
def obC (m:Zr) (c:List Int) (most:Int):Zbt:=(ZcO (Zdj m c m.1.length) 12,max 0 (Zbq (Zdj m c m.1.length) (0 - most) 12))
theorem ZFl {m:Zr} {c:List Int} {most:Int} (hm:ZE m=true) (hc:Znc m c=true) (hb : -1000≤most∧most≤1000):Zr7 m c most=(true,(obC m c most).2,(obC m c most).1)∧ZD (obC m c most)=true∧(obC m c most).1.length≤12:=by
 obtain⟨c1,c2⟩:=ZAZ hc
 have hn:∀j,-1000≤(Zdj m c m.1.length).getD j 0∧(Zdj m c m.1.length).getD j 0≤1000:=fun j=>by
  have:=ZvK hm c2 m.1.length (Nat.le_refl _) j
  omega
 obtain⟨p1,p2⟩:=ZzW (net:=Zdj m c m.1.length) 12 (Nat.le_refl _) hn
 have hneg:=Zqi (net:=Zdj m c m.1.length) (b:=0 - most) (K:=1000) (by omega) (fun j=>by have:=hn j;omega) 12
 have hcon:ZD (ZcO (Zdj m c m.1.length) 12,max 0 (Zbq (Zdj m c m.1.length) (0 - most) 12))=true:=Zkk.2 ⟨fun t ht=>(p1 t ht).1,p2,by (try dsimp only)<;>omega,by (try dsimp only)<;>omega⟩
 refine⟨?_,hcon,Zp5 _ 12⟩
 unfold Zr7
 rw[hm,hc,Xae hb.1,Xae hb.2,Bool.and_self,Bool.and_self,ctt]
 unfold ZcV
 rw[hcon,ctt]
 rfl
theorem ZLY {m:Zr} {c x:List Int} {v:List Bool} {most:Int} (hm:ZE m=true) (hd:Dec m v x):ZW v (obC m c most)=decide (ZcU c x x.length≤most):=ZIB hm hd
theorem Zyl {m:Zr} {c x:List Int} (hm:ZE m=true) (hc:Znc m c=true) (hx:Z2 m x=true):(∀i,i<x.length → -27≤c.getD i 0*x.getD i 0∧c.getD i 0*x.getD i 0≤27)∧c.length=x.length∧x.length≤5∧1≤x.length∧∀n:Nat,n≤x.length → -27*(n:Int)≤ZcU c x n∧ZcU c x n≤27*n:=by
 obtain⟨c1,c2⟩:=ZAZ hc
 obtain⟨x1,x2⟩:=ZcL hx
 obtain⟨m1,m2,_⟩:=ZeB hm
 have hb:∀i,i<x.length → -27≤c.getD i 0*x.getD i 0∧c.getD i 0*x.getD i 0≤27:=fun i hi=>by
  have h1:=x2 i hi
  have h2:=Zmu hm (i:=i) (by omega)
  have h3:=Zsg hm (i:=i) (by omega)
  exact ZAX (c2 i) ⟨h1.1,by omega⟩
 refine⟨hb,by omega,by omega,by omega,fun n=>?_⟩
 induction n with
 |zero=>intro _;exact⟨Xaq _,Xaq _⟩
 |succ n ih=>
  intro hn
  have:=ih (by omega)
  have:=hb n (by omega)
  rw[ZiS]
  omega
end Go.AE.Y
namespace Go.AE.Y
open Go Go.AE
set_option maxHeartbeats 400000
def conv (r:VR):SR:=(bif r.1 then 1 else bif r.2.2.1 then 0 else 2,r.2.1,r.2.2.2.1,r.2.2.2.2.1,r.2.2.2.2.2)
def ZvN (r:VR):Prop:=r.1=false→r.2.2.2.1=[]
theorem ZLO {D:List Int} {L:Zu} {S:List ZC} {fuel:Int} {rec1:List Int→Int→Bool→Zu→List ZC→Option VR} {rec2:Int→List Int→Zu→List ZC→Option SR}
  (hrec:∀(l:Int) (L':Zu) (S':List ZC) (f':Int),Zcg (D++[l])→Zbr L'→L'.length≤400+S'.length→S'.length≤1000→ZgP S'→(0≤f'∧f'≤2000)→∃r,rec1 (D++[l]) f' false L' S'=some r∧ZfF (D++[l]) L' S' f' r∧rec2 f' (D++[l]) L' S'=some (conv r)∧(ZgP r.2.2.2.2.2∧ZvN r))
  (hD:Zcg D) (hL:Zbr L) (hl:L.length≤400+S.length) (hS:S.length<1000) (hw:ZgP S) (hf:1≤fuel∧fuel≤2000) {r:VR} {q:SR}
  (e:ZV D fuel false L S rec1 (ZdZ D D.length)=some r) (e2:Zcn fuel D L S rec2 (ZdZ D D.length)=some q):q=conv r∧ZvN r:=by
 have hd:=Zf7 hD
 obtain⟨p1,p2,p3,p4,p5⟩:=ZjB hD D.length (Nat.le_refl _)
 unfold ZV at e
 unfold Zcn at e2
 obtain⟨⟨i,out⟩,e1,⟨t1,t2,t3⟩,hc⟩:=Ze8 hL (by omega) p1
 dsimp only at t1 t2 t3 hc
 rw[e1,Ze]at e
 rw[ZCf hL (by omega) p1,e1,Ze]at e2
 dsimp only at e e2
 rcases hc with⟨rfl,hk⟩|⟨h0,hk⟩
 ·rw[Zc (by omega)]at e
  rw[Zd (by omega)]at e2
  obtain⟨r4,e4,h⟩:=Zn7 t1
  obtain⟨r5,e5,_⟩:=ZuM t1
  have e6:=ZJh e4 e5
  rw[e4,Ze]at e
  rw[e5,Ze]at e2
  rcases h with⟨rfl,ht⟩|⟨k,hk12,hk0,rfl⟩
  ·dsimp only at e e6
   subst e6
   rw[ctt]at e
   rw[Zx rfl]at e2
   have h12:=t1.1
   have e7:loop (ZcR fuel L S (-1,out)) ((0:Int),([]:List Bool))=some (1,fuel - 1,out.map (fun n=>decide (0<n)),L,S):=by
    refine(ZbU (f:=ZcR fuel L S (-1,out)) out 0 (fun n=>decide (0<n)) [] (fun o=>(1,fuel - 1,o,L,S)) (fun i o hi ho=>?_) ?_)
    ·unfold ZcR
     dsimp only
     rw[Zc (by omega),Zb ⟨by omega,by omega⟩,Xab,Zb (by simp only[Zl,Xap,Xao];simp at ho;omega),Zf (by omega) (by omega)]
    ·unfold ZcR ZkK
     dsimp only
     rw[Zd (by omega),Xat]
     rfl
   rw[e7]at e2
   have a1:=Option.some.inj e
   have a2:=Option.some.inj e2
   rw[←a1,←a2]
   exact⟨rfl,fun h=>by cases h⟩
  ·dsimp only at e e6
   subst e6
   rw[cff,Zf (by omega) (by omega)]at e
   rw[Zt (by omega),Zf (by omega) (by omega)]at e2
   have hvar:∀l:Int,vof l=(k:Int)+1→∀i,i<D.length→vof (D.getD i 0)≠vof l:=fun l hl i hi=>by
    rw[hl]
    exact p3 k (t3 k hk0) i hi
   refine ZzN (fun (s:Int×Int×Bool×Zu×List ZC) (t:Int×Int×Zu×List ZC)=>t=(s.1,s.2.1,s.2.2.2.1,s.2.2.2.2)∧∃n:Nat,s.1=n∧n≤2∧(0≤s.2.1∧s.2.1≤fuel)∧s.2.2.1=false∧Ext L S s.2.2.2.1 s.2.2.2.2∧ZgP s.2.2.2.2) (fun r q=>q=conv r∧ZvN r) ?_ ⟨rfl,0,rfl,by omega,⟨by (try dsimp only)<;>omega,by (try dsimp only)<;>omega⟩,rfl,Ext.refl hL (by omega),hw⟩ e e2
   rintro⟨s,f,m,L',S'⟩ t ⟨ht,n,hs,hn,hf',hm,hx,hw'⟩ a b ha hb
   dsimp only at ht hs hf' hm hx hw'
   subst ht
   subst hs
   subst hm
   unfold Zbv at ha
   unfold Zee at hb
   dsimp only at ha hb
   rcases Xad n 2 with h1|h1
   ·have hlit:∃l,[((k:Int)+1),(0 - ((k:Int)+1))].getD n 0=l∧vof l=(k:Int)+1∧ZX l=true:=by
     have:n=0∨n=1:=by omega
     rcases this with rfl|rfl
     ·exact⟨(k:Int)+1,rfl,by unfold vof;omega,Zy.2 ⟨by omega,by omega,by omega⟩⟩
     ·exact⟨0 - ((k:Int)+1),rfl,by unfold vof;omega,Zy.2 ⟨by omega,by omega,by omega⟩⟩
    obtain⟨l,el,hv,hli⟩:=hlit
    have hlen:=hx.len
    have htop:=hx.top
    obtain⟨⟨ok,f8,mu,vals,L8,S8⟩,e8,⟨f1,x1,sa1,no1⟩,e9,w8,n8⟩:=hrec l L' S' f (ZpW hD hli (hvar l hv)) hx.good (by omega) htop hw' ⟨by omega,by omega⟩
    rw[Zc (by simp;omega),Zb ⟨by omega,by simp;omega⟩,Xab,el,Zl0 (by omega),Ze,Zb (by simp[Zl];omega),e8,Ze]at ha
    rw[Zc (by simp;omega),Zb ⟨by omega,by simp;omega⟩,Zb (by simp[Zl];omega),Zb (by simp[Zl];omega),Xat,Xab,el,e9,Ze]at hb
    unfold Zg4 conv at hb
    dsimp only at ha hb f1 x1 w8
    cases ok with
    |true=>
     rw[ctt]at ha hb
     rw[Zei (by decide)]at hb
     exact Or.inr ⟨_,_,(Option.some.inj ha).symm,(Option.some.inj hb).symm,rfl,fun h=>by cases h⟩
    |false=>
     rw[cff]at ha hb
     cases mu with
     |true=>
      rw[ctt]at ha hb
      rw[Zei (by decide)]at hb
      exact Or.inr ⟨_,_,(Option.some.inj ha).symm,(Option.some.inj hb).symm,rfl,fun _=>n8 rfl⟩
     |false=>
      rw[cff,Zf (by omega) (by omega)]at ha
      rw[cff,ZdM rfl,Zf (by omega) (by omega)]at hb
      exact Or.inl ⟨_,_,(Option.some.inj ha).symm,(Option.some.inj hb).symm,rfl,n+1,by simp,by omega,⟨by (try dsimp only)<;>omega,by (try dsimp only)<;>omega⟩,rfl,hx.trans x1,w8⟩
   ·have hn2:n=2:=by omega
    have hlen:=hx.len
    rw[Zd (by simp;omega)]at ha hb
    unfold Zdb at ha
    unfold Zg3 at hb
    dsimp only at ha hb
    by_cases q3:1000≤(S'.length:Int)
    ·rw[Zc q3]at ha hb
     exact Or.inr ⟨_,_,(Option.some.inj ha).symm,(Option.some.inj hb).symm,rfl,fun _=>rfl⟩
    ·rw[Zd q3]at ha hb
     unfold Zbd at ha
     dsimp only at ha
     rw[ZBX hD (by omega) (by omega),Ze]at ha
     rw[ZE7 hD (by omega) (by omega),Ze]at hb
     exact Or.inr ⟨_,_,(Option.some.inj ha).symm,(Option.some.inj hb).symm,rfl,fun _=>rfl⟩
 ·rw[Zd (by omega)]at e
  rw[Zc h0]at e2
  unfold Zbd at e
  dsimp only at e
  rw[ZBX hD (by omega) (by omega),Ze]at e
  rw[ZE7 hD (by omega) (by omega),Ze]at e2
  have a1:=Option.some.inj e
  have a2:=Option.some.inj e2
  rw[←a1,←a2]
  exact⟨rfl,fun _=>rfl⟩
theorem ZLf {D:List Int} {L:Zu} {S:List ZC} {fuel:Int} {rec1:List Int→Int→Bool→Zu→List ZC→Option VR} {rec2:Int→List Int→Zu→List ZC→Option SR}
  (hrec:∀(l:Int) (L':Zu) (S':List ZC) (f':Int),Zcg (D++[l])→Zbr L'→L'.length≤400+S'.length→S'.length≤1000→ZgP S'→(0≤f'∧f'≤2000)→∃r,rec1 (D++[l]) f' false L' S'=some r∧ZfF (D++[l]) L' S' f' r∧rec2 f' (D++[l]) L' S'=some (conv r)∧(ZgP r.2.2.2.2.2∧ZvN r))
  (hD:Zcg D) (hL:Zbr L) (hl:L.length≤400+S.length) (hS:S.length≤1000) (hw:ZgP S) (hf:0≤fuel∧fuel≤2000) {r:VR} {q:SR}
  (e:ZK rec1 D fuel false L S=some r) (e2:Zbx rec2 fuel D L S=some q):q=conv r∧ZvN r:=by
 have hd:=Zf7 hD
 unfold ZK at e
 unfold Zbx at e2
 by_cases q1:fuel=0
 ·rw[Zx q1]at e e2
  have a1:=Option.some.inj e
  have a2:=Option.some.inj e2
  rw[←a1,←a2]
  exact⟨rfl,fun _=>rfl⟩
 rw[Zt q1]at e e2
 by_cases q2:1000≤(S.length:Int)
 ·rw[Zc q2]at e e2
  have a1:=Option.some.inj e
  have a2:=Option.some.inj e2
  rw[←a1,←a2]
  exact⟨rfl,fun _=>rfl⟩
 rw[Zd q2,Zf (by omega) (by omega),Zb ⟨by omega,by simp only[Zl];omega,rfl⟩]at e e2
 refine ZzN (fun (s:Int×List Int) (t:Int×List Int)=>s=t∧∃n:Nat,s.1=n∧n≤D.length∧s.2=ZdZ D n) (fun r q=>q=conv r∧ZvN r) ?_ ⟨rfl,0,rfl,Nat.zero_le _,rfl⟩ e e2
 rintro⟨s,o⟩ t ⟨ht,n,hs,hn,ho⟩ a b ha hb
 dsimp only at hs ho
 subst ht
 subst hs
 subst ho
 unfold Zbe at ha
 unfold Zdw at hb
 dsimp only at ha hb
 rcases Xad n D.length with h1|h1
 ·have hli:=hD.1 _ (Zz (l:=D) (i:=n) (d:=0) h1)
  have hlit:=Zy.1 hli
  have h12:=(ZjB hD n hn).1.1
  have hvv:vof (D.getD n 0)=if 0<D.getD n 0 then D.getD n 0 else 0 - D.getD n 0:=by unfold vof;split<;>omega
  rw[Zc (by omega),Zb ⟨by omega,by omega⟩,Xab,Zol hli (ZjB hD n hn).1,Ze,Zf (by omega) (by omega)]at hb
  have ea:a = .inl ((n:Int)+1,ZdZ D (n+1)):=by
   rw[Zc (by omega),Zb ⟨by omega,by omega⟩,Xab,Zd4 (by omega),Ze]at ha
   have e:ZdZ D (n+1)=ZdF (D.getD n 0) (ZdZ D n):=rfl
   rw[e]
   unfold ZdF
   by_cases q:0<D.getD n 0
   ·rw[if_pos q]at hvv
    rw[hvv,Zf (by omega) (by omega),Zb ⟨by omega,by omega⟩,Zd (by omega),Zf (by omega) (by omega)]at ha
    rw[if_pos q]
    exact(Option.some.inj ha).symm
   ·rw[if_neg q]at hvv
    rw[hvv,Zf (by omega) (by omega),Zb ⟨by omega,by omega⟩,Zc (by omega),Zf (by omega) (by omega),Zf (by omega) (by omega),Zb ⟨by omega,by rw[Xam];omega⟩,Zf (by omega) (by omega),List.set_set]at ha
    rw[if_neg q]
    exact(Option.some.inj ha).symm
  exact Or.inl ⟨_,_,ea,(Option.some.inj hb).symm,rfl,n+1,by simp,by omega,rfl⟩
 ·have:n=D.length:=by omega
  subst this
  rw[Zd (by omega)]at ha hb
  cases hj:ZV D fuel false L S rec1 (ZdZ D D.length)with
  |none=>rw[hj]at ha;cases ha
  |some r=>
   cases hk:Zcn fuel D L S rec2 (ZdZ D D.length)with
   |none=>rw[hk]at hb;cases hb
   |some q=>
    rw[hj]at ha
    rw[hk]at hb
    exact Or.inr ⟨r,q,(Option.some.inj ha).symm,(Option.some.inj hb).symm,ZLO hrec hD hL hl (by omega) hw ⟨by omega,by omega⟩ hj hk⟩
theorem ZCQ {D:List Int} {L:Zu} {S:List ZC} {fuel:Int} {rec1:List Int→Int→Bool→Zu→List ZC→Option VR} {rec2:Int→List Int→Zu→List ZC→Option SR}
  (hrec:∀(l:Int) (L':Zu) (S':List ZC) (f':Int),Zcg (D++[l])→Zbr L'→L'.length≤400+S'.length→S'.length≤1000→ZgP S'→(0≤f'∧f'≤2000)→∃r,rec1 (D++[l]) f' false L' S'=some r∧ZfF (D++[l]) L' S' f' r∧rec2 f' (D++[l]) L' S'=some (conv r)∧(ZgP r.2.2.2.2.2∧ZvN r))
  (hrec1:∀(l:Int) (L':Zu) (S':List ZC) (f':Int),Zcg (D++[l])→Zbr L'→L'.length≤400+S'.length→S'.length≤1000→(0≤f'∧f'≤2000)→∃r,rec1 (D++[l]) f' false L' S'=some r∧ZfF (D++[l]) L' S' f' r)
  (hrec2:∀(l:Int) (L':Zu) (S':List ZC) (f':Int),Zcg (D++[l])→Zbr L'→L'.length≤400+S'.length→S'.length≤1000→ZgP S'→(0≤f'∧f'≤2000)→∃r,rec2 f' (D++[l]) L' S'=some r∧SeaOk L' S' f' r.2.2.2.1 r.2.2.2.2 r.2.1)
  (hD:Zcg D) (hL:Zbr L) (hl:L.length≤400+S.length) (hS:S.length≤1000) (hw:ZgP S) (hf:0≤fuel∧fuel≤2000) :
  ∃r,ZK rec1 D fuel false L S=some r∧ZfF D L S fuel r∧Zbx rec2 fuel D L S=some (conv r)∧(ZgP r.2.2.2.2.2∧ZvN r):=by
 obtain⟨r,e,hr⟩:=ZBo hrec1 hD hL hl hS hf
 obtain⟨q,e2,hq⟩:=Zzi hrec2 hD hL hl hS hw hf
 obtain⟨h,hn⟩:=ZLf hrec hD hL hl hS hw hf e e2
 subst h
 exact⟨r,e,hr,e2,hq.few,hn⟩
theorem Zzj:∀(n:Nat) (D:List Int) (L:Zu) (S:List ZC) (fuel:Int),Zcg D→Zbr L→L.length≤400+S.length→S.length≤1000→ZgP S→(0≤fuel∧fuel≤2000)→13≤n+D.length →
  ∃r,ZA n D fuel false L S=some r∧ZfF D L S fuel r∧Z7 n fuel D L S=some (conv r)∧(ZgP r.2.2.2.2.2∧ZvN r)
 |0,D,L,S,fuel,hD,_,_,_,_,_,hn=>by have:=Zf7 hD;omega
 |n+1,D,L,S,fuel,hD,hL,hl,hS,hw,hf,hn=>by
  show ∃r,ZK (ZA n) D fuel false L S=some r∧ZfF D L S fuel r∧Zbx (Z7 n) fuel D L S=some (conv r)∧_
  have hlen:∀l:Int,13≤n+(D++[l]).length:=fun l=>by rw[Xal,Xav];omega
  exact ZCQ (fun l L' S' f' h1 h2 h3 h4 h5 h6=>Zzj n (D++[l]) L' S' f' h1 h2 h3 h4 h5 h6 (hlen l))
   (fun l L' S' f' h1 h2 h3 h4 h5=>ZAb n (D++[l]) L' S' f' h1 h2 h3 h4 h5 (hlen l))
   (fun l L' S' f' h1 h2 h3 h4 h5 h6=>Zx5 n (D++[l]) L' S' f' h1 h2 h3 h4 h5 h6 (hlen l)) hD hL hl hS hw hf
end Go.AE.Y
namespace Go.AE.Y
open Go Go.AE
set_option maxHeartbeats 400000
abbrev ZKK:=Int×List Bool×List ZC
structure ZML (x:Zu) (f:Int) (r:ZKK):Prop where
 top:r.2.2.length≤1000
 few:ZgP r.2.2
 steps:r.1≠2→r.2.2=[]
 bad:¬(ZeM x=true∧0≤f∧f≤2000)→r=(3,[],[])
 good:ZeM x=true→0≤f∧f≤2000→(r.1=1∧r.2.1.length=12∧Zek x r.2.1)∨(r.1=2∧r.2.1=[]∧∀v,¬Zek x v)∨(r.1=0∧r.2.1=[])
theorem Zxq (f:Int):Znx f=some (decide (0≤f)&&decide (f≤2000)):=by
 unfold Znx
 rw[ZbR,Ze]
theorem ZLb {r:SR} (htop:r.2.2.2.2.length≤1000) (hw:ZgP r.2.2.2.2):loop (Zed r) ((0:Int),([]:List ZC))=some (r.1,([]:List Bool),r.2.2.2.2):=by
 have:=ZbU (f:=Zed r) r.2.2.2.2 zS (fun s=>s) [] (fun o=>(r.1,([]:List Bool),o)) (fun i o hi ho=>?_) ?_
 ·rw[List.map_id']at this
  exact this
 ·have hm:=hw _ (Zz (l:=r.2.2.2.2) (i:=i) (d:=zS) hi)
  change(r.2.2.2.2.getD i (0,(0,(0,([],0))))).2.2.2.1.length≤12 at hm
  unfold Zed
  dsimp only
  rw[Zc (by omega),Zb ⟨by omega,by omega⟩,Xab,ZJo _ (by omega),Ze]
  dsimp only
  rw[Zb (by simp only[Zl,Xap,Xao];simp at ho;omega),Zf (by omega) (by omega)]
  rfl
 ·unfold Zed ZkG
  dsimp only
  rw[Zd (by omega),Xat,List.map_id']
  rfl
theorem ZIP {x:Zu} (hs:ZhA x) (f:Int):∃r,Zcz x f=some r∧Zjo x f=some r∧ZML x f r:=by
 have hnil:ZgP []:=fun s h=>absurd h XaB
 unfold Zcz Zjo
 rw[Zkq x hs,ZvX x hs,Ze,Ze]
 cases hp:ZeM x with
 |false=>
  rw[cnf,cnf]
  exact⟨_,rfl,rfl,by simp,hnil,fun _=>rfl,fun _=>rfl,fun h=>by rw[hp]at h;cases h⟩
 |true=>
  rw[cnt,cnt,Zxq,Ze]
  by_cases q1:0≤f
  ·rw[Xae q1,ZMx,Zd (by omega)]
   by_cases q2:f≤2000
   ·rw[Xae q2,cnt,Zd (by omega)]
    have hall:=ZxW hp
    have hlen:x.length≤400:=by
     unfold ZeM at hp
     simp only[Xag,Xaf]at hp
     exact hp.2
    have hg:Zbr x:=fun c hc=>⟨hall c hc,hs.2 c hc⟩
    have hd:Zcg []:=⟨fun x hx=>absurd hx XaB,fun i j hi=>by simp at hi⟩
    obtain⟨r,e,hv,e2,hw,hn⟩:=ZCQ (D:=[]) (L:=x) (S:=[]) (fuel:=f) (rec1:=ZA 64) (rec2:=Z7 64)
     (fun l L' S' f' h1 h2 h3 h4 h5 h6=>Zzj 64 ([]++[l]) L' S' f' h1 h2 h3 h4 h5 h6 (by simp))
     (fun l L' S' f' h1 h2 h3 h4 h5=>ZAb 64 ([]++[l]) L' S' f' h1 h2 h3 h4 h5 (by simp))
     (fun l L' S' f' h1 h2 h3 h4 h5 h6=>Zx5 64 ([]++[l]) L' S' f' h1 h2 h3 h4 h5 h6 (by simp)) hd hg (by simp;omega) (by simp) hnil ⟨q1,q2⟩
    have e':ZbQ 64 [] f false x=some r:=by
     rw[←e]
     exact Zzb (ZbQ 63) [] f false x
    rw[ZqY x (by omega),Ze,e',Ze,Zb (by simp[Zl];omega),Xat,ZEQ,e2,Ze]
    have htop:=hv.ext.top
    have hsat:=hv.sat
    have hno:=hv.no
    obtain⟨ok,f8,mu,vals,L8,S8⟩:=r
    dsimp only at htop hw hsat hno
    unfold conv
    dsimp only
    cases ok with
    |true=>
     rw[ctt,ctt,Zei (by decide)]
     exact⟨_,rfl,rfl,by simp,hnil,fun _=>rfl,fun h=>absurd ⟨hp,q1,q2⟩ h,fun _ _=>Or.inl ⟨rfl,hsat rfl⟩⟩
    |false=>
     have hvals:vals=[]:=hn rfl
     subst hvals
     rw[cff,cff]
     cases mu with
     |true=>
      rw[ctt,ctt,Zei (by decide)]
      exact⟨_,rfl,rfl,by simp,hnil,fun _=>rfl,fun h=>absurd ⟨hp,q1,q2⟩ h,fun _ _=>Or.inr (Or.inr ⟨rfl,rfl⟩)⟩
     |false=>
      rw[cff,cff,ZdM rfl]
      refine⟨_,rfl,ZLb (r:=(2,f8,[],L8,S8)) htop hw,htop,hw,fun h=>absurd rfl h,fun h=>absurd ⟨hp,q1,q2⟩ h,fun _ _=>Or.inr (Or.inl ⟨rfl,rfl,fun v h=>hno rfl rfl v h (fun x hx=>absurd hx XaB)⟩)⟩
   ·rw[decide_eq_false q2,cnf,Zc (by omega)]
    exact⟨_,rfl,rfl,by simp,hnil,fun _=>rfl,fun _=>rfl,fun _ h=>absurd h.2 q2⟩
  ·rw[decide_eq_false q1,show (false&&decide (f≤2000))=false from Xai _,cnf,Zc (by omega)]
   exact⟨_,rfl,rfl,by simp,hnil,fun _=>rfl,fun _=>rfl,fun _ h=>absurd h.1 q1⟩
end Go.AE.Y
namespace Go.AE.Y
open Go Go.AE
set_option maxHeartbeats 400000
def ZdE (m:Zr) (c best:List Int):Zu:=if best=[]then Zcs m else Zcs m++[obC m c (ZcU c best best.length - 1)]
abbrev ZKI:=Int×List Int×List ZC
def ZDY (m:Zr) (best:List Int):Prop:=best=[]∨(Z2 m best=true∧ZcH m best=true)
def ZIA (c best:List Int):Nat:=if best=[]then 1000 else(ZcU c best best.length+200).toNat
structure ZLv (Q:Zu→List ZC→Prop) (m:Zr) (c:List Int) (r:ZKI):Prop where
 kind:r.1=0∨r.1=1∨r.1=2
 top:r.2.2.length≤1000
 few:ZgP r.2.2
 best:ZDY m r.2.1
 none:r.1=2→r.2.1=[]∧(∀v,¬Zek (Zcs m) v)
 opt:r.1=1→r.2.1≠[]∧(∀v,¬Zek (ZdE m c r.2.1) v)
 steps:r.1≠0→Q (ZdE m c r.2.1) r.2.2
theorem ZzX {m:Zr} {c best:List Int} (hm:ZE m=true) (hc:Znc m c=true) (hl:(Zcs m).length<400) (hb:ZDY m best):ZhA (ZdE m c best)∧ZeM (ZdE m c best)=true∧(best≠[] → -1000≤ZcU c best best.length - 1∧ZcU c best best.length - 1≤1000 ∧ -135≤ZcU c best best.length∧ZcU c best best.length≤135):=by
 have he:=ZLL hm
 have hv:best≠[] → -1000≤ZcU c best best.length - 1∧ZcU c best best.length - 1≤1000 ∧ -135≤ZcU c best best.length∧ZcU c best best.length≤135:=fun hne=>by
  rcases hb with e|⟨h1,_⟩
  ·exact absurd e hne
  ·obtain⟨_,_,b3,_,b5⟩:=Zyl hm hc h1
   have:=b5 best.length (Nat.le_refl _)
   omega
 have hall:∀x∈ZdE m c best,ZD x=true∧x.1.length≤12:=fun x hx=>by
  unfold ZdE at hx
  by_cases e:best=[]
  ·rw[if_pos e]at hx
   exact he x hx
  ·rw[if_neg e]at hx
   rcases List.mem_append.1 hx with q|q
   ·exact he x q
   ·rw[Xah.1 q]
    have:=hv e
    exact(ZFl hm hc ⟨by omega,by omega⟩).2
 have hlen:(ZdE m c best).length≤400:=by
  unfold ZdE
  split
  ·omega
  ·rw[Xal,Xav];omega
 refine⟨⟨by omega,fun x hx=>by have:=(hall x hx).2;omega⟩,?_,hv⟩
 unfold ZeM
 rw[Xag,Xar,Xaf]
 exact⟨fun x hx=>(hall x hx).1,hlen⟩
theorem ZJA {m:Zr} {c best:List Int} {v:List Bool} (hm:ZE m=true) (hs:Zek (ZdE m c best) v):∃x,Dec m v x∧ZcH m x=true∧(best≠[]→ZcU c x x.length≤ZcU c best best.length - 1):=by
 have h1:Zek (Zcs m) v:=fun y hy=>hs y (by unfold ZdE;split;exact hy;exact Xa4 _ hy)
 obtain⟨x,hd,hx⟩:=(ZG6 hm).1 h1
 refine⟨x,hd,hx,fun hne=>?_⟩
 have h2:=hs (obC m c (ZcU c best best.length - 1)) (by unfold ZdE;rw[if_neg hne];exact Xa1 _ (Xah.2 rfl))
 rw[ZLY hm hd,Xaf]at h2
 exact h2
theorem ZIp {l:List Int} (h:l≠[]):l.isEmpty=false:=by
 cases l with
 |nil=>exact absurd rfl h
 |cons a l=>rfl
theorem ZHg {l:List Int} (h:l≠[]):0<l.length:=List.length_pos_iff.2 h
theorem ZIK {Q:Zu→List ZC→Prop} {m:Zr} {c:List Int} {f:Int} (hQ:∀x r,ZhA x→Zcz x f=some r→r.1=2→r.2.2.length≤1000→Q x r.2.2) (h:Zfo m) (hm:ZE m=true) (hc:Znc m c=true) (hcl:c.length≤1048576) (hl:(Zcs m).length<400) (hf:0≤f∧f≤2000):∀(n:Nat) (best:List Int),ZDY m best→ZIA c best≤n →
  ∃r:ZKI,loop (ZbF m c f (true,Zcs m)) (ZdE m c best,best)=some r∧loop (Zcm m c f (true,Zcs m)) best=some r∧ZLv Q m c r:=by
 intro n
 induction n with
 |zero=>
  intro best hb hn
  exfalso
  obtain⟨_,_,hv⟩:=ZzX hm hc hl hb
  unfold ZIA at hn
  by_cases e:best=[]
  ·rw[if_pos e]at hn;omega
  ·rw[if_neg e]at hn
   have:=hv e
   omega
 |succ n ih=>
  intro best hb hn
  obtain⟨hs,hp,hv⟩:=ZzX hm hc hl hb
  obtain⟨q,e1,e2,hok⟩:=ZIP hs f
  obtain⟨m1,m2,m3⟩:=ZeB hm
  have hspec:Zcm m c f (true,Zcs m) best=ZcQ m f best (ZdE m c best):=by
   unfold Zcm ZdE
   rw[Zb (by simp only[Zl,Xao];omega)]
   by_cases e:best=[]
   ·rw[if_pos e,e,Zd (by simp),Xat]
   ·have hbc:Z2 m best=true:=by
     rcases hb with q|q
     ·exact absurd q e
     ·exact q.1
    obtain⟨b1,b2,b3,b4,b5⟩:=Zyl hm hc hbc
    have:=ZHg e
    have hve:=hv e
    rw[if_neg e,Zc (by omega),ZBi b2 b3 b1,Ze,Zf (by omega) (by omega),Zs8 m c _ h hcl,Ze,(ZFl hm hc ⟨by omega,by omega⟩).1]
    unfold ZkF
    dsimp only
    rw[Zb (by simp only[Zl,Xat,Xap,Xao];omega),Xat]
  rcases hok.good hp hf with⟨q1,q2,q3⟩|⟨q1,q2,q3⟩|⟨q1,q2⟩
  ·
   obtain⟨x,hd,hx,hlt⟩:=ZJA hm q3
   have hxc:=hd.1
   obtain⟨b1,b2,b3,b4,b5⟩:=Zyl hm hc hxc
   have hxne:x≠[]:=fun e=>by rw[e]at b4;simp at b4
   have hbx:=b5 x.length (Nat.le_refl _)
   obtain⟨r,r1,r2,r3⟩:=ih x (Or.inr ⟨hxc,hx⟩) (by
    unfold ZIA at hn ⊢
    rw[if_neg hxne]
    by_cases e:best=[]
    ·rw[if_pos e]at hn;omega
    ·rw[if_neg e]at hn
     have:=hlt e
     have:=hv e
     omega)
   have hj:∀(i1:List Int),Zec m i1 q ()=some (.inl x):=fun i1=>by
    unfold Zec
    rw[Zt (by omega),ZCl h hm q2 hd,Ze]
   have e:ZdE m c x=Zcs m++[obC m c (ZcU c x x.length - 1)]:=by unfold ZdE;rw[if_neg hxne]
   have hi:ZbF m c f (true,Zcs m) (ZdE m c best,best)=some (.inl (ZdE m c x,x)):=by
    rw[e]
    unfold ZbF
    dsimp only
    rw[e1,Ze,Zt (by omega),Zt (by omega),ZdM (by omega),ZB0 h hm q2 hd,Ze,ZAF b2 b3 b1,Ze,Zf (by omega) (by omega),ZsO m c _ h hcl,Ze,(ZFl hm hc ⟨by omega,by omega⟩).1]
    unfold Zks
    dsimp only
    rw[ZqY _ (by omega),Ze,Zb (by simp only[Zl,Xap,Xao];omega),Zb hxne]
   have hs':Zcm m c f (true,Zcs m) best=some (.inl x):=by
    rw[hspec]
    unfold ZcQ
    rw[e2,Ze,Zt (by omega),Zt (by omega),hj]
   refine⟨r,?_,?_,r3⟩
   ·rw[ZcG,hi];exact r1
   ·rw[ZcG,hs'];exact r2
  ·
   have hw:=hQ _ _ hs e1 q1 hok.top
   by_cases e:best=[]
   ·refine⟨(2,[],q.2.2),?_,?_,⟨Or.inr (Or.inr rfl),hok.top,hok.few,Or.inl rfl,fun _=>⟨rfl,fun v hv=>q3 v (by unfold ZdE;rw[if_pos e];exact hv)⟩,fun h=>absurd h (by show ¬(2:Int)=1;decide),fun _=>by rw[←e];exact hw⟩⟩
    ·have hi:ZbF m c f (true,Zcs m) (ZdE m c best,best)=some (.inr (2,[],q.2.2)):=by
      unfold ZbF
      dsimp only
      rw[e1,Ze,Zx q1,e]
      rfl
     rw[ZcG,hi]
     rfl
    ·have hs':Zcm m c f (true,Zcs m) best=some (.inr (2,[],q.2.2)):=by
      rw[hspec]
      unfold ZcQ
      rw[e2,Ze,Zt (by omega),Zx q1,e,q1]
      rfl
     rw[ZcG,hs']
     rfl
   ·refine⟨(1,best,q.2.2),?_,?_,⟨Or.inr (Or.inl rfl),hok.top,hok.few,hb,fun h=>absurd h (by show ¬(1:Int)=2;decide),fun _=>⟨e,q3⟩,fun _=>hw⟩⟩
    ·have hi:ZbF m c f (true,Zcs m) (ZdE m c best,best)=some (.inr (1,best,q.2.2)):=by
      unfold ZbF
      dsimp only
      rw[e1,Ze,Zx q1,ZIp e,cff,Zx q1]
     rw[ZcG,hi]
     rfl
    ·have hs':Zcm m c f (true,Zcs m) best=some (.inr (1,best,q.2.2)):=by
      have:=ZHg e
      rw[hspec]
      unfold ZcQ Zec
      rw[e2,Ze,Zt (by omega),Zx q1,Zt (by omega),Zx q1]
     rw[ZcG,hs']
     rfl
  ·
   refine⟨(0,best,[]),?_,?_,⟨Or.inl rfl,Nat.zero_le _,fun s hs=>absurd hs XaB,hb,fun h=>absurd h (by show ¬(0:Int)=2;decide),fun h=>absurd h (by show ¬(0:Int)=1;decide),fun h=>absurd rfl h⟩⟩
   ·have hi:ZbF m c f (true,Zcs m) (ZdE m c best,best)=some (.inr (0,best,[])):=by
     unfold ZbF
     dsimp only
     rw[e1,Ze,Zt (by omega),Zt (by omega),Zei (by omega)]
    rw[ZcG,hi]
    rfl
   ·have hs':Zcm m c f (true,Zcs m) best=some (.inr (0,best,[])):=by
     rw[hspec]
     unfold ZcQ
     rw[e2,Ze,Zx q1,q1]
    rw[ZcG,hs']
    rfl
theorem ZIL {Q:Zu→List ZC→Prop} {m:Zr} {c:List Int} (f:Int) (hQ:∀x r,ZhA x→Zcz x f=some r→r.1=2→r.2.2.length≤1000→Q x r.2.2) (h:Zfo m) (hcl:c.length≤1048576):∃r:ZKI,Zgy m c f=some r∧ZgE m c f=some r ∧
  (r=(3,[],[])∨((ZE m=true∧Znc m c=true∧(Zcs m).length<400∧0≤f∧f≤2000)∧ZLv Q m c r)):=by
 unfold Zgy ZgE ZsP
 rw[ZpC m h,Ze,ZwP m h,Ze]
 unfold Zzz
 cases hm:ZE m with
 |false=>
  rw[Xai,cff]
  exact⟨_,rfl,rfl,Or.inl rfl⟩
 |true=>
  rw[Xaj]
  by_cases q4:(Zcs m).length≤400
  case neg=>
   rw[decide_eq_false q4,cff]
   exact⟨_,rfl,rfl,Or.inl rfl⟩
  rw[Xae q4,ctt,ctt,Ze]
  dsimp only
  rw[cnt,ZpD m c hcl,Ze,ZtY m c h hcl,Ze,hm,Xaj,Zxq,Ze]
  by_cases q:(Zcs m).length<400
  case neg=>
   rw[decide_eq_false (by omega),cnf]
   cases Znc m c with
   |false=>rw[cnf];exact⟨_,rfl,rfl,Or.inl rfl⟩
   |true=>
    rw[cnt]
    by_cases f1:f<0
    ·rw[Zc f1];exact⟨_,rfl,rfl,Or.inl rfl⟩
    rw[Zd f1]
    by_cases f2:2000<f
    ·rw[Zc f2];exact⟨_,rfl,rfl,Or.inl rfl⟩
    rw[Zd f2,Zc (by omega)]
    exact⟨_,rfl,rfl,Or.inl rfl⟩
  rw[Xae (show ((Zcs m).length:Int)<400 by omega),cnt]
  cases hc:Znc m c with
  |false=>rw[cnf,cnf];exact⟨_,rfl,rfl,Or.inl rfl⟩
  |true=>
   rw[cnt,cnt]
   by_cases f1:f<0
   ·rw[Zc f1,decide_eq_false (show ¬0≤f by omega),Xai,cnf]
    exact⟨_,rfl,rfl,Or.inl rfl⟩
   rw[Zd f1]
   have f1':0≤f:=by omega
   rw[Xae f1',Xaj]
   by_cases f2:2000<f
   ·rw[Zc f2,decide_eq_false (show ¬f≤2000 by omega),cnf]
    exact⟨_,rfl,rfl,Or.inl rfl⟩
   rw[Zd f2,Xae (show f≤2000 by omega),cnt,Zd (show ¬(400:Int)≤((Zcs m).length:Int) by omega)]
   obtain⟨r,r1,r2,r3⟩:=ZIK hQ h hm hc hcl q ⟨by omega,by omega⟩ _ [] (Or.inl rfl) (Nat.le_refl _)
   exact⟨r,r1,r2,Or.inr ⟨⟨rfl,rfl,q,by omega,by omega⟩,r3⟩⟩
end Go.AE.Y
namespace Go.AE.Y
open Go Go.AE
set_option maxHeartbeats 400000
theorem ZDe {x:Zu} (hs:ZhA x) {f:Int} {r:ZKK} (h:Zcz x f=some r) (h2:r.1=2):ZeM x=true∧∃L',RupExt x [] L' r.2.2∧Zfl []∈L':=by
 unfold Zcz at h
 rw[Zkq x hs,Ze]at h
 cases hp:ZeM x with
 |false=>
  rw[hp,cnf]at h
  injection h with h
  rw[←h]at h2
  exact absurd h2 (show ¬(3:Int)=2 by decide)
 |true=>
  refine⟨rfl,?_⟩
  rw[hp,cnt,Zxq,Ze]at h
  cases hq:decide (0≤f)&&decide (f≤2000)with
  |false=>
   rw[hq,cnf]at h
   injection h with h
   rw[←h]at h2
   exact absurd h2 (show ¬(3:Int)=2 by decide)
  |true=>
   have hq':=hq
   rw[Xag,Xaf,Xaf]at hq'
   have hall:=ZxW hp
   have hlen:x.length≤400:=by
    unfold ZeM at hp
    simp only[Xag,Xaf]at hp
    exact hp.2
   have hg:Zbr x:=fun c hc=>⟨hall c hc,hs.2 c hc⟩
   have hd:Zcg []:=⟨fun x hx=>absurd hx XaB,fun i j hi=>by simp at hi⟩
   obtain⟨v,e,hv,hr⟩:=Zzm (D:=[]) (L:=x) (S:=[]) (fuel:=f) (rec_:=ZA 64) (fun l L' S' f' h1 h2 h3 h4 h5=>ZDm 64 ([]++[l]) L' S' f' h1 h2 h3 h4 h5 (by simp)) hd hg (by simp;omega) (by simp) hq'
   have e':ZbQ 64 [] f false x=some v:=by
    rw[←e]
    exact Zzb (ZbQ 63) [] f false x
   rw[hq,cnt,ZqY x (by omega),Ze,e',Ze]at h
   cases hok:v.1 with
   |true=>
    rw[hok,ctt]at h
    injection h with h
    rw[←h]at h2
    exact absurd h2 (show ¬(1:Int)=2 by decide)
   |false=>
    rw[hok,cff]at h
    cases hmu:v.2.2.1 with
    |true=>
     rw[hmu,ctt]at h
     injection h with h
     rw[←h]at h2
     exact absurd h2 (show ¬(0:Int)=2 by decide)
    |false=>
     rw[hmu,cff]at h
     injection h with h
     rw[←h]
     exact⟨v.2.2.2.2.1,hr.1,hr.2 hok hmu⟩
end Go.AE.Y
namespace Go.AE.Y
open Go Go.AE
set_option maxHeartbeats 400000
def ZsN (c:Zbt):Bool:=ZD c&&decide (Zpy c<c.2)
def ZtL (d:DbT):Option Nat:=(List.range d.1.length).find? (fun i=>!(d.2.getD i false)&&ZsN (d.1.getD i ([],0)))
noncomputable def Zlc (l:Zu) (S:List ZC):Option (DbT×Nat):=
 if ZeM l=true∧S.length≤1000 then(Zhz (ZdG l) S).bind fun d=>(ZtL d).map fun i=>(d,i)else none
theorem ZxX {l:Zu} (hs:ZhA l) (hp:ZeM l=true):Zbr l∧l.length≤400:=by
 refine⟨fun c hc=>⟨ZxW hp c hc,hs.2 c hc⟩,?_⟩
 unfold ZeM at hp
 simp only[Xag,Xaf]at hp
 exact hp.2
theorem Zr6:∀(S T:List ZC) (d:DbT),Zhz d (S++T)=(Zhz d S).bind fun d'=>Zhz d' T
 |[],T,d=>rfl
 |s::S,T,d=>by
  show (Zh8 d s).bind (fun d'=>Zhz d' (S++T))=((Zh8 d s).bind fun d'=>Zhz d' S).bind fun d'=>Zhz d' T
  cases Zh8 d s with
  |none=>rfl
  |some d'=>exact Zr6 S T d'
theorem ZE9 {l:Zu}:∀n,n≤l.length→ZnN (ZdG l) n=l.take n
 |0,_=>rfl
 |n+1,hn=>by
  have e:(ZdG l).2.getD n false=false:=by
   show (List.replicate l.length false).getD n false=false
   rw[Xaa,XaO (by omega)]
   rfl
  unfold ZnN
  rw[e,cff,ZE9 n (by omega),Zeo ([],0) (by omega)]
  rfl
theorem ZLi {L L':Zu} {S':List ZC} (h:RupExt L [] L' S') (hL:Zbr L):Zbr L'∧L'.length=L.length+S'.length∧(L'.length≤1000000→Zhz (ZdG L) S'=some (ZdG L')):=by
 induction h with
 |refl=>exact⟨hL,rfl,fun _=>rfl⟩
 |snoc _ h1 h2 h3 ih=>
  rename_i L1 S1 c _
  obtain⟨i1,i2,i3⟩:=ih
  refine⟨fun x hx=>?_,by rw[Xal,Xal,Xav,Xav];omega,fun hle=>?_⟩
  ·rcases List.mem_append.1 hx with q|q
   ·exact i1 x q
   ·rw[Xah]at q
    rw[q]
    exact⟨h1,by omega⟩
  ·rw[Xal,Xav]at hle
   rw[Zr6,i3 (by omega),Ze]
   show (Zh8 (ZdG L1) (ZvU c)).bind (fun d'=>some d')=_
   have hru:Zp7 (ZmN (ZdG L1)) c=true:=by
    have e:ZmN (ZdG L1)=L1:=by
     show ZnN (ZdG L1) L1.length=L1
     rw[ZE9 _ (Nat.le_refl _),XaA]
    rw[e]
    exact ZFC i1 (by omega) h1 h3
   have hp:Zmr (ZvU c)=true:=by
    unfold Zmr ZvU
    dsimp only
    rw[if_neg (by decide),if_neg (by decide),if_pos rfl]
    rfl
   have hder:Zdq (ZdG L1) (ZvU c)=Zp4 c:=by
    unfold Zdq
    rw[if_neg (show ¬(ZvU c).1=6 from(by decide:¬(7:Int)=6)),if_pos (show (ZvU c).1=7 from rfl)]
    show (bif ZD c&&Zp7 (ZmN (ZdG L1)) c then Zp4 c else noC)=Zp4 c
    rw[h1,hru,Xaj,ctt]
   unfold Zh8
   rw[hp,ctt,if_neg (show ¬(ZvU c).1=8 from(by decide:¬(7:Int)=8)),hder,show (Zp4 c).1=true from rfl,ctt,Ze]
   show some ((L1++[c],List.replicate L1.length false++[false]):DbT)=some (L1++[c],List.replicate (L1++[c]).length false)
   rw[Xal,Xav,List.replicate_succ']
theorem ZDS {x:Zu} (hs:ZhA x) {f:Int} {r:ZKK} (h:Zcz x f=some r) (h2:r.1=2) (ht:r.2.2.length≤1000):∃q,Zlc x r.2.2=some q:=by
 obtain⟨hp,L',hr,hm⟩:=ZDe hs h h2
 obtain⟨hg,h400⟩:=ZxX hs hp
 obtain⟨r1,r2,r3⟩:=ZLi hr hg
 have hrun:=r3 (by omega)
 unfold Zlc
 rw[if_pos ⟨hp,ht⟩,hrun,Ze]
 have hd:Zcg []:=⟨fun x hx=>absurd hx XaB,fun i j hi=>by simp at hi⟩
 have hf:ZsN (Zfl [])=true:=by
  unfold ZsN
  rw[ZAP hd]
  have:Zpy (Zfl [])=((Zbm (Zbb [])).length:Int):=ZDh _
  rw[this]
  have hz:Zbm (Zbb [])=[]:=by
   cases hl:Zbm (Zbb [])with
   |nil=>rfl
   |cons y l=>
    have:=(Zg9 (Zlb hd) y).1 (by rw[hl];exact Xau)
    exact absurd this XaB
  rw[hz]
  rfl
 obtain⟨i,hi,e⟩:=Xan.1 hm
 have hsome:(ZtL (ZdG L')).isSome=true:=by
  unfold ZtL
  rw[List.find?_isSome]
  refine⟨i,Xay.2 hi,?_⟩
  have e1:(ZdG L').2.getD i false=false:=by
   show (List.replicate L'.length false).getD i false=false
   rw[Xaa,XaO hi]
   rfl
  have e2:(ZdG L').1.getD i ([],0)=Zfl []:=by
   show L'.getD i ([],0)=_
   rw[Xaa,Xac hi,e]
   rfl
  rw[e1,e2,hf]
  rfl
 obtain⟨i,hi⟩:=Option.isSome_iff_exists.1 hsome
 rw[hi]
 exact⟨_,rfl⟩
end Go.AE.Y
namespace Go.AE.Y
open Go Go.AE
end Go.AE.Y
namespace Go.AE.Y
open Go Go.AE
set_option maxHeartbeats 400000
end Go.AE.Y
namespace Go.AE.Y
open Go Go.AE
set_option maxHeartbeats 400000
theorem ZEj {n:Int} (h:0≤n∧n≤4000000):Zge n=some []:=by
 unfold Zge
 rw[Zd (by omega),Zf (by omega) (by omega),Zf (by omega) (by omega)]
 by_cases q:0<n - (0 - 0)
 ·rw[Zc q,Zb rfl,Zb ⟨by omega,by simp only[Zl];omega⟩,Zb ⟨by omega,by omega⟩]
  rfl
 ·rw[Zd q]
theorem ZBP {x y:List (Int×Int)} (hx:x.length≤1000) (hy:y.length≤1000):Zfi [x,y]=some (x++y):=by
 have e0:ZbK [x,y] ((0:Int),(0:Int))=some (.inl ((x.length:Int),(1:Int))):=by
  unfold ZbK
  dsimp only
  rw[Zc (by simp),Zb ⟨by omega,by simp⟩]
  show rq (i64 (0+(x.length:Int))) _=_
  rw[Zf (by omega) (by omega)]
  show cond (decide (0+(x.length:Int)<0)) none _=_
  rw[Zd (by omega),Zf (by omega) (by omega)]
  show some (Sum.inl (0+(x.length:Int),(0:Int)+1))=_
  rw[XbX]
  rfl
 have e1:ZbK [x,y] ((x.length:Int),(1:Int))=some (.inl ((x.length:Int)+(y.length:Int),(2:Int))):=by
  unfold ZbK
  dsimp only
  rw[Zc (by simp),Zb ⟨by omega,by simp⟩]
  show rq (i64 ((x.length:Int)+(y.length:Int))) _=_
  rw[Zf (by omega) (by omega)]
  show cond (decide ((x.length:Int)+(y.length:Int)<0)) none _=_
  rw[Zd (by omega),Zf (by omega) (by omega)]
  rfl
 have g0:ZbL [x,y] ((0:Int),([]:List (Int×Int)))=some (.inl ((1:Int),x)):=by
  unfold ZbL
  dsimp only
  rw[Zc (by simp),Zb ⟨by omega,by simp⟩]
  show rq (([]:List (Int×Int)).length+x.length≤Zl) _=_
  rw[Zb (by simp[Zl];omega),Zf (by omega) (by omega)]
  rfl
 have g1:ZbL [x,y] ((1:Int),x)=some (.inl ((2:Int),x++y)):=by
  unfold ZbL
  dsimp only
  rw[Zc (by simp),Zb ⟨by omega,by simp⟩]
  show rq (x.length+y.length≤Zl) _=_
  rw[Zb (by simp only[Zl];omega),Zf (by omega) (by omega)]
  rfl
 have g2:ZbL [x,y] ((2:Int),x++y)=some (.inr (.inr (x++y))):=by
  unfold ZbL
  dsimp only
  rw[Zd (by simp)]
 have e2:ZbK [x,y] ((x.length:Int)+(y.length:Int),(2:Int))=some (.inr (x++y)):=by
  unfold ZbK
  dsimp only
  rw[Zd (by simp),ZEj ⟨by omega,by omega⟩,Ze,ZcG,g0,Ze]
  dsimp only
  rw[ZcG,g1,Ze]
  dsimp only
  rw[ZcG,g2,Ze]
 unfold Zfi
 rw[ZcG,e0,Ze]
 dsimp only
 rw[ZcG,e1,Ze]
 dsimp only
 rw[ZcG,e2,Ze]
theorem ZFd {α R:Type} {f:Int×List α→Option ((Int×List α)⊕R)} (l:List α) (d:α) (g:α→α) (fin:List α→R)
  (h:∀(i:Nat) (out:List α),i<l.length→out.length=l.length→out.getD i d=l.getD i d→f ((i:Int),out)=some (.inl ((i:Int)+1,out.set i (g (l.getD i d)))))
  (hn:f ((l.length:Int),l.map g)=some (.inr (fin (l.map g)))):loop f ((0:Int),l)=some (fin (l.map g)):=by
 refine ZJ (f:=f) (fun s:Int×List α=>∃i:Nat,s.1=i∧i≤l.length∧s.2=(l.take i).map g++l.drop i) (fun s=>l.length - s.1.toNat) (fun _=>fin (l.map g)) ?_ _ ⟨0,rfl,Nat.zero_le _,by simp⟩
 rintro⟨s,out⟩ ⟨i,hs,hi,ho⟩
 dsimp only at hs ho ⊢
 subst hs
 rcases Xad i l.length with h1|h1
 ·left
  have hlen:out.length=l.length:=by rw[ho,Xal,Xak,Xaz,Xbs];omega
  have hl1:((l.take i).map g).length=i:=by rw[Xak,Xaz];omega
  have hget:out.getD i d=l.getD i d:=by
   rw[ho,Xaa,XaT (by omega),hl1,Nat.sub_self,XaZ,XbU,Xaa]
  refine⟨_,h i out h1 hlen hget,⟨i+1,by simp,by omega,?_⟩,by dsimp only;omega,rfl⟩
  dsimp only
  rw[ho,List.set_append_right _ _ (by omega),hl1,Nat.sub_self,Xbx h1,List.set_cons_zero,Zeo d h1,Xa0,XaK]
  rfl
 ·right
  have:i=l.length:=by omega
  subst this
  rw[XaA,List.drop_length,Xax]at ho
  rw[ho,hn]
theorem Zj7 {c:Zbt} (h:ZD c=true):c.1.length≤12∧0≤c.2∧c.2≤20000:=⟨ZAt h,(ZdC h).1⟩
theorem ZGx {a b:Zbt} (ha:ZD a=true) (hb:ZD b=true):ZhM a b=some (Zva a b):=by
 have a1:=Zj7 ha
 have b1:=Zj7 hb
 unfold ZhM Zi0 Zva
 rw[Zbf a (by omega),Ze,ha,cnt,Zbf b (by omega),Ze,hb,cnt,ZBP (by omega) (by omega),Ze,Zf (by omega) (by omega),ZtQ (ZJz ha hb) (by rw[Xal];omega) ⟨by omega,by omega⟩,Ze,Xaj,ctt]
def ZlG (r:Zm3):Bool×List (Int×Int)×Int:=(r.1,r.2.2,r.2.1)
theorem Zuw {c:Zbt} (h:c.1.length≤1000):Zc8 c=some (ZlG (ZgG c)):=by
 unfold Zc8 ZgG ZlG
 rw[Zbf c (by omega),Ze]
 cases ZD c with
 |true=>rw[cnt,ctt];rfl
 |false=>rw[cnf,cff];rfl
theorem ZFe {a k:Int} (ha:0≤a∧a≤20000) (hk:1≤k∧k≤1000):0≤a*k∧a*k≤20000000:=by
 refine⟨Int.mul_nonneg ha.1 (by omega),?_⟩
 have:=Int.mul_le_mul ha.2 hk.2 (by omega) (by omega)
 omega
theorem ZGA {c:Zbt} {k:Int} (hc:ZD c=true):Zff c k=some (ZlG (ZvI c k)):=by
 have c1:=Zj7 hc
 obtain⟨_,c2⟩:=ZdC hc
 unfold Zff ZvI
 rw[Zbf c (by omega),Ze,hc,cnt,ZbR,Ze,Xaj]
 cases hq:decide (1≤k)&&decide (k≤1000)with
 |false=>rw[cnf,cff];rfl
 |true=>
  simp only[Xag,Xaf]at hq
  have hb:=ZFe c1.2 hq
  rw[cnt,ctt]
  have e:Zbz c k=some (ZlG (ZgG (ZxO c k))):=by
   unfold Zbz
   have e1:Zcj c.2 k=some (c.2*k):=by
    unfold Zcj
    rw[Zf (by omega) (by omega)]
   rw[ZA3 c (by omega),Ze,e1,Ze]
   refine ZFd c.1 (0,0) (fun t=>(t.1*k,t.2)) (fun _=>ZlG (ZgG (ZxO c k))) (fun i out hi hl hg=>?_) ?_
   ·obtain⟨l1,l2,l3⟩:=c2 i hi
    have hb2:=ZFe (a:=(c.1.getD i (0,0)).1) ⟨by omega,by omega⟩ hq
    unfold Zbk
    dsimp only
    have e2:Zcj (c.1.getD i (0,0)).1 k=some ((c.1.getD i (0,0)).1*k):=by
     unfold Zcj
     rw[Zf (by omega) (by omega)]
    rw[Zc (by omega),Zb ⟨by omega,by omega⟩,Xab,hg,e2,Ze,Zb ⟨by omega,by omega⟩,Zf (by omega) (by omega)]
   ·unfold Zbk Zb1
    dsimp only
    have e3:Zc8 (c.1.map (fun t=>(t.1*k,t.2)),c.2*k)=some (ZlG (ZgG (ZxO c k))):=Zuw (c:=ZxO c k) (by show (c.1.map _).length≤1000;rw[Xak];omega)
    rw[Zd (by omega),e3,Ze]
    generalize ZlG (ZgG (ZxO c k))=q
    rfl
  rw[e,Ze]
theorem ZGy {c:Zbt} {k:Int} (hc:ZD c=true):Zf9 c k=some (ZlG (Zvo c k)):=by
 have c1:=Zj7 hc
 obtain⟨_,c2⟩:=ZdC hc
 unfold Zf9 Zvo
 rw[Zbf c (by omega),Ze,hc,cnt,ZbR,Ze,Xaj]
 cases hq:decide (1≤k)&&decide (k≤1000)with
 |false=>rw[cnf,cff];rfl
 |true=>
  simp only[Xag,Xaf]at hq
  rw[cnt,ctt]
  have e1:∀n:Int,0≤n→n≤20000→Zef n k=some (upI n k):=fun n h1 h2=>by
   unfold Zef upI
   rw[Zf (by omega) (by omega),Zf (by omega) (by omega),Zb ⟨by omega,by omega⟩]
  have e:ZbE c k=some (ZlG (ZgG (Zxf c k))):=by
   unfold ZbE
   rw[ZA3 c (by omega),Ze,e1 c.2 (by omega) (by omega),Ze]
   refine ZFd c.1 (0,0) (fun t=>(upI t.1 k,t.2)) (fun _=>ZlG (ZgG (Zxf c k))) (fun i out hi hl hg=>?_) ?_
   ·obtain⟨l1,l2,l3⟩:=c2 i hi
    unfold Zbs
    dsimp only
    rw[Zc (by omega),Zb ⟨by omega,by omega⟩,Xab,hg,e1 _ (by omega) (by omega),Ze,Zb ⟨by omega,by omega⟩,Zf (by omega) (by omega)]
   ·unfold Zbs Zcf
    dsimp only
    have e3:Zc8 (c.1.map (fun t=>(upI t.1 k,t.2)),upI c.2 k)=some (ZlG (ZgG (Zxf c k))):=Zuw (c:=Zxf c k) (by show (c.1.map _).length≤1000;rw[Xak];omega)
    rw[Zd (by omega),e3,Ze]
    generalize ZlG (ZgG (Zxf c k))=q
    rfl
  rw[e,Ze]
theorem ZGB {c:Zbt} (hc:ZD c=true):Zfg c=some (ZCh c):=by
 have c1:=Zj7 hc
 unfold Zfg ZCh
 rw[Zbf c (by omega),Ze,hc,cnt,ctt]
 by_cases q:0<c.2
 ·rw[Zc q]
  have:=ZbU (f:=ZdD c) c.1 (0,0) (fun t=>(min t.1 c.2,t.2)) [] (fun _=>Zp4 (Zx4 c)) (fun i out hi ho=>?_) ?_
  ·exact this
  ·unfold ZdD
   dsimp only
   rw[Zc (by omega),Zb ⟨by omega,by omega⟩,Xab,Zb (by simp only[Zl,Xap,Xao];simp at ho;omega),Zf (by omega) (by omega)]
  ·unfold ZdD Zx4
   dsimp only
   rw[Zd (by omega),Xat,if_pos q]
   rfl
 ·rw[Zd q]
  unfold Zx4
  rw[if_neg q]
  rfl
theorem Zvj (l:List (Int×Int)) (t:Int×Int) (x:Int):Zki (l++[t]) x=Zki l x+(if vof t.2=x then t.1 else 0):=by
 unfold Zki
 rw[List.filter_append,Xa0,List.sum_append]
 congr 1
 by_cases q:vof t.2=x
 ·rw[Xa8 (p:=fun t:Int×Int=>decide (vof t.2=x)) (Xae q),if_pos q]
  show t.1+0=t.1
  omega
 ·rw[Xa7 (p:=fun t:Int×Int=>decide (vof t.2=x)) (by rw[Xaf];exact q),if_neg q]
  rfl
theorem ZC2 (l:List (Int×Int)) (t:Int×Int) (x:Int):(l++[t]).filter (fun t=>!decide (vof t.2=x))=l.filter (fun t=>!decide (vof t.2=x))++(if vof t.2=x then[]else[t]):=by
 rw[List.filter_append]
 congr 1
 by_cases q:vof t.2=x
 ·rw[Xa7 (by rw[Xae q];decide),if_pos q]
  rfl
 ·rw[Xa8 (by rw[decide_eq_false q];rfl),if_neg q]
  rfl
theorem ZEz {c:Zbt} {x:Int} {i:Nat} (hc:ZD c=true) (hi:i<c.1.length) (hx:vof (c.1.getD i (0,0)).2=x):Zki (c.1.take i) x=0:=by
 have hp:=(Zkk.1 hc).2.1
 unfold Zki
 have:(c.1.take i).filter (fun t=>decide (vof t.2=x))=[]:=List.filter_eq_nil_iff.2 (fun t ht=>by
  obtain⟨j,hj,rfl⟩:=Xan.1 ht
  rw[Xaz]at hj
  have:=XaV.1 hp j i (by omega) hi (by omega)
  rw[Xaa,Xac hi]at hx
  have hx:vof (c.1[i]).2=x:=hx
  rw[Xbb,Xaf]
  omega)
 rw[this]
 rfl
theorem ZEA {c:Zbt} {x:Int} (hc:ZD c=true):∀i,i≤c.1.length→0≤Zki (c.1.take i) x∧Zki (c.1.take i) x≤1000*i
 |0,_=>⟨Xaq _,Xaq _⟩
 |i+1,hi=>by
  have ih:=ZEA (x:=x) hc i (by omega)
  obtain⟨l1,l2,l3⟩:=(ZdC hc).2 i (by omega)
  rw[Zeo (0,0) (by omega),Zvj]
  split<;>omega
theorem ZEW {c:Zbt} {x:Int} (hc:ZD c=true):Zga c x=some (ZyF c x):=by
 have c1:=Zj7 hc
 obtain⟨_,c2⟩:=ZdC hc
 unfold Zga ZyF
 rw[Zbf c (by omega),Ze,hc,cnt,ZbR,Ze,Xaj]
 cases hq:decide (1≤x)&&decide (x≤12)with
 |false=>rw[cnf,cff];rfl
 |true=>
  rw[cnt,ctt]
  refine ZJ (f:=Ze2 c x) (fun s:Int×Int×List (Int×Int)=>∃n:Nat,s.1=n∧n≤c.1.length∧s.2.1=max 0 (c.2 - Zki (c.1.take n) x)∧s.2.2=(c.1.take n).filter (fun t=>!decide (vof t.2=x))) (fun s=>c.1.length - s.1.toNat) (fun _=>Zp4 (ZBp c x)) ?_ _ ⟨0,rfl,Nat.zero_le _,by show c.2=max 0 (c.2 - 0);omega,rfl⟩
  rintro⟨s,b,o⟩ ⟨n,hs,hn,hb,ho⟩
  dsimp only at hs hb ho ⊢
  subst hs
  have hcl:=ZEA (x:=x) hc n hn
  have hol:o.length≤n:=by
   rw[ho]
   have:=XbJ (fun t:Int×Int=>!decide (vof t.2=x)) (c.1.take n)
   rw[Xaz]at this
   omega
  unfold Ze2
  dsimp only
  rcases Xad n c.1.length with h1|h1
  ·left
   obtain⟨l1,l2,l3⟩:=c2 n h1
   have hlit:=Zy.1 l1
   rw[Zc (by omega),Zb ⟨by omega,by omega⟩,Xab,Zd4 (by omega),Ze]
   by_cases q:vof (c.1.getD n (0,0)).2=x
   ·have h0:=ZEz hc h1 q
    rw[Zx q,Zf (by omega) (by omega),Zf (by omega) (by omega)]
    refine⟨_,rfl,⟨n+1,by simp,by omega,?_,?_⟩,by (try dsimp only)<;>omega,rfl⟩
    ·dsimp only
     rw[Zeo (0,0) h1,Zvj,if_pos q,h0,XbX]
    ·dsimp only
     rw[Zeo (0,0) h1,ZC2,if_pos q,Xax,ho]
   ·rw[Zt q,Zb (by simp only[Zl,Xap,Xao];omega),Zf (by omega) (by omega)]
    refine⟨_,rfl,⟨n+1,by simp,by omega,?_,?_⟩,by (try dsimp only)<;>omega,rfl⟩
    ·dsimp only
     rw[Zeo (0,0) h1,Zvj,if_neg q,Int.add_zero]
     exact hb
    ·dsimp only
     rw[Zeo (0,0) h1,ZC2,if_neg q,ho]
  ·right
   have hnn:n=c.1.length:=by omega
   rw[hnn,XaA]at hb ho
   rw[Zd (by omega),hb,ho]
   rfl
end Go.AE.Y
namespace Go.AE.Y
open Go Go.AE
set_option maxHeartbeats 400000
theorem ZFW {c:Zbt} {n:Nat} (h:n<c.1.length):((c.1.take (n+1)).map (fun t=>t.1)).sum=((c.1.take n).map (fun t=>t.1)).sum+(c.1.getD n (0,0)).1:=by
 rw[Zeo (0,0) h,Xa0,List.sum_append]
 show _+((c.1.getD n (0,0)).1+0)=_
 omega
theorem ZJU {c:Zbt} (hc:ZD c=true):∀n,n≤c.1.length→0≤((c.1.take n).map (fun t=>t.1)).sum∧((c.1.take n).map (fun t=>t.1)).sum≤1000*n
 |0,_=>⟨Xaq _,Xaq _⟩
 |n+1,h=>by
  have ih:=ZJU hc n (by omega)
  obtain⟨l1,l2,l3⟩:=(ZdC hc).2 n (by omega)
  rw[ZFW (by omega)]
  omega
theorem Zwd {c:Zbt} (hc:ZD c=true):ZeH c=some (Zpy c):=by
 have c1:=Zj7 hc
 unfold ZeH
 refine ZJ (f:=ZeY c) (fun s:Int×Int=>∃n:Nat,s.2=n∧n≤c.1.length∧s.1=((c.1.take n).map (fun t=>t.1)).sum) (fun s=>c.1.length - s.2.toNat) (fun _=>Zpy c) ?_ _ ⟨0,rfl,Nat.zero_le _,rfl⟩
 rintro⟨x,s⟩ ⟨n,hs,hn,hx⟩
 dsimp only at hs hx ⊢
 subst hs
 have hb:=ZJU hc n hn
 unfold ZeY
 dsimp only
 rcases Xad n c.1.length with h1|h1
 ·left
  obtain⟨l1,l2,l3⟩:=(ZdC hc).2 n h1
  rw[Zc (by omega),Zb ⟨by omega,by omega⟩,Xab,Zf (by omega) (by omega),Zf (by omega) (by omega)]
  exact⟨_,rfl,⟨n+1,by simp,by omega,by dsimp only;rw[ZFW h1,hx]⟩,by (try dsimp only)<;>omega,rfl⟩
 ·right
  have:n=c.1.length:=by omega
  rw[this,XaA]at hx
  rw[Zd (by omega),hx]
  rfl
theorem ZDG {c:Zbt} (hl:c.1.length≤1048576):ZeV c=some (ZsN c):=by
 unfold ZeV ZsN
 rw[Zbf c (by omega),Ze]
 cases hc:ZD c with
 |false=>rw[cff,Xai]
 |true=>rw[ctt,Zwd hc,Ze,Xaj]
theorem ZGD {c:Zbt} (hc:ZD c=true):ZeW c=some ((ZjQ c).2,(ZjQ c).1):=by
 have c1:=Zj7 hc
 have ht:=ZHx hc
 obtain⟨_,c2⟩:=ZdC hc
 unfold ZeW ZfX ZfY
 rw[Zwd hc,Ze,Zf (by omega) (by omega),Zf (by omega) (by omega)]
 have:=ZbU (f:=Zdn c (max 0 (Zpy c - c.2+1))) c.1 (0,0) (fun t=>(t.1,0 - t.2)) [] (fun o=>(max 0 (Zpy c - c.2+1),o)) (fun i out hi ho=>?_) ?_
 ·rw[Xat]at this
  exact this
 ·obtain⟨l1,_,_⟩:=c2 i hi
  have hlit:=Zy.1 l1
  unfold Zdn ZfZ
  dsimp only
  rw[Zc (by omega),Zb ⟨by omega,by omega⟩,Xab,Zf (by omega) (by omega),Zb (by simp only[Zl,Xap,Xao];simp at ho;omega),Zf (by omega) (by omega)]
 ·unfold Zdn
  dsimp only
  rw[Zd (by omega)]
theorem ZGF {L:Zu} {c:Zbt} (hL:Zbr L) (hl:L.length≤1000000) (hc:ZD c=true):Zvy L c=some (Zp7 L c):=by
 obtain⟨r,e,eb⟩:=ZMu hL hl hc
 unfold Zvy Zuc
 rw[ZqY L (by omega),Ze,ZGD hc,Ze,Zb (by simp only[Zl,Xap,Xao];omega),Zb ⟨by omega,by simp only[Zl];omega,rfl⟩]
 show (ZbH (L++[ZjQ c]) ZBD).bind _=_
 rw[e,Ze,eb]
theorem ZAT (d:DbT) (n:Nat):ZnN d (n+1)=ZnN d n++(bif d.2.getD n false then[]else[d.1.getD n ([],0)]):=rfl
theorem ZE0 {d:DbT} (hg:d.2.length=d.1.length) (hl:d.1.length≤1000000):ZfK d.1 d.2=some (ZmN d):=by
 unfold ZfK
 refine ZJ (f:=ZeL d.1 d.2) (fun s:Int×Zu=>∃n:Nat,s.1=n∧n≤d.1.length∧s.2=ZnN d n) (fun s=>d.1.length - s.1.toNat) (fun _=>ZmN d) ?_ _ ⟨0,rfl,Nat.zero_le _,rfl⟩
 rintro⟨s,o⟩ ⟨n,hs,hn,ho⟩
 dsimp only at hs ho ⊢
 subst hs
 have hlen:=ZtT d n
 unfold ZeL
 dsimp only
 rcases Xad n d.1.length with h1|h1
 ·left
  rw[Zc (by omega),Zb ⟨by omega,by omega⟩,Zb ⟨by omega,by omega⟩,Xab]
  cases hq:d.2.getD n false with
  |true=>
   rw[cnt,Zf (by omega) (by omega)]
   exact⟨_,rfl,⟨n+1,by simp,by omega,by dsimp only;rw[ZAT,hq,ctt,Xax,ho]⟩,by (try dsimp only)<;>omega,rfl⟩
  |false=>
   rw[cnf,Zb (by rw[ho];simp only[Zl,Xap,Xao];omega),Zf (by omega) (by omega)]
   exact⟨_,rfl,⟨n+1,by simp,by omega,by dsimp only;rw[ZAT,hq,cff,ho]⟩,by (try dsimp only)<;>omega,rfl⟩
 ·right
  have:n=d.1.length:=by omega
  rw[Zd (by omega),ho,this]
  rfl
theorem Zze {d:DbT} {i:Int} (hg:d.2.length=d.1.length) (hl:d.1.length≤1000000):ZdV i d.1 d.2=some (ZhR d i):=by
 unfold ZdV ZhR
 rw[Zf (by omega) (by omega),ZbR,Ze]
 by_cases q1:0≤i
 ·rw[Xae q1,Xaj]
  by_cases q2:i<d.1.length
  ·rw[Xae (show i≤(d.1.length:Int) - 1 by omega),ctt,Zb ⟨by omega,by omega⟩,Xae q2,Xaj,Xaj]
  ·rw[decide_eq_false (show ¬i≤(d.1.length:Int) - 1 by omega),cff,decide_eq_false q2,Xa2,Xai]
 ·rw[decide_eq_false q1,Xai,cff,Xai,Xai]
theorem ZDb (k:Int):∃n b,Zny k=some (n,b)∧((k=1∧n=2∧b=false)∨((k=2∨k=3∨k=5)∧n=1∧b=true)∨((k=4∨k=8)∧n=1∧b=false)∨((k=6∨k=7)∧n=0∧b=false)∨((k≤0∨9≤k)∧n = -1∧b=false)):=by
 unfold Zny
 by_cases k1:k=1
 ·rw[Zx k1];exact⟨_,_,rfl,Or.inl ⟨k1,rfl,rfl⟩⟩
 rw[Zt k1]
 by_cases k2:k=2
 ·rw[Zx k2];exact⟨_,_,rfl,by simp[k2]⟩
 rw[Zt k2]
 by_cases k3:k=3
 ·rw[Zx k3];exact⟨_,_,rfl,by simp[k3]⟩
 rw[Zt k3]
 by_cases k5:k=5
 ·rw[Zx k5];exact⟨_,_,rfl,by simp[k5]⟩
 rw[Zt k5]
 by_cases k4:k=4
 ·rw[Zx k4];exact⟨_,_,rfl,by simp[k4]⟩
 rw[Zt k4]
 by_cases k8:k=8
 ·rw[Zx k8];exact⟨_,_,rfl,by simp[k8]⟩
 rw[Zt k8]
 by_cases k6:k=6
 ·rw[Zx k6];exact⟨_,_,rfl,by simp[k6]⟩
 rw[Zt k6]
 by_cases k7:k=7
 ·rw[Zx k7];exact⟨_,_,rfl,by simp[k7]⟩
 rw[Zt k7]
 exact⟨_,_,rfl,Or.inr (Or.inr (Or.inr (Or.inr ⟨by omega,rfl,rfl⟩)))⟩
theorem ZEn {s:ZC} (hl:s.2.2.2.1.length≤1048576):Zba s.2.2.2 (([]:List (Int×Int)),(0:Int))=some (ZD7 s):=by
 unfold Zba ZD7
 by_cases q:s.2.2.2.2=0
 ·rw[Zx q,Xae q,Xb1]
  have e:ZdK s.2.2.2.1 []=some (decide (s.2.2.2.1=[])):=by
   unfold ZdK
   cases hs:s.2.2.2.1 with
   |nil=>
    rw[show ((([]:List (Int×Int)).length:Int) != (([]:List (Int×Int)).length:Int))=false by simp,cff,ZcG]
    unfold ZdU
    rw[Zd (by simp),Ze]
    rfl
   |cons t l=>
    rw[show (((t::l).length:Int) != (([]:List (Int×Int)).length:Int))=true by simp;omega,ctt,decide_eq_false (by simp)]
  rw[e,Ze]
 ·rw[Zt q,decide_eq_false q,Xa2]
theorem ZDH {s:ZC} (hl:s.2.2.2.1.length≤1048576):Zkt s=some (Zmr s):=by
 obtain⟨n,b,e,h⟩:=ZDb s.1
 have hs:=ZEn hl
 unfold Zkt Zmr
 rw[e,Ze]
 dsimp only
 rcases h with⟨k,rfl,rfl⟩|⟨k,rfl,rfl⟩|⟨k,rfl,rfl⟩|⟨k,rfl,rfl⟩|⟨k,rfl,rfl⟩
 ·rw[Zc (by omega),Zc (by omega),Zx rfl,Zt (by omega),hs,Ze,if_pos (Or.inl k)]
 ·rw[Zc (by omega),Zc (by omega),Zt (by omega),ctt,Zt (by omega),hs,Ze,if_pos (by omega)]
 ·rw[Zc (by omega),Zc (by omega),Zt (by omega),cff,if_neg (by omega),if_pos (by omega)]
  by_cases q:s.2.2.1=0
  ·rw[Zx q,Zt (by omega),hs,Ze,Xae q,Xb1]
  ·rw[Zt q,decide_eq_false q,Xa2]
 ·rw[Zc (by omega),Zd (by omega),if_neg (by omega)]
  rcases k with k|k
  ·rw[Zx k,Zt (by omega),cff,if_pos (by omega)]
   by_cases q:s.2.2.1=0
   ·rw[Zx q,Zt (by omega),hs,Ze,Xae q,Xb1]
   ·rw[Zt q,decide_eq_false q,Xa2]
  ·rw[Zt (by omega),if_neg (by omega),if_pos k]
   by_cases q0:s.2.1=0
   ·rw[Zx q0,Zt (by omega),cff,Xae q0,Xaj]
    by_cases q:s.2.2.1=0
    ·rw[Zx q,Zx k,Xae q]
    ·rw[Zt q,decide_eq_false q]
   ·rw[Zt q0,decide_eq_false q0,Xai]
 ·rw[Zd (by omega),if_neg (by omega),if_neg (by omega),if_neg (by omega)]
end Go.AE.Y
namespace Go.AE.Y
open Go Go.AE
set_option maxHeartbeats 400000
structure ZsG (d:DbT):Prop where
 good:Zbr d.1
 gone:d.2.length=d.1.length
 few:d.1.length≤900000
theorem ZGz (l:Int):Zjh l=some (axB l):=by
 unfold Zjh axB
 rw[Zna,Ze]
 cases ZX l with
 |true=>rw[cnt,ctt];rfl
 |false=>rw[cnf,cff];rfl
theorem ZK3 {d:DbT} (h:ZsG d):(ZmN d).length≤900000:=by
 have:=ZtT d d.1.length
 have:=h.few
 unfold ZmN
 omega
theorem ZE1 {d:DbT} (h:ZsG d) (f:Bool) (t:List (Int×Int)) (b:Int):ZS d.1 d.2 ((t,b),f)=some (f,d.1++[(t,b)],d.2++[false]):=by
 have:=h.few
 have:=h.gone
 unfold ZS ZgU
 dsimp only
 rw[Zb (by simp only[Zl,Xap,Xao];omega),Zb (by simp only[Zl,Xap,Xao];omega)]
theorem ZE3 {d:DbT} {s:ZC} (h:ZsG d) (hl:s.2.2.2.1.length≤1048576):∃r,Zes s d.1 d.2=some r∧(r.1=true→Zh8 d s=some (r.2.1,r.2.2))∧(r.1=false→Zh8 d s=none):=by
 have hf:=h.few
 have hg:=h.gone
 obtain⟨n,b,e,hk⟩:=ZDb s.1
 unfold Zes ZgT Zh8
 rw[e,Ze,ZDH hl,Ze]
 dsimp only
 cases hp:Zmr s with
 |false=>rw[cnf,cff];exact⟨_,rfl,fun q=>(by cases q),fun _=>rfl⟩
 |true=>
  rw[cnt,ctt]
  have hkind:1≤s.1∧s.1≤8:=by
   unfold Zmr at hp
   by_cases q1:s.1=1∨s.1=2∨s.1=3∨s.1=5
   ·omega
   ·rw[if_neg q1]at hp
    by_cases q2:s.1=4∨s.1=6∨s.1=8
    ·omega
    ·rw[if_neg q2]at hp
     by_cases q3:s.1=7
     ·omega
     ·rw[if_neg q3]at hp;cases hp
  have push:∀(r:Zm3) (f:Bool) (t:List (Int×Int)) (c:Int),r.1=f→(f=true→r=(f,c,t))→s.1≠8→Zdq d s=r→∃q,ZS d.1 d.2 ((t,c),f)=some q∧(q.1=true→(if s.1=8 then(bif ZhR d s.2.1 then some (d.1,d.2.set s.2.1.toNat true)else none)else(bif (Zdq d s).1 then some (d.1++[ofR (Zdq d s)],d.2++[false])else none))=some (q.2.1,q.2.2)) ∧
    (q.1=false→(if s.1=8 then(bif ZhR d s.2.1 then some (d.1,d.2.set s.2.1.toNat true)else none)else(bif (Zdq d s).1 then some (d.1++[ofR (Zdq d s)],d.2++[false])else none))=none):=fun r f t c h1 h2 h8 hd=>by
   rw[ZE1 h,if_neg h8,hd,h1]
   cases f with
   |true=>
    rw[ctt,h2 rfl]
    exact⟨_,rfl,fun _=>rfl,fun q=>by cases q⟩
   |false=>
    rw[cff]
    exact⟨_,rfl,fun q=>(by cases q),fun _=>rfl⟩
  have flip:∀r:Zm3,(r.1=true→r=(r.1,(ZlG r).2.2,(ZlG r).2.1)):=fun r _=>rfl
  have dead:ZhR d s.2.1=false→s.1≠6→s.1≠7→(if s.1=8 then(bif ZhR d s.2.1 then some (d.1,d.2.set s.2.1.toNat true)else none)else(bif (Zdq d s).1 then some (d.1++[ofR (Zdq d s)],d.2++[false])else none))=none:=fun q h6 h7=>by
   by_cases k8:s.1=8
   ·rw[if_pos k8,q,cff]
   ·rw[if_neg k8]
    unfold Zdq
    rw[if_neg h6,if_neg h7,q,cff]
    rfl
  have hA:s.1≠6→s.1≠7→ZhR d s.2.1=true→Zdq d s=(if s.1=1 then(bif ZhR d s.2.2.1 then Zva (Zkj d s.2.1) (Zkj d s.2.2.1)else noC)else if s.1=2 then ZvI (Zkj d s.2.1) s.2.2.1 else if s.1=3 then Zvo (Zkj d s.2.1) s.2.2.1 else if s.1=4 then ZCh (Zkj d s.2.1)else ZyF (Zkj d s.2.1) s.2.2.1):=fun h6 h7 q=>by
   unfold Zdq
   rw[if_neg h6,if_neg h7,q,ctt]
  by_cases k67:s.1=6∨s.1=7
  ·have hn:n=0:=by omega
   rw[hn,Zd (by omega),Zd (by omega)]
   unfold ZbP
   rw[Zt (by omega),Zt (by omega),Zt (by omega),Zt (by omega),Zt (by omega),Zt (by omega)]
   rcases k67 with k|k
   ·rw[Zx k,ZGz,Ze]
    exact push (axB s.2.1) _ _ _ rfl (fun _=>rfl) (by omega) (by unfold Zdq;rw[if_pos k])
   ·rw[Zt (by omega),Zx k,Zbf s.2.2.2 (by omega),Ze]
    have hd:Zdq d s=(bif ZD s.2.2.2&&Zp7 (ZmN d) s.2.2.2 then Zp4 s.2.2.2 else noC):=by
     unfold Zdq
     rw[if_neg (by omega),if_pos k]
    cases hc:ZD s.2.2.2 with
    |false=>
     rw[cff]
     rw[hc,Xai,cff]at hd
     exact push noC _ _ _ rfl (fun q=>by cases q) (by omega) hd
    |true=>
     rw[ctt,ZE0 h.gone (by omega),Ze,ZGF (ZC3 h.good) (by have:=ZK3 h;omega) hc,Ze]
     rw[hc,Xaj]at hd
     cases hr:Zp7 (ZmN d) s.2.2.2 with
     |true=>
      rw[hr,ctt]at hd
      exact push (Zp4 s.2.2.2) _ _ _ rfl (fun _=>rfl) (by omega) hd
     |false=>
      rw[hr,cff]at hd
      exact push noC _ _ _ rfl (fun q=>by cases q) (by omega) hd
  ·have hn:1≤n:=by omega
   rw[Zc (by omega),Zze h.gone (by omega),Ze]
   cases qa:ZhR d s.2.1 with
   |false=>
    rw[cnf]
    have dd:=dead qa (by omega) (by omega)
    rw[qa]at dd
    exact⟨_,rfl,fun q=>(by cases q),fun _=>dd⟩
   |true=>
    obtain⟨a0,a1,a2⟩:=Zvk qa
    have ca:ZD (d.1.getD s.2.1.toNat ([],0))=true:=(h.good _ a2).1
    have hA:=hA (by omega) (by omega) qa
    rw[qa]at push
    rw[cnt]
    by_cases k1:s.1=1
    ·have hn:n=2:=by omega
     rw[if_pos k1]at hA
     rw[hn,Zc (by omega),Zze h.gone (by omega),Ze]
     cases qb:ZhR d s.2.2.1 with
     |false=>
      rw[qb,cff]at hA
      rw[cnf]
      exact⟨_,rfl,fun q=>(by cases q),fun _=>by rw[if_neg (show ¬s.1=8 by omega),hA];rfl⟩
     |true=>
      obtain⟨b0,b1,b2⟩:=Zvk qb
      have cb:ZD (d.1.getD s.2.2.1.toNat ([],0))=true:=(h.good _ b2).1
      rw[qb,ctt]at hA
      unfold ZbP
      rw[cnt,Zt (by omega),Zx k1,Zb ⟨a0,by omega⟩,Zb ⟨b0,by omega⟩,ZGx ca cb,Ze]
      exact push (Zva _ _) _ _ _ rfl (fun _=>rfl) (by omega) hA
    ·have hn:n=1:=by omega
     rw[if_neg k1]at hA
     rw[hn,Zd (by omega)]
     unfold ZbP
     by_cases k8:s.1=8
     ·rw[Zx k8,Zb ⟨a0,by omega⟩]
      exact⟨_,rfl,fun _=>(by rw[if_pos k8,ctt]),fun q=>by cases q⟩
     rw[Zt k8,Zt k1]
     by_cases k2:s.1=2
     ·rw[if_pos k2]at hA
      rw[Zx k2,Zb ⟨a0,by omega⟩,ZGA ca,Ze]
      exact push (ZvI _ _) _ _ _ rfl (flip _) (by omega) hA
     rw[if_neg k2]at hA
     rw[Zt k2]
     by_cases k3:s.1=3
     ·rw[if_pos k3]at hA
      rw[Zx k3,Zb ⟨a0,by omega⟩,ZGy ca,Ze]
      exact push (Zvo _ _) _ _ _ rfl (flip _) (by omega) hA
     rw[if_neg k3]at hA
     rw[Zt k3]
     by_cases k4:s.1=4
     ·rw[if_pos k4]at hA
      rw[Zx k4,Zb ⟨a0,by omega⟩,ZGB ca,Ze]
      exact push (ZCh _) _ _ _ rfl (fun _=>rfl) (by omega) hA
     rw[if_neg k4]at hA
     rw[Zt k4,Zx (by omega),Zb ⟨a0,by omega⟩,ZEW ca,Ze]
     exact push (ZyF _ _) _ _ _ rfl (fun _=>rfl) (by omega) hA
theorem ZHv {d d':DbT} {s:ZC} (h:ZsG d) (hf:d.1.length<900000) (hs:Zh8 d s=some d'):ZsG d'∧d'.1.length≤d.1.length+1:=by
 unfold Zh8 at hs
 cases hp:Zmr s with
 |false=>rw[hp,cff]at hs;cases hs
 |true=>
  rw[hp,ctt]at hs
  by_cases k8:s.1=8
  ·rw[if_pos k8]at hs
   cases hv:ZhR d s.2.1 with
   |false=>rw[hv,cff]at hs;cases hs
   |true=>
    rw[hv,ctt]at hs
    injection hs with hs
    subst hs
    exact⟨⟨h.good,by dsimp only;rw[Xam];exact h.gone,h.few⟩,Nat.le_succ _⟩
  ·rw[if_neg k8]at hs
   cases hv:(Zdq d s).1 with
   |false=>rw[hv,cff]at hs;cases hs
   |true=>
    rw[hv,ctt]at hs
    injection hs with hs
    subst hs
    have o1:=(ZJa h.good (by have:=h.few;omega) hv).1
    have o12:=ZAt o1
    have hg:=h.gone
    refine⟨⟨fun c hc=>?_,by dsimp only;rw[Xal,Xal,Xav,Xav,hg],by dsimp only;rw[Xal,Xav];omega⟩,by dsimp only;rw[Xal,Xav];omega⟩
    rcases List.mem_append.1 hc with q|q
    ·exact h.good c q
    ·rw[Xah]at q
     rw[q]
     exact⟨o1,by omega⟩
theorem ZFB {d d':DbT} {S:List ZC} {n:Nat} (hn:n<S.length) (h:Zhz d (S.take n)=some d'):Zhz d (S.take (n+1))=Zh8 d' (S.getD n zS):=by
 rw[Zeo zS hn,Zr6,h,Ze]
 show (Zh8 d' (S.getD n zS)).bind (fun d''=>some d'')=_
 cases Zh8 d' (S.getD n zS)<;>rfl
theorem ZLh {d d':DbT} {S:List ZC} {n:Nat} (hn:n<S.length) (h:Zhz d (S.take n)=some d') (h2:Zh8 d' (S.getD n zS)=none):Zhz d S=none:=by
 have e:S=S.take (n+1)++S.drop (n+1):=(List.take_append_drop _ _).symm
 rw[e,Zr6,ZFB hn h,h2]
 rfl
theorem ZFR {l:Zu} (hg:Zbr l) (h4:l.length≤400):ZsG (ZdG l):=⟨hg,XaG,by show l.length≤900000;omega⟩
def Zsh (S:List ZC):Prop:=∀s∈S,s.2.2.2.1.length≤1048576
theorem ZGE {l:Zu} {S:List ZC} (hs:ZhA l) (hS:Zsh S) :
  ∃r,Zvx l S=some r∧((r.1=true∧r.2.1 = -1∧(ZeM l=true∧S.length≤1000)∧Zhz (ZdG l) S=some (r.2.2.1,r.2.2.2.1))∨(r.1=false∧0≤r.2.2.2.2∧¬((ZeM l=true∧S.length≤1000)∧∃d,Zhz (ZdG l) S=some d))):=by
 unfold Zvx Zub
 rw[Zkq l hs,Ze]
 cases hp:ZeM l with
 |false=>rw[cnf];exact⟨_,rfl,Or.inr ⟨rfl,Xaq _,fun h=>by cases h.1.1⟩⟩
 |true=>
  rw[cnt]
  by_cases q:1000<(S.length:Int)
  ·rw[Zc q];exact⟨_,rfl,Or.inr ⟨rfl,Xaq _,fun h=>by have:=h.1.2;omega⟩⟩
  ·obtain⟨hg,h4⟩:=ZxX hs hp
   rw[Zd q,ZqY l (by omega),Ze,Zb ⟨by omega,by simp only[Zl];omega,rfl⟩,Xab]
   have:=Zb4 (f:=Zqg S) (fun s:Int×Zu×List Bool=>∃n:Nat,s.1=n∧n≤S.length∧Zhz (ZdG l) (S.take n)=some (s.2.1,s.2.2)∧ZsG (s.2.1,s.2.2)∧s.2.1.length≤400+n) (fun s=>S.length - s.1.toNat)
    (fun r=>(r.1=true∧r.2.1 = -1∧(true=true∧S.length≤1000)∧Zhz (ZdG l) S=some (r.2.2.1,r.2.2.2.1))∨(r.1=false∧0≤r.2.2.2.2∧¬((true=true∧S.length≤1000)∧∃d,Zhz (ZdG l) S=some d))) ?_ ((0:Int),l,List.replicate l.length false) ⟨0,rfl,Nat.zero_le _,rfl,ZFR hg h4,by show l.length≤400+0;omega⟩
   ·exact this
   rintro⟨i,all,gone⟩ ⟨n,hn1,hn,hr,hok,hlen⟩
   dsimp only at hn1 hr hok hlen
   subst hn1
   unfold Zqg
   dsimp only
   rcases Xad n S.length with h1|h1
   ·have hm:=hS _ (Zz (l:=S) (i:=n) (d:=zS) h1)
    obtain⟨r,er,h2,h3⟩:=ZE3 hok hm
    have er:Zes (S.getD n (0,(0,(0,([],0))))) all gone=some r:=er
    rw[Zc (by omega),Zb ⟨by omega,by omega⟩,Xab,er,Ze]
    cases hr1:r.1 with
    |true=>
     left
     rw[cnt,Zf (by omega) (by omega)]
     have h2:=h2 hr1
     have hso:=ZHv hok (by dsimp only;omega) h2
     refine⟨_,rfl,⟨n+1,by simp,by omega,?_,hso.1,?_⟩,by (try dsimp only)<;>omega⟩
     ·dsimp only
      rw[ZFB h1 hr]
      exact h2
     ·have:=hso.2
      dsimp only at this ⊢
      omega
    |false=>
     right
     rw[cnf]
     refine⟨_,rfl,Or.inr ⟨rfl,by (try dsimp only)<;>omega,fun h=>?_⟩⟩
     obtain⟨_,d,hd⟩:=h
     rw[ZLh h1 hr (h3 hr1)]at hd
     cases hd
   ·right
    have hnn:n=S.length:=by omega
    rw[hnn,XaA]at hr
    rw[Zd (by omega)]
    exact⟨_,rfl,Or.inl ⟨rfl,rfl,⟨rfl,by omega⟩,hr⟩⟩
end Go.AE.Y
namespace Go.AE.Y
open Go Go.AE
set_option maxHeartbeats 400000
theorem ZJC:∀(S:List ZC) (d d':DbT),ZsG d→d.1.length+S.length≤900000→Zhz d S=some d'→ZsG d'∧d'.1.length≤d.1.length+S.length∧∀s∈S,Zmr s=true
 |[],d,d',h,_,hr=>by
  have hr:some d=some d':=hr
  injection hr with hr
  subst hr
  exact⟨h,Nat.le_refl _,fun s hs=>absurd hs XaB⟩
 |s::S,d,d',h,hl,hr=>by
  have hr:(Zh8 d s).bind (fun d1=>Zhz d1 S)=some d':=hr
  rw[Xap]at hl
  cases hs:Zh8 d s with
  |none=>rw[hs]at hr;cases hr
  |some d1=>
   rw[hs,Ze]at hr
   obtain⟨o1,o2⟩:=ZHv h (by omega) hs
   obtain⟨i1,i2,i3⟩:=ZJC S d1 d' o1 (by omega) hr
   refine⟨i1,by rw[Xap];omega,fun x hx=>?_⟩
   rcases XaC.1 hx with e|e
   ·rw[e]
    unfold Zh8 at hs
    cases hp:Zmr s with
    |true=>rfl
    |false=>rw[hp,cff]at hs;cases hs
   ·exact i3 x e
theorem ZvR {l:Zu} {S:List ZC} {q:DbT×Nat}:Zlc l S=some q↔(ZeM l=true∧S.length≤1000)∧Zhz (ZdG l) S=some q.1∧ZtL q.1=some q.2:=by
 unfold Zlc
 by_cases h:ZeM l=true∧S.length≤1000
 ·rw[if_pos h]
  cases hr:Zhz (ZdG l) S with
  |none=>exact⟨fun e=>(by cases e),fun e=>(by cases e.2.1)⟩
  |some d=>
   rw[Ze]
   cases hf:ZtL d with
   |none=>
    refine⟨fun e=>(by cases e),fun e=>?_⟩
    have e1:=e.2.1
    injection e1 with e1
    have e2:=e.2.2
    rw[←e1,hf]at e2
    cases e2
   |some i=>
    constructor
    ·intro e
     have e:some (d,i)=some q:=e
     injection e with e
     subst e
     exact⟨h,rfl,hf⟩
    ·intro e
     have e1:=e.2.1
     injection e1 with e1
     have e2:=e.2.2
     rw[←e1,hf]at e2
     injection e2 with e2
     show some (d,i)=some q
     rw[e1,e2]
 ·rw[if_neg h]
  exact⟨fun e=>(by cases e),fun e=>absurd e.1 h⟩
theorem ZIx {R:Type} {f:Int→Option (Int⊕R)} (n:Nat) (p:Nat→Bool) (hit:Nat→R) (miss:R)
  (h:∀i:Nat,i<n→f i=some (bif p i then .inr (hit i)else .inl ((i:Int)+1))) (hn:f n=some (.inr miss)):loop f 0=some (match (List.range n).find? p with|some i=>hit i|none=>miss):=by
 have key:∀k i:Nat,i+k=n→loop f (i:Int)=some (match (List.range' i k).find? p with|some i=>hit i|none=>miss):=by
  intro k
  induction k with
  |zero=>
   intro i hi
   rw[ZcG,show i=n by omega,hn]
   rfl
  |succ k ih=>
   intro i hi
   rw[ZcG,h i (by omega),List.range'_succ,List.find?_cons]
   cases p i with
   |true=>rfl
   |false=>
    rw[cff]
    exact ih (i+1) (by omega)
 have:=key n 0 (by omega)
 rw[List.range_eq_range']
 exact this
theorem ZIo {r:Bool×Int×Zu×List Bool×Int} (h:ZsG (r.2.2.1,r.2.2.2.1)):loop (Zhu r) (0:Int)=some (match ZtL (r.2.2.1,r.2.2.2.1)with|some i=>(true,(i:Int),r.2.2.1,r.2.2.2.1,0)|none=>(true,-1,r.2.2.1,r.2.2.2.1,0)):=by
 have hf:=h.few
 have hg:=h.gone
 dsimp only at hf hg
 unfold ZtL
 refine ZIx r.2.2.1.length _ (fun i=>(true,(i:Int),r.2.2.1,r.2.2.2.1,0)) (true,-1,r.2.2.1,r.2.2.2.1,0) (fun i hi=>?_) ?_
 ·unfold Zhu
  rw[Zc (by omega),Zb ⟨by omega,by omega⟩,Zb ⟨by omega,by omega⟩,Xab]
  dsimp only
  cases hgi:r.2.2.2.1.getD i false with
  |true=>
   rw[cnt,Zf (by omega) (by omega)]
   rfl
  |false=>
   have hm:=(h.good _ (Zz (l:=r.2.2.1) (i:=i) (d:=([],0)) hi)).2
   have hfe:ZeV (r.2.2.1.getD i ([],0))=some (ZsN (r.2.2.1.getD i ([],0))):=ZDG hm
   rw[cnf,hfe,Ze]
   cases ZsN (r.2.2.1.getD i ([],0))with
   |true=>rfl
   |false=>rw[cff,Zf (by omega) (by omega)];rfl
 ·unfold Zhu
  rw[Zd (by omega)]
theorem ZJP {l:Zu} {S:List ZC} {d:DbT} (hs:ZhA l) (hp:ZeM l=true∧S.length≤1000) (h:Zhz (ZdG l) S=some d):ZsG d∧d.1.length≤400+S.length∧∀s∈S,Zmr s=true:=by
 obtain⟨hg,h4⟩:=ZxX hs hp.1
 have e:(ZdG l).1.length=l.length:=rfl
 obtain⟨a,b,c⟩:=ZJC S (ZdG l) d (ZFR hg h4) (by rw[e];omega) h
 exact⟨a,by rw[e]at b;omega,c⟩
theorem ZzG {l:Zu} {S:List ZC} (hs:ZhA l) (hS:Zsh S) :
  ∃r,ZnL l S=some r∧((∃q:DbT×Nat,Zlc l S=some q∧r=(true,(q.2:Int),q.1.1,q.1.2,0))∨(Zlc l S=none∧((r.1=true∧r.2.1 = -1)∨(r.1=false∧r.2.2.2.2 = -1)))):=by
 obtain⟨r,e,h⟩:=ZGE hs hS
 unfold ZnL
 rw[e,Ze]
 rcases h with⟨h1,h2,h3,h4⟩|⟨h1,h2,h3⟩
 ·rw[h1,ctt,h2,Zd (by decide),ZIo (ZJP hs h3 h4).1]
  cases hf:ZtL (r.2.2.1,r.2.2.2.1)with
  |some i=>exact⟨_,rfl,Or.inl ⟨((r.2.2.1,r.2.2.2.1),i),ZvR.2 ⟨h3,h4,hf⟩,rfl⟩⟩
  |none=>
   refine⟨_,rfl,Or.inr ⟨?_,Or.inl ⟨rfl,rfl⟩⟩⟩
   cases hq:Zlc l S with
   |none=>rfl
   |some q=>
    obtain⟨_,b,c⟩:=ZvR.1 hq
    rw[h4]at b
    injection b with b
    rw[←b,hf]at c
    cases c
 ·rw[h1,cff,Zc h2]
  refine⟨_,rfl,Or.inr ⟨?_,Or.inr ⟨rfl,rfl⟩⟩⟩
  cases hq:Zlc l S with
  |none=>rfl
  |some q=>
   obtain⟨a,b,c⟩:=ZvR.1 hq
   exact absurd ⟨a,_,b⟩ h3
theorem Ztr {l:Zu} {S:List ZC} (hs:ZhA l) (hS:Zsh S):ZgQ l S=some (Zlc l S).isSome:=by
 obtain⟨r,e,h⟩:=ZzG hs hS
 unfold ZgQ
 rw[e,Ze]
 rcases h with⟨q,hq,er⟩|⟨hq,⟨h1,h2⟩|⟨h1,h2⟩⟩
 ·rw[hq,er]
  show some (decide ((0:Int)≤(q.2:Int)))=_
  rw[Xae (by omega)]
  rfl
 ·rw[hq,h1,ctt,h2];rfl
 ·rw[hq,h1,cff,h2];rfl
end Go.AE.Y
namespace Go.AE.Y
open Go Go.AE
end Go.AE.Y
namespace Go.AE.Y
open Go Go.AE
end Go.AE.Y
namespace Go.AE.Y
open Go Go.AE
set_option maxHeartbeats 400000
end Go.AE.Y
namespace Go.AE.Y
open Go Go.AE
set_option maxHeartbeats 400000
end Go.AE.Y
namespace Go.AE.Y
open Go Go.AE
set_option maxHeartbeats 400000
theorem ZJD {L L':Zu} {S S':List ZC} (h:RupExt L S L' S') (hS:Zsh S):Zsh S':=by
 induction h with
 |refl=>exact hS
 |snoc _ h1 h2 h3 ih=>
  intro s hs
  rcases List.mem_append.1 hs with q|q
  ·exact ih s q
  ·rw[Xah.1 q]
   show _≤1048576
   unfold ZvU
   dsimp only
   omega
end Go.AE.Y
namespace Go.AE.Y
open Go Go.AE
set_option maxHeartbeats 400000
def ZMa (x:Zu) (S:List ZC):Prop:=Zsh S∧∃q,Zlc x S=some q
theorem ZL0 {f:Int}:∀(x:Zu) (r:Int×List Bool×List ZC),ZhA x→Zcz x f=some r→r.1=2→r.2.2.length≤1000→ZMa x r.2.2:=fun x r hs e h2 ht=>by
 obtain⟨_,L',hru,_⟩:=ZDe hs e h2
 exact⟨ZJD hru (fun s hs=>absurd hs XaB),ZDS hs e h2 ht⟩
theorem ZMi {S:List ZC} (h:ZgP S) (hl:S.length≤1000):ZHu S:=⟨by omega,fun s hs=>by have:=h s hs;show _≤1048576;omega⟩
theorem Zs9 {a:List Int} (h:∀x∈a,0≤x∧x≤255):∃f c m,Zgg a=some (f,c,m.1,m.2)∧c.length≤9∧okM m:=by
 unfold Zgg
 obtain⟨r,e1,h1⟩:=ZLZ h
 obtain⟨r2,m,e2,a2,m2⟩:=ZBf (h1.wk (by omega))
 have h2:RdOk r2 2000:=a2.ok h1 (by omega)
 have m2':m.1.length≤4∧m.2.length≤4∧∀r∈m.2,okR r:=m2
 obtain⟨r3,m',e3,a3,m3⟩:=Zz2 (m:=m) (h2.wk (by omega)) m2'
 have h3:RdOk r3 3000:=a3.ok h2 (by omega)
 obtain⟨r4,c,e4,a4,m4⟩:=ZCu (o1:=m'.1) m'.2 (h3.wk (by omega)) (by omega)
 have h4:RdOk r4 4000:=a4.ok h3 (by omega)
 obtain⟨f,r5,e5,_,_⟩:=Zgb (l:=[300,500,200,2,0,2001,-1]) (r:=r4) (h4.wk (by omega)) (by decide)
 rw[e1,Ze,e2,Ze]
 dsimp only
 rw[e3,Ze]
 dsimp only
 rw[e4,Ze]
 dsimp only
 rw[e5,Ze]
 exact⟨f,c,m',rfl,m4,ZMs m3⟩
theorem ZAO {a:List Int} (ha:∀x∈a,0≤x∧x≤255):Zod a=some true:=by
 unfold Zod
 by_cases h0:1048576<(a.length:Int)
 ·rw[Zc h0]
 rw[Zd h0]
 obtain⟨f,c,m,e1,hcl,hok⟩:=Zs9 ha
 have hs:Zfo m:=hok.small
 obtain⟨q,i1,i2,hq⟩:=ZIL (Q:=ZMa) f ZL0 hs (show c.length≤1048576 by omega)
 rw[e1,Ze]
 dsimp only
 have i1:Zgy (m.1,m.2) c f=some q:=i1
 have i2:ZgE (m.1,m.2) c f=some q:=i2
 rw[i1,Ze,i2,Ze,bne_self_eq_false,cff,beq_self_eq_true]
 rcases hq with e|⟨⟨hm,hc,hl,_⟩,ho⟩
 ·rw[e]
  dsimp only
  rw[Zur _ ⟨Nat.zero_le _,fun s hs=>absurd hs XaB⟩,Ze,cnt,ctt,Ze]
  rfl
 ·rw[Zur _ (ZMi ho.few ho.top),Ze,cnt,ctt,Ze]
  by_cases q2:q.1=2
  case neg=>rw[Zei q2]
  obtain⟨hne,hno⟩:=ho.none q2
  obtain⟨hst,w,hw⟩:=ho.steps (by omega)
  have er:ZdE m c q.2.1=Zcs m:=by unfold ZdE;rw[if_pos hne]
  rw[er]at hw
  have hsm:ZhA (Zcs m):=by
   have:=(ZzX hm hc hl (Or.inl rfl:ZDY m [])).1
   unfold ZdE at this
   rw[if_pos rfl]at this
   exact this
  have j1:Zfy (m.1,m.2)=some (true,Zcs m):=by
   have e:Zzz m=(true,Zcs m):=by unfold Zzz;rw[hm,Xae (by omega),Bool.and_self,ctt]
   rw[←e]
   exact ZpC m hs
  have hz:ZAu m=0:=by
   unfold ZAu
   rw[hm,ctt]
   have:(Zm5 m (ZlX m)).countP (ZcH m)=0:=List.countP_eq_zero.2 (fun y hy hsy=>hno (ZsM m y y.length) ((ZG6 hm).2 ⟨y,ZLM hm ((Zyx hm).1 hy),hsy⟩))
   rw[this]
   rfl
  have j2:ZiF (m.1,m.2)=some 0:=by rw[←hz];exact Zxp m hs
  rw[ZdM q2,j1,Ze,ctt,hne]
  dsimp only
  rw[show ((([]:List Int).length:Int)==(0:Int))=true from rfl,ctt,j2,Ze,beq_self_eq_true,ctt,Ztr hsm hst,Ze,hw]
  rfl
end Go.AE.Y
