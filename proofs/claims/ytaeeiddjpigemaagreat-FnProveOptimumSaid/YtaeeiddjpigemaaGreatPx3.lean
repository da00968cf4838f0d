/-
  Plain laws of the models, in one text. No conditions.
-/
import Derived.Test.YtaeeiddjpigemaaGreatPx2
import Derived.Test.YtaeeiddjpigemaaGreatPx1
namespace Go.AE.Y
open Go Go.AE
set_option maxHeartbeats 400000
def Zqx (m:Zo) (i:Nat) (c:Int) (n:Nat):List (Int×Int):=(List.range n).map (fun (k:Nat)=>(c*(k:Int),ZbR m i k))
def Zhh (m:Zo) (r:ZH):Nat→List (Int×Int)
 |0=>[]
 |n+1=>Zhh m r n++Zqx m (r.2.1.getD n 0).toNat (r.2.2.1.getD n 0) (Zej m (r.2.1.getD n 0).toNat)
def Zk0 (m:Zo) (r:ZH):Int×List Int:=Zc7 (Zhh m r r.2.1.length) r.2.2.2.1
def Zsf (m:Zo) (r:ZH):Zbx:=ofR (Zc2 (Zk0 m r).2 (Zk0 m r).1)
structure Zdw (m:Zo) (r:ZH):Prop where
 vars:∀i,i<r.2.1.length→0≤r.2.1.getD i 0∧(r.2.1.getD i 0).toNat<m.1.length
 nodup:r.2.1.Nodup
 pos:1≤r.2.1.length
 lin:r.1=1→r.2.2.1.length=r.2.1.length∧(∀i,-9≤r.2.2.1.getD i 0∧r.2.2.1.getD i 0≤9) ∧ -1000≤r.2.2.2.1∧r.2.2.2.1≤1000
 two:r.1=4→r.2.1.length=2
 kind:r.1=1∨r.1=2∨r.1=3∨r.1=4
theorem ZHA {l:List Int} {n:Int} (h:ZpU l n=true):l.Nodup∧∀i,i<l.length→0≤l.getD i 0∧l.getD i 0≤n - 1:=by
 unfold ZpU at h
 rw[Xar]at h
 have h1:∀i,i<l.length→(0≤l.getD i 0∧l.getD i 0≤n - 1)∧∀x∈l.take i,l.getD i 0≠x:=fun i hi=>by
  have:=h i (Xax.2 hi)
  unfold Znk at this
  simp only[Xae,Xaf,XaX,XaN,beq_iff_eq]at this
  exact this
 refine⟨?_,fun i hi=>(h1 i hi).1⟩
 unfold List.Nodup
 rw[XaV]
 intro i j hi hj hij e
 have h2:=(h1 j hj).2 l[i] (Xan.2 ⟨i,by rw[XaB];omega,by rw[Xbc]⟩)
 rw[Xaa,Xac hj]at h2
 exact h2 e.symm
theorem ZqP {m:Zo} {r:ZH} (hm:Zy m=true) (hr:r∈m.2):Zdw m r:=by
 have hm':=hm
 unfold Zy at hm
 simp only[Xae,Xaf,Xar]at hm
 have h:=hm.2.2.2.2 r hr
 unfold ZfW at h
 simp only[Xae,Xaf]at h
 obtain⟨h1,h2,h3,h4⟩:=h
 obtain⟨n1,n2⟩:=ZHA h1
 have hk:r.1=1∧ZAG r=true∨r.1=2∨r.1=3∨(r.1=4∧r.2.1.length=2):=by
  unfold Zhg at h4
  by_cases k1:r.1=1
  ·rw[Zx k1]at h4
   exact Or.inl ⟨k1,h4⟩
  rw[Zu k1]at h4
  by_cases k3:r.1=3
  ·exact Or.inr (Or.inr (Or.inl k3))
  rw[Zu k3]at h4
  by_cases k4:r.1=4
  ·rw[Zx k4,Xaf]at h4
   exact Or.inr (Or.inr (Or.inr ⟨k4,h4⟩))
  rw[Zu k4,beq_iff_eq]at h4
  exact Or.inr (Or.inl h4)
 refine⟨fun i hi=>by have:=n2 i hi;omega,n1,h2,fun k1=>?_,fun k4=>?_,?_⟩
 ·rcases hk with⟨_,hl⟩|k|k|⟨k,_⟩
  ·unfold ZAG at hl
   simp only[Xae,Xaf,Xar]at hl
   refine⟨by omega,fun i=>?_,hl.2.1.1,hl.2.1.2⟩
   rcases Xag i r.2.2.1.length with q|q
   ·have:=hl.2.2 _ (ZA (l:=r.2.2.1) (i:=i) (d:=0) q)
    unfold ZqY at this
    simp only[Xae,Xaf]at this
    exact this.2
   ·rw[Xaa,Xaw q]
    decide
  ·omega
  ·omega
  ·omega
 ·rcases hk with⟨k,_⟩|k|k|⟨_,k⟩
  ·omega
  ·omega
  ·omega
  ·exact k
 ·rcases hk with⟨k,_⟩|k|k|⟨k,_⟩
  ·exact Or.inl k
  ·exact Or.inr (Or.inl k)
  ·exact Or.inr (Or.inr (Or.inl k))
  ·exact Or.inr (Or.inr (Or.inr k))
theorem Zh6 {m:Zo} {r:ZH} (hm:Zy m=true) (h:Zdw m r):r.2.1.length≤5:=by
 have h5:m.1.length≤5:=by
  unfold Zy at hm
  simp only[Xae,Xaf]at hm
  exact hm.1.2
 have hs:=ZG0 (f:=fun _=>1) (n:=m.1.length) (r.2.1.map Int.toNat) (ZrR (fun a ha b hb e=>by
  obtain⟨i,hi,ei⟩:=Xan.1 ha
  obtain⟨j,hj,ej⟩:=Xan.1 hb
  have h1:=(h.vars i hi).1
  have h2:=(h.vars j hj).1
  rw[Xaa,Xac hi]at h1
  rw[Xaa,Xac hj]at h2
  have h1:0≤r.2.1[i]:=h1
  have h2:0≤r.2.1[j]:=h2
  omega) h.nodup) (fun x hx=>by
  obtain⟨c,hc,rfl⟩:=XaF.1 hx
  obtain⟨i,hi,rfl⟩:=Xan.1 hc
  have:=(h.vars i hi).2
  rwa [Xaa,Xac hi]at this)
 have h1:∀l:List Nat,(l.map (fun _=>(1:Int))).sum=l.length:=by
  intro l
  induction l with
  |nil=>rfl
  |cons a l ih=>rw[XaQ,XbN,ih,Xaq];omega
 have h2:∀n:Nat,ZfY (fun _=>1) n=n:=by
  intro n
  induction n with
  |zero=>rfl
  |succ n ih=>unfold ZfY;rw[ih];omega
 have h3:=ZAZ (g:=fun i=>if i∈r.2.1.map Int.toNat then 1 else 0) (h:=fun _=>1) m.1.length (fun i _=>by split<;>omega)
 rw[h1,Xak]at hs
 rw[h2]at h3
 omega
theorem ZtF {l x:List Int} {i:Nat} (h:i<l.length):(Zca l x).getD i 0=x.getD (l.getD i 0).toNat 0:=by
 unfold Zca
 rw[ZmR (d:=0) (h:=h)]
theorem ZH9 {m:Zo} {v:List Bool} {x:List Int} (hm:Zy m=true) (hd:Dec m v x) {i:Nat} (hi:i<m.1.length) (c:Int):∀n,n≤Zej m i→ZcF v (Zqx m i c n)=if x.getD i 0<n then c*x.getD i 0 else 0
 |0,_=>by
  obtain⟨x1,x2⟩:=Zcu hd.1
  have:=x2 i (by omega)
  rw[if_neg (by omega)]
  rfl
 |n+1,hn=>by
  obtain⟨x1,x2⟩:=Zcu hd.1
  have hx:=x2 i (by omega)
  have hk:(n:Int)≤m.1.getD i 0:=(ZfC hm hi).1 (by omega)
  have ih:=ZH9 hm hd hi c n (by omega)
  have e:Zqx m i c (n+1)=Zqx m i c n++[(c*(n:Int),ZbR m i n)]:=by
   unfold Zqx
   rw[XbA,Xa1]
   rfl
  rw[e,ZqU,ih,ZwQ]
  dsimp only
  rw[ZmY hm hi hk,hd.2 i hi n hk]
  by_cases q:x.getD i 0=n
  ·rw[Xad q,ctt,if_neg (by omega),if_pos (by omega),q]
   omega
  ·rw[decide_eq_false q,cff]
   by_cases q2:x.getD i 0<n
   ·rw[if_pos q2,if_pos (by omega)];omega
   ·rw[if_neg q2,if_neg (by omega)];omega
theorem ZIn {m:Zo} {r:ZH} {v:List Bool} {x:List Int} (hm:Zy m=true) (ho:Zdw m r) (hd:Dec m v x):∀n,n≤r.2.1.length→ZcF v (Zhh m r n)=Z1 r.2.2.1 (Zca r.2.1 x) n
 |0,_=>rfl
 |n+1,hn=>by
  obtain⟨x1,x2⟩:=Zcu hd.1
  obtain⟨v0,vi⟩:=ho.vars n (by omega)
  have hx:=x2 (r.2.1.getD n 0).toNat (by omega)
  have hs:=(ZfC hm vi (k:=(x.getD (r.2.1.getD n 0).toNat 0).toNat)).2 (by omega)
  unfold Zhh
  rw[ZqU,ZIn hm ho hd n (by omega),ZH9 hm hd vi _ _ (Nat.le_refl _),if_pos (by omega),Zjh,ZtF (by omega)]
theorem Zm5 {m:Zo} (hm:Zy m=true) {i:Nat} (hi:i<m.1.length):1≤Zej m i∧Zej m i≤4:=by
 have:=ZeY hm hi
 unfold Zej
 omega
theorem ZBR {a k:Int} (ha : -9≤a∧a≤9) (hk:0≤k∧k≤3) : -27≤a*k∧a*k≤27:=by
 have:k=0∨k=1∨k=2∨k=3:=by omega
 rcases this with rfl|rfl|rfl|rfl<;>omega
theorem Ztz {m:Zo} {r:ZH} (hm:Zy m=true) (ho:Zdw m r) (k1:r.1=1):∀n,n≤r.2.1.length→(Zhh m r n).length≤4*n∧∀t∈Zhh m r n,okS t ∧ -27≤t.1∧t.1≤27
 |0,_=>⟨Nat.le_refl _,fun t ht=>absurd ht Xay⟩
 |n+1,hn=>by
  obtain⟨i1,i2⟩:=Ztz hm ho k1 n (by omega)
  obtain⟨v0,vi⟩:=ho.vars n (by omega)
  have hs:=Zm5 hm vi
  obtain⟨_,hc,_⟩:=ho.lin k1
  unfold Zhh
  refine⟨?_,fun t ht=>?_⟩
  ·unfold Zqx
   rw[Xal,Xak,XaI]
   omega
  ·rcases List.mem_append.1 ht with h|h
   ·exact i2 t h
   ·obtain⟨k,hk,rfl⟩:=XaF.1 h
    have hk:=Xax.1 hk
    have hkv:=(ZfC hm vi).1 hk
    have hb:=ZBR (hc n) (k:=(k:Int)) ⟨by omega,by omega⟩
    exact⟨⟨by (try dsimp only)<;>omega,(ZIG hm vi hkv).1⟩,hb⟩
theorem ZsN {ts:List (Int×Int)} {b:Int} (h:∀t∈ts,okS t ∧ -27≤t.1∧t.1≤27):∀n:Nat,n≤ts.length→(Zc7 (ts.take n) b).2.length=13∧(b - 27*n≤(Zc7 (ts.take n) b).1∧(Zc7 (ts.take n) b).1≤b+27*n)∧∀j,-27*(n:Int)≤(Zc7 (ts.take n) b).2.getD j 0∧(Zc7 (ts.take n) b).2.getD j 0≤27*(n:Int)
 |0,_=>by
  rw[XaR]
  refine⟨rfl,⟨by show b - _≤b;omega,by show b≤b+_;omega⟩,fun j=>?_⟩
  show _≤(List.replicate 13 (0:Int)).getD j 0∧(List.replicate 13 (0:Int)).getD j 0≤_
  rw[ZFe]
  omega
 |n+1,hn=>by
  obtain⟨i1,i3,i4⟩:=ZsN h n (by omega)
  obtain⟨⟨_,o2⟩,o3⟩:=h _ (ZA (l:=ts) (i:=n) (d:=(0,0)) (by omega))
  have hl:=Zz.1 o2
  rw[ZrQ (by omega)]
  generalize Zc7 (ts.take n) b=s at i1 i3 i4
  generalize ts.getD n (0,0)=t at o3 hl
  unfold ZnO
  by_cases q:t.2<0
  ·rw[if_pos q]
   dsimp only
   refine⟨by rw[Xam];exact i1,⟨by omega,by omega⟩,fun j=>?_⟩
   have hj:=i4 j
   have hv:=i4 (0 - t.2).toNat
   rw[Zjp]
   split<;>omega
  ·rw[if_neg q]
   dsimp only
   refine⟨by rw[Xam];exact i1,⟨by omega,by omega⟩,fun j=>?_⟩
   have hj:=i4 j
   have hv:=i4 t.2.toNat
   rw[Zjp]
   split<;>omega
theorem ZAQ {net:List Int}:∀n,n≤12→(∀j,-1000≤net.getD j 0∧net.getD j 0≤1000)→(∀t∈ZcW net n,(ZZ t.2=true∧1≤t.1∧t.1≤1000)∧vof t.2≤n)∧(ZcW net n).Pairwise (fun x y=>vof x.2<vof y.2)
 |0,_,_=>⟨fun t ht=>absurd ht Xay,List.Pairwise.nil⟩
 |n+1,hn,hb=>by
  obtain⟨i1,i2⟩:=ZAQ n (by omega) hb
  have hbn:=hb (n+1)
  unfold ZcW
  have one:∀t∈(if 0<net.getD (n+1) 0 then[(net.getD (n+1) 0,((n+1:Nat):Int))]else if net.getD (n+1) 0<0 then[(0 - net.getD (n+1) 0,0 - ((n+1:Nat):Int))]else[]),(ZZ t.2=true∧1≤t.1∧t.1≤1000)∧vof t.2=((n+1:Nat):Int):=fun t ht=>by
   split at ht
   ·rw[Xah]at ht
    subst ht
    exact⟨⟨Zz.2 ⟨by (try dsimp only)<;>omega,by (try dsimp only)<;>omega,by (try dsimp only)<;>omega⟩,by (try dsimp only)<;>omega,by (try dsimp only)<;>omega⟩,by unfold vof;(try dsimp only)<;>omega⟩
   ·split at ht
    ·rw[Xah]at ht
     subst ht
     exact⟨⟨Zz.2 ⟨by (try dsimp only)<;>omega,by (try dsimp only)<;>omega,by (try dsimp only)<;>omega⟩,by (try dsimp only)<;>omega,by (try dsimp only)<;>omega⟩,by unfold vof;(try dsimp only)<;>omega⟩
    ·exact absurd ht Xay
  refine⟨fun t ht=>?_,List.pairwise_append.2 ⟨i2,?_,fun x hx y hy=>?_⟩⟩
  ·rcases List.mem_append.1 ht with h|h
   ·have:=i1 t h
    exact⟨this.1,by omega⟩
   ·have:=one t h
    exact⟨this.1,by omega⟩
  ·split
   ·exact Xbg _ _
   ·split
    ·exact Xbg _ _
    ·exact List.Pairwise.nil
  ·have:=(i1 x hx).2
   have:=(one y hy).2
   omega
theorem ZGh {m:Zo} {r:ZH} (hm:Zy m=true) (ho:Zdw m r) (k1:r.1=1):(Zc2 (Zk0 m r).2 (Zk0 m r).1).1=true:=by
 have h5:=Zh6 hm ho
 obtain⟨l1,l2⟩:=Ztz hm ho k1 r.2.1.length (Nat.le_refl _)
 obtain⟨_,_,b1,b2⟩:=ho.lin k1
 obtain⟨n1,n2,n3⟩:=ZsN (b:=r.2.2.2.1) l2 (Zhh m r r.2.1.length).length (Nat.le_refl _)
 rw[XaC]at n1 n2 n3
 have hb:∀j,-1000≤(Zk0 m r).2.getD j 0∧(Zk0 m r).2.getD j 0≤1000:=fun j=>by
  have:=n3 j
  unfold Zk0
  omega
 have hb2 : -2000≤(Zk0 m r).1∧(Zk0 m r).1≤2000:=by
  unfold Zk0
  omega
 obtain⟨p1,p2⟩:=ZAQ (net:=(Zk0 m r).2) 12 (Nat.le_refl _) hb
 have hneg:=Zq1 (net:=(Zk0 m r).2) (b:=(Zk0 m r).1) (K:=1000) (by omega) (fun j=>by have:=hb j;omega) 12
 have hc:ZG (ZcW (Zk0 m r).2 12,max 0 (Zbt (Zk0 m r).2 (Zk0 m r).1 12))=true:=ZkL.2 ⟨fun t ht=>(p1 t ht).1,p2,by (try dsimp only)<;>omega,by (try dsimp only)<;>omega⟩
 unfold Zc2
 rw[hc,ctt]
theorem ZM9 {m:Zo} {r:ZH} {v:List Bool} {x:List Int} (hm:Zy m=true) (ho:Zdw m r) (hd:Dec m v x) (k1:r.1=1):ZY v (Zsf m r)=holdsB r (Zca r.2.1 x):=by
 obtain⟨_,l2⟩:=Ztz hm ho k1 r.2.1.length (Nat.le_refl _)
 have hlen:(Zca r.2.1 x).length=r.2.1.length:=Xak ..
 have e:=ZIn hm ho hd r.2.1.length (Nat.le_refl _)
 have hn:=ZEa (b:=r.2.2.2.1) (v:=v) (fun t ht=>(l2 t ht).1)
 unfold Zsf
 rw[(ZwE (ZGh hm ho k1)).1]
 unfold Zk0
 rw[hn,e]
 unfold holdsB
 rw[Zx k1,hlen]
def ZeA (m:Zo) (r:ZH) (k:Nat):List Int:=(r.2.1.filter (fun c=>decide ((k:Int)≤m.1.getD c.toNat 0))).map (fun c=>ZbR m c.toNat k)
def Znu (l:List Int):List Int:=l.mergeSort (fun a b=>decide (a≤b))
def ZsD (m:Zo) (r:ZH):Zv:=(List.range 4).flatMap (fun k=>if 1<(ZeA m r k).length then[ZjK (Znu (ZeA m r k))]else[])
theorem ZlH {m:Zo} {r:ZH} (ho:Zdw m r) {c:Int} (hc:c∈r.2.1):0≤c∧c.toNat<m.1.length:=by
 obtain⟨i,hi,rfl⟩:=Xan.1 hc
 have:=ho.vars i hi
 rwa [Xaa,Xac hi]at this
theorem ZoS {m:Zo} {r:ZH} (hm:Zy m=true) (ho:Zdw m r) {k:Nat}:(ZeA m r k).Nodup∧∀y∈ZeA m r k,∃c,c∈r.2.1∧(k:Int)≤m.1.getD c.toNat 0∧y=ZbR m c.toNat k:=by
 refine⟨ZrR (fun a ha b hb e=>?_) (ho.nodup.filter _),fun y hy=>?_⟩
 ·obtain⟨a1,a2⟩:=XaM.1 ha
  obtain⟨b1,b2⟩:=XaM.1 hb
  obtain⟨a3,a4⟩:=ZlH ho a1
  obtain⟨b3,b4⟩:=ZlH ho b1
  have:=(ZvE hm a4 (of_decide_eq_true a2) b4 (of_decide_eq_true b2) e).1
  omega
 ·obtain⟨c,hc,rfl⟩:=XaF.1 hy
  obtain⟨c1,c2⟩:=XaM.1 hc
  exact⟨c,c1,of_decide_eq_true c2,rfl⟩
theorem ZMd {v:List Int}:Zuo v=true↔v.Nodup:=by
 unfold Zuo ZlC List.Nodup
 rw[Xar,XaV]
 constructor
 ·intro h i j hi hj hij e
  have:=h j (Xax.2 hj)
  rw[XaX,XaN]at this
  refine this v[i] (Xan.2 ⟨i,by rw[XaB];omega,by rw[Xbc]⟩) ?_
  rw[Xaa,Xac hj]
  exact beq_iff_eq.2 e.symm
 ·intro h j hj
  have hj:=Xax.1 hj
  rw[XaX,XaN]
  intro y hy e
  obtain⟨i,hi,rfl⟩:=Xan.1 hy
  rw[XaB]at hi
  have e:=beq_iff_eq.1 e
  rw[Xaa,Xac hj,Xbc]at e
  exact h i j (by omega) hj (by omega) e.symm
theorem ZL8 {m:Zo} {r:ZH} {v:List Bool} {x:List Int} (hm:Zy m=true) (ho:Zdw m r) (hd:Dec m v x) (k2:r.1=2):(∀c∈ZsD m r,ZY v c=true)↔holdsB r (Zca r.2.1 x)=true:=by
 obtain⟨x1,x2⟩:=Zcu hd.1
 have hcell:∀c∈r.2.1,0≤x.getD c.toNat 0∧x.getD c.toNat 0≤m.1.getD c.toNat 0:=fun c hc=>by
  obtain⟨c0,c1⟩:=ZlH ho hc
  exact x2 c.toNat (by omega)
 have hh:holdsB r (Zca r.2.1 x)=Zuo (Zca r.2.1 x):=by
  unfold holdsB
  rw[Zu (by omega),Zx k2]
 have hev:∀k,ZY v (ZjK (Znu (ZeA m r k)))=decide ((ZeA m r k).countP (ZS v)≤1):=fun k=>by
  have hp:(Znu (ZeA m r k)).Perm (ZeA m r k):=List.mergeSort_perm _ _
  rw[ZBP,hp.countP_eq]
  intro y hy
  obtain⟨c,c1,c2,rfl⟩:=(ZoS hm ho).2 y (hp.mem_iff.1 hy)
  obtain⟨c3,c4⟩:=ZlH ho c1
  have:=Zdn hm c4 c2
  omega
 have hall:(∀c∈ZsD m r,ZY v c=true)↔∀k,k<4→(ZeA m r k).countP (ZS v)≤1:=by
  unfold ZsD
  constructor
  ·intro h k hk
   by_cases q:1<(ZeA m r k).length
   ·have:=h _ (XaL.2 ⟨k,Xax.2 hk,by rw[if_pos q];exact Xas⟩)
    rw[hev,Xaf]at this
    exact this
   ·have:=List.countP_le_length (p:=ZS v) (l:=ZeA m r k)
    omega
  ·intro h c hc
   obtain⟨k,hk,hc⟩:=XaL.1 hc
   split at hc
   ·rw[Xah]at hc
    subst hc
    rw[hev,Xaf]
    exact h k (Xax.1 hk)
   ·exact absurd hc Xay
 rw[hall,hh,ZMd]
 have hlit:∀c∈r.2.1,∀k:Nat,(k:Int)≤m.1.getD c.toNat 0→ZS v (ZbR m c.toNat k)=decide (x.getD c.toNat 0=k):=fun c hc k hk=>by
  obtain⟨c0,c1⟩:=ZlH ho hc
  rw[ZmY hm c1 hk,hd.2 c.toNat c1 k hk]
 constructor
 ·intro h
  unfold Zca
  refine ZrR (fun a ha b hb e=>?_) ho.nodup
  have ha1:=hcell a ha
  have hb1:=hcell b hb
  obtain⟨a0,a1⟩:=ZlH ho ha
  obtain⟨b0,b1⟩:=ZlH ho hb
  have hs:=ZeY hm a1
  have hk:=(Zoy (ZoS hm ho).1).1 (h (x.getD a.toNat 0).toNat (by omega)) (ZbR m a.toNat (x.getD a.toNat 0).toNat) (XaF.2 ⟨a,XaM.2 ⟨ha,Xad (by omega)⟩,rfl⟩) (ZbR m b.toNat (x.getD a.toNat 0).toNat) (XaF.2 ⟨b,XaM.2 ⟨hb,Xad (by omega)⟩,rfl⟩)
   (by rw[hlit a ha _ (by omega),Xaf];omega) (by rw[hlit b hb _ (by omega),Xaf];omega)
  have:=(ZvE hm a1 (by omega) b1 (by omega) hk).1
  omega
 ·intro h k _
  rw[Zoy (ZoS hm ho).1]
  intro y hy z hz py pz
  obtain⟨a,ha,ka,rfl⟩:=(ZoS hm ho).2 y hy
  obtain⟨b,hb,kb,rfl⟩:=(ZoS hm ho).2 z hz
  rw[hlit a ha k ka,Xaf]at py
  rw[hlit b hb k kb,Xaf]at pz
  have hab:a=b:=by
   unfold Zca List.Nodup at h
   rw[List.pairwise_map]at h
   by_cases e:a=b
   ·exact e
   ·exfalso
    obtain⟨i,hi,ei⟩:=Xan.1 ha
    obtain⟨j,hj,ej⟩:=Xan.1 hb
    rw[XaV]at h
    rcases Nat.lt_trichotomy i j with q|q|q
    ·have:=h i j hi hj q
     rw[ei,ej,py,pz]at this
     exact this rfl
    ·subst q
     rw[ei]at ej
     exact e ej
    ·have:=h j i hj hi q
     rw[ei,ej,py,pz]at this
     exact this rfl
  rw[hab]
end Go.AE.Y
namespace Go.AE.Y
open Go Go.AE
set_option maxHeartbeats 400000
theorem ZNh (l:List Int):∀a:Int,l.foldl (fun a n=>a+(n+1)) a=a+(l.map (fun n=>n+1)).sum:=by
 induction l with
 |nil=>intro a;exact(Int.add_zero a).symm
 |cons x l ih=>
  intro a
  rw[Xa9,ih,XaQ,XbN]
  omega
theorem ZFz {m:Zo}:∀n,n≤m.1.length→ZO m n=ZfY (fun i=>m.1.getD i 0+1) n
 |0,_=>rfl
 |n+1,h=>by
  rw[ZfR (by omega),ZFz n (by omega)]
  rfl
def smM (m:Zo) (r:ZH):Zo:=(r.2.1.map (fun c=>m.1.getD c.toNat 0),[])
theorem ZB7 {m:Zo} {r:ZH} (hm:Zy m=true) (ho:Zdw m r):Zy (smM m r)=true:=by
 have h5:=Zh6 hm ho
 have hs:Znb (smM m r).1≤12:=by
  have h12:=(ZgA hm m.1.length (Nat.le_refl _)).2
  rw[ZFz _ (Nat.le_refl _)]at h12
  have e:Znb (smM m r).1=((r.2.1.map Int.toNat).map (fun i=>m.1.getD i 0+1)).sum:=by
   unfold Znb smM
   rw[ZNh,Int.zero_add,XbH,XbH]
   rfl
  rw[e,ZG0 (n:=m.1.length) _ (ZrR (fun a ha b hb h=>by
   have:=(ZlH ho ha).1
   have:=(ZlH ho hb).1
   omega) ho.nodup) (fun x hx=>by
   obtain⟨c,hc,rfl⟩:=XaF.1 hx
   exact(ZlH ho hc).2)]
  refine Int.le_trans (ZAZ _ (fun i hi=>?_)) h12
  have:=ZeY hm hi
  split<;>omega
 unfold Zy
 simp only[Xae,Xaf,Xar]
 refine⟨⟨?_,?_⟩,?_,?_,hs,fun r hr=>absurd hr Xay⟩
 ·show 1≤(r.2.1.map _).length
  rw[Xak];exact ho.pos
 ·show (r.2.1.map _).length≤5
  rw[Xak];exact h5
 ·show ([]:List ZH).length≤8
  exact Nat.zero_le _
 ·intro x hx
  obtain⟨c,hc,rfl⟩:=XaF.1 hx
  have:=ZeY hm (ZlH ho hc).2
  unfold ZdY
  rw[Xae,Xaf,Xaf]
  omega
def Zmh (m:Zo) (r:ZH) (vals:List Int):List Int:=(List.range r.2.1.length).map (fun i=>0 - ZbR m (r.2.1.getD i 0).toNat (vals.getD i 0).toNat)
def ZpT (m:Zo) (r:ZH):Zv:=((ZpF (smM m r) (Zmv (smM m r))).filter (fun vals=>!holdsB r vals)).map (fun vals=>ZjH (Zmh m r vals))
theorem ZKV {m:Zo} {r:ZH} {i:Nat} (h:i<r.2.1.length):(smM m r).1.getD i 0=m.1.getD (r.2.1.getD i 0).toNat 0:=by
 unfold smM
 rw[ZmR (d:=0) (h:=h)]
theorem ZJO {m:Zo} {r:ZH} {x:List Int} (ho:Zdw m r) (hx:ZJ m x=true):ZJ (smM m r) (Zca r.2.1 x)=true:=by
 obtain⟨x1,x2⟩:=Zcu hx
 have hlen:(Zca r.2.1 x).length=r.2.1.length:=Xak ..
 have hlen2:(smM m r).1.length=r.2.1.length:=Xak ..
 unfold ZJ cellAt
 simp only[Xae,Xaf,Xar,Xax]
 refine⟨by omega,fun i hi=>?_⟩
 have hi':i<r.2.1.length:=by omega
 have:=(ho.vars i hi').2
 rw[ZtF hi',ZKV hi']
 exact x2 _ (by omega)
theorem Zwt {m:Zo} {r:ZH} {vals:List Int} (hm:Zy m=true) (ho:Zdw m r) (hv:ZJ (smM m r) vals=true):ZcV (Zmh m r vals)=true∧∀i,i<r.2.1.length→0≤vals.getD i 0∧vals.getD i 0≤m.1.getD (r.2.1.getD i 0).toNat 0:=by
 obtain⟨v1,v2⟩:=Zcu hv
 have hlen2:(smM m r).1.length=r.2.1.length:=Xak ..
 have hr:∀i,i<r.2.1.length→0≤vals.getD i 0∧vals.getD i 0≤m.1.getD (r.2.1.getD i 0).toNat 0:=fun i hi=>by
  have:=v2 i (by omega)
  rwa [ZKV hi]at this
 have hneg:∀y∈Zmh m r vals,-12≤y∧y ≤ -1:=fun y hy=>by
  obtain⟨i,hi,rfl⟩:=XaF.1 hy
  have hi:=Xax.1 hi
  have:=hr i hi
  have:=Zdn hm (ho.vars i hi).2 (k:=(vals.getD i 0).toNat) (by omega)
  omega
 refine⟨?_,hr⟩
 unfold ZcV
 rw[Xae,Xar,Xar]
 refine⟨fun y hy=>Zz.2 (by have:=hneg y hy;omega),fun y hy=>?_⟩
 rw[XaX,XaN]
 intro z hz e
 have:=hneg y hy
 have:=hneg z hz
 have:=beq_iff_eq.1 e
 omega
theorem ZD6 {m:Zo} {r:ZH} {v:List Bool} {x vals:List Int} (hm:Zy m=true) (ho:Zdw m r) (hd:Dec m v x) (hv:ZJ (smM m r) vals=true):ZY v (ZjH (Zmh m r vals))=true↔vals≠Zca r.2.1 x:=by
 obtain⟨l1,l2⟩:=Zwt hm ho hv
 have hlen:(Zca r.2.1 x).length=r.2.1.length:=Xak ..
 have hlen2:(smM m r).1.length=r.2.1.length:=Xak ..
 have hvl:=(Zcu hv).1
 have hlit:∀i,i<r.2.1.length→ZS v (0 - ZbR m (r.2.1.getD i 0).toNat (vals.getD i 0).toNat) = !decide (x.getD (r.2.1.getD i 0).toNat 0=vals.getD i 0):=fun i hi=>by
  have h1:=l2 i hi
  have h2:=(ho.vars i hi).2
  rw[ZKC hm h2 (by omega),hd.2 _ h2 _ (by omega),show (((vals.getD i 0).toNat:Nat):Int)=vals.getD i 0 by omega]
 rw[ZBo l1,Xbo]
 constructor
 ·rintro⟨y,hy,py⟩ e
  obtain⟨i,hi,rfl⟩:=XaF.1 hy
  have hi:=Xax.1 hi
  rw[hlit i hi,XaX,decide_eq_false_iff_not,e,ZtF hi]at py
  exact py rfl
 ·intro hne
  by_cases q:∃i,i<r.2.1.length∧x.getD (r.2.1.getD i 0).toNat 0≠vals.getD i 0
  ·obtain⟨i,hi,h⟩:=q
   exact⟨_,XaF.2 ⟨i,Xax.2 hi,rfl⟩,by rw[hlit i hi,decide_eq_false h];rfl⟩
  ·exfalso
   refine hne (Zul (by omega) (fun i hi=>?_))
   have hi':i<r.2.1.length:=by omega
   rw[ZtF hi']
   by_cases e:x.getD (r.2.1.getD i 0).toNat 0=vals.getD i 0
   ·exact e.symm
   ·exact absurd ⟨i,hi',e⟩ q
theorem ZMc {m:Zo} {r:ZH} {v:List Bool} {x:List Int} (hm:Zy m=true) (ho:Zdw m r) (hd:Dec m v x):(∀c∈ZpT m r,ZY v c=true)↔holdsB r (Zca r.2.1 x)=true:=by
 have hsm:=ZB7 hm ho
 unfold ZpT
 constructor
 ·intro h
  cases hq:holdsB r (Zca r.2.1 x)with
  |true=>rfl
  |false=>
   exfalso
   have hp:=ZJO ho hd.1
   have:=h _ (XaF.2 ⟨Zca r.2.1 x,XaM.2 ⟨(Zvo hsm).2 hp,by rw[hq];rfl⟩,rfl⟩)
   exact(ZD6 hm ho hd hp).1 this rfl
 ·intro h c hc
  obtain⟨vals,hv,rfl⟩:=XaF.1 hc
  obtain⟨v1,v2⟩:=XaM.1 hv
  refine(ZD6 hm ho hd ((Zvo hsm).1 v1)).2 (fun e=>?_)
  rw[e,h]at v2
  cases v2
def ZoC (m:Zo) (r:ZH):Zv:=if r.1=1 then[Zsf m r]else if r.1=2 then ZsD m r else ZpT m r
def Zcd (m:Zo):Zv:=(List.range m.1.length).flatMap (Znh m)++m.2.flatMap (ZoC m)
def ZCU (m:Zo):Bool×Zv:=bif Zy m&&decide ((Zcd m).length≤400)then(true,Zcd m)else(false,[])
theorem ZGF {m:Zo} {r:ZH} {v:List Bool} {x:List Int} (hm:Zy m=true) (hr:r∈m.2) (hd:Dec m v x):(∀c∈ZoC m r,ZY v c=true)↔holdsB r (Zca r.2.1 x)=true:=by
 have ho:=ZqP hm hr
 unfold ZoC
 by_cases k1:r.1=1
 ·rw[if_pos k1,←ZM9 hm ho hd k1]
  exact⟨fun h=>h _ Xas,fun h c hc=>by rw[Xah]at hc;rw[hc];exact h⟩
 rw[if_neg k1]
 by_cases k2:r.1=2
 ·rw[if_pos k2]
  exact ZL8 hm ho hd k2
 rw[if_neg k2]
 exact ZMc hm ho hd
theorem ZIb {m:Zo} {v:List Bool} (hm:Zy m=true):Zei (Zcd m) v↔∃x,Dec m v x∧Zd5 m x=true:=by
 unfold Zei Zcd
 constructor
 ·intro h
  obtain⟨x,hd⟩:=ZKe hm (fun i hi c hc=>h c (Xa4 _ (XaL.2 ⟨i,Xax.2 hi,hc⟩)))
  refine⟨x,hd,?_⟩
  unfold Zd5
  rw[Xar]
  intro r hr
  exact(ZGF hm hr hd).1 (fun c hc=>h c (Xa2 _ (XaL.2 ⟨r,hr,hc⟩)))
 ·rintro⟨x,hd,hs⟩ c hc
  unfold Zd5 at hs
  rw[Xar]at hs
  rcases List.mem_append.1 hc with h|h
  ·obtain⟨i,hi,hc⟩:=XaL.1 h
   exact ZKj hm hd i (Xax.1 hi) c hc
  ·obtain⟨r,hr,hc⟩:=XaL.1 h
   exact(ZGF hm hr hd).2 (hs r hr) c hc
end Go.AE.Y
namespace Go.AE.Y
open Go Go.AE
set_option maxHeartbeats 400000
theorem ZtG {n i:Nat} (h:i<n):(List.range n).getD i 0=i:=by
 rw[Xaa,Xac (by rw[XaI];exact h),List.getElem_range]
 rfl
theorem ZBW (vs:List Int):vs.map (fun x=>((1:Int),0 - x))=Z4 (Zbe vs):=by
 unfold Z4 Zbe
 rw[XbH]
 rfl
theorem Zsr {vs:List Int} (hl:vs.length≤1000) (hv:∀x∈vs,-1000≤x∧x≤1000):Zj7 vs=some ((ZjK vs).2,(ZjK vs).1):=by
 unfold Zj7
 rw[Zf (by omega) (by omega)]
 show _=some ((vs.length:Int) - 1,Z4 (Zbe vs))
 rw[←ZBW]
 refine ZbZ (f:=ZgQ vs) vs 0 (fun x=>((1:Int),0 - x)) [] (fun o=>((vs.length:Int) - 1,o)) (fun i out hi ho=>?_) ?_
 ·have:=hv _ (ZA (l:=vs) (i:=i) (d:=0) hi)
  have ho:out.length=i:=by rw[ho];simp
  unfold ZgQ
  dsimp only
  rw[Zc (by omega),Zb ⟨by omega,by omega⟩,Xab,Zf (by omega) (by omega),Zb (by simp only[Zl,Xaq,Xap];omega),Zf (by omega) (by omega)]
 ·unfold ZgQ
  dsimp only
  rw[Zd (by omega)]
theorem ZvD {vs:List Int} (hl:vs.length≤1000) (hv:∀x∈vs,-1000≤x∧x≤1000):Zoq vs=some ((ZjK vs).2,(ZjK vs).1):=by
 unfold Zoq
 rw[Zf (by omega) (by omega)]
 show _=some ((vs.length:Int) - 1,Z4 (Zbe vs))
 rw[←ZBW]
 refine ZbZ (f:=Zkp vs) vs 0 (fun x=>((1:Int),0 - x)) [] (fun o=>((vs.length:Int) - 1,o)) (fun i out hi ho=>?_) ?_
 ·have:=hv _ (ZA (l:=vs) (i:=i) (d:=0) hi)
  have ho:out.length=i:=by rw[ho];simp
  unfold Zkp
  dsimp only
  rw[Zc (by omega),Zb ⟨by omega,by omega⟩,Xab,Zf (by omega) (by omega),Zb (by simp only[Zl,Xaq,Xap];omega),Zf (by omega) (by omega)]
 ·unfold Zkp
  dsimp only
  rw[Zd (by omega)]
theorem ZK9 (m:Zo) (i:Nat):(ZdG m i).length=Zej m i:=by
 unfold ZdG
 rw[Xak,XaI]
theorem ZA4 {m:Zo} (hm:Zy m=true) {i:Nat} (hi:i<m.1.length):∀x∈ZdG m i,1≤x∧x≤12:=fun x hx=>by
 obtain⟨k,hk,rfl⟩:=XaF.1 hx
 have:=Zdn hm hi ((ZfC hm hi).1 (Xax.1 hk))
 omega
theorem ZsY {m:Zo} (hm:Zy m=true) {i:Nat} (hi:i<m.1.length):(Zej m i:Int)=m.1.getD i 0+1:=by
 have:=(Zm5 hm hi).1
 unfold Zej at this ⊢
 omega
theorem Zve {m:Zo} (hm:Zy m=true) {i:Nat} (hi:i<m.1.length):ZgN m i=some (ZdG m i):=by
 have hz:=ZsY hm hi
 have h4:=Zm5 hm hi
 unfold ZgN
 rw[Zb ⟨by omega,by omega⟩,Xab,Zf (by omega) (by omega)]
 refine ZbZ (f:=Zfe m i) (List.range (Zej m i)) 0 (ZbR m i) [] (fun o=>o) (fun k out hk ho=>?_) ?_
 ·rw[XaI]at hk
  have ho:out.length=k:=by rw[ho];simp
  unfold Zfe
  dsimp only
  rw[Xab,Zc (by omega),Zi5 hm hi (by omega),Ze,Zb (by simp only[Zl,Xaq,Xap];omega),Zf (by omega) (by omega),ZtG hk]
  rfl
 ·rw[XaI]
  unfold Zfe
  dsimp only
  rw[Xab,Zd (by omega)]
theorem Zug {l:List Int} (h:ZcV l=true) (hl:l.length≤40):ZiN l=(true,(ZjH l).2,(ZjH l).1):=by
 unfold ZiN
 rw[Xad hl,h]
 rfl
theorem ZDp {m:Zo} (hm:Zy m=true) {i:Nat} (hi:i<m.1.length):Zq9 m i=some (Znh m i):=by
 have hz:=ZsY hm hi
 have h4:=Zm5 hm hi
 obtain⟨v1,_,_,_,v5⟩:=ZwV hm hi
 have hin:=ZA4 hm hi
 have hfin:Zkn (ZdG m i)=some (Znh m i):=by
  unfold Zkn
  rw[Zk6 _ (by omega),Ze,Zug v1 (by omega),ZvD (by omega) (fun x hx=>by have:=hin x hx;omega),Ze]
  unfold Znh
  generalize ZjH (ZdG m i)=a
  generalize ZjK (ZdG m i)=b
  rfl
 unfold Zq9
 have:=ZbZ (f:=Zko m i) (List.range (Zej m i)) 0 (ZbR m i) [] (fun o=>Znh m i) (fun k out hk ho=>?_) ?_
 ·exact this
 ·rw[XaI]at hk
  have ho:out.length=k:=by rw[ho];simp
  unfold Zko
  dsimp only
  rw[Zb ⟨by omega,by omega⟩,Xab,Zc (by omega),ZiQ hm hi (by omega),Ze,Zb (by simp only[Zl,Xaq,Xap];omega),Zf (by omega) (by omega),ZtG hk]
  rfl
 ·rw[XaI]
  unfold Zko
  dsimp only
  rw[Zb ⟨by omega,by omega⟩,Xab,Zd (by omega),Xau]
  show up (Zkn (ZdG m i))=_
  rw[hfin]
  rfl
theorem Znt {m:Zo} {r:ZH} (hm:Zy m=true) (ho:Zdw m r) {i:Nat} (hi:i<r.2.1.length):(0≤r.2.1.getD i 0∧(r.2.1.getD i 0).toNat<m.1.length)∧(Zej m (r.2.1.getD i 0).toNat:Int)=m.1.getD (r.2.1.getD i 0).toNat 0+1∧Zej m (r.2.1.getD i 0).toNat≤4∧r.2.1.length≤5:=by
 have h:=ho.vars i hi
 exact⟨h,ZsY hm h.2,(Zm5 hm h.2).2,Zh6 hm ho⟩
theorem ZHG {m:Zo} {r:ZH} (hm:Zy m=true) (ho:Zdw m r) (k1:r.1=1):Zb8 m r=some [Zsf m r]:=by
 obtain⟨l1,l2,l3,l4⟩:=ho.lin k1
 have h5:=Zh6 hm ho
 have hfin:Zfd r (Zhh m r r.2.1.length)=some [Zsf m r]:=by
  obtain⟨c1,c2⟩:=Ztz hm ho k1 r.2.1.length (Nat.le_refl _)
  unfold Zfd
  rw[Zur (fun t ht=>(c2 t ht).1) (by omega) ⟨by omega,by omega⟩,Ze]
  unfold Zsf Zk0
  generalize Zc2 _ _=q
  rfl
 unfold Zb8
 rw[Zx k1]
 refine ZK (fun s:Int×List (Int×Int)=>∃i:Nat,s.1=i∧i≤r.2.1.length∧s.2=Zhh m r i) (fun s=>r.2.1.length - s.1.toNat) (fun _=>[Zsf m r]) ?_ _ ⟨0,rfl,Nat.zero_le _,rfl⟩
 rintro⟨s,out⟩ ⟨i,hi1,hi,ho'⟩
 dsimp only at hi1 ho'
 subst hi1
 unfold ZhQ
 dsimp only
 rcases Xag i r.2.1.length with q|q
 ·left
  obtain⟨⟨a0,a1⟩,a2,a3,_⟩:=Znt hm ho q
  have hc:=l2 i
  obtain⟨c1,_⟩:=Ztz hm ho k1 i hi
  rw[Zc (by omega),Zb ⟨by omega,by omega⟩,Xab,Zb ⟨by omega,by omega⟩,Zf (by omega) (by omega)]
  have hl:loop (Zdk m r i) ((0:Int),out)=some (Sum.inl ((i:Int)+1,Zhh m r (i+1)):(Int×List (Int×Int))⊕(List Zbx)):=by
   have:=ZbZ (f:=Zdk m r i) (List.range (Zej m (r.2.1.getD i 0).toNat)) 0 (fun (k:Nat)=>(r.2.2.1.getD i 0*(k:Int),ZbR m (r.2.1.getD i 0).toNat k)) out (fun o=>Sum.inl ((i:Int)+1,o)) (fun k o hk hko=>?_) ?_
   ·rw[this,ho']
    rfl
   ·rw[XaI]at hk
    have hko:o.length≤40:=by rw[hko,ho'];omega
    have hb:=ZBR (a:=r.2.2.1.getD i 0) (k:=k) hc ⟨by omega,by omega⟩
    have eb:=Zi5 hm a1 (k:=k) (by omega)
    rw[show (((r.2.1.getD i 0).toNat:Nat):Int)=r.2.1.getD i 0 by omega]at eb
    unfold Zdk
    dsimp only
    rw[Xab,Zc (by omega),Zb ⟨by omega,by omega⟩,Zf (by omega) (by omega),eb,Ze,Zb (by simp only[Zl,Xaq,Xap];omega),Zf (by omega) (by omega),ZtG hk]
    rfl
   ·rw[XaI]
    unfold Zdk
    dsimp only
    rw[Xab,Zd (by omega),Zf (by omega) (by omega)]
  rw[hl]
  exact⟨_,rfl,⟨i+1,by simp,by omega,rfl⟩,by (try dsimp only)<;>omega,rfl⟩
 ·right
  have:i=r.2.1.length:=by omega
  subst this
  rw[Zd (by omega),ho',hfin]
  rfl
theorem ZAr {s:Int×List Int} {t:Int×Int} (h:0<t.2):ZnO s t=(s.1,s.2.set t.2.toNat (s.2.getD t.2.toNat 0+t.1)):=by
 unfold ZnO
 rw[if_neg (by omega)]
theorem ZGp {b:Int} {j:Nat}:∀(ts:List (Int×Int)) (s:Int×List Int),(∀t∈ts,0<t.2∧t.2.toNat≠j)→(ts.foldl ZnO s).2.getD j 0=s.2.getD j 0
 |[],_,_=>rfl
 |t::ts,s,h=>by
  rw[Xa9,ZGp (b:=b) ts (ZnO s t) (fun x hx=>h x (Xao _ hx))]
  obtain⟨h1,h2⟩:=h t Xas
  rw[ZAr h1]
  exact ZV h2
theorem ZIq:∀(ts:List (Int×Int)) (s:Int×List Int),(∀t∈ts,0<t.2)→(ts.foldl ZnO s).1=s.1
 |[],_,_=>rfl
 |t::ts,s,h=>by
  rw[Xa9,ZIq ts (ZnO s t) (fun x hx=>h x (Xao _ hx))]
  rw[ZAr (h t Xas)]
theorem ZL5 (m:Zo) (i:Nat) (c:Int) (n:Nat):Zqx m i c (n+1)=Zqx m i c n++[(c*(n:Int),ZbR m i n)]:=by
 unfold Zqx
 rw[XbA,Xa1]
 rfl
theorem ZAH {m:Zo} {r:ZH} {t:Int×Int}:∀n,t∈Zhh m r n→∃i k,i<n∧k<Zej m (r.2.1.getD i 0).toNat∧t.2=ZbR m (r.2.1.getD i 0).toNat k
 |0,h=>absurd h Xay
 |n+1,h=>by
  rcases List.mem_append.1 h with q|q
  ·obtain⟨i,k,h1,h2,h3⟩:=ZAH n q
   exact⟨i,k,by omega,h2,h3⟩
  ·obtain⟨k,hk,rfl⟩:=XaF.1 q
   exact⟨n,k,by omega,Xax.1 hk,rfl⟩
theorem ZGE {m:Zo} {r:ZH} (ho:Zdw m r) {i j:Nat} (hi:i<r.2.1.length) (hj:j<r.2.1.length) (h:(r.2.1.getD i 0).toNat=(r.2.1.getD j 0).toNat):i=j:=by
 have h1:=(ho.vars i hi).1
 have h2:=(ho.vars j hj).1
 have e:r.2.1.getD i 0=r.2.1.getD j 0:=by omega
 rw[Xaa,Xaa,Xac hi,Xac hj]at e
 exact(List.getElem_inj ho.nodup).1 e
theorem ZM8 {m:Zo} {r:ZH} (hm:Zy m=true) (ho:Zdw m r) {i k:Nat} (hi:i<r.2.1.length) (hk:k<Zej m (r.2.1.getD i 0).toNat):∀t∈Zhh m r i++Zqx m (r.2.1.getD i 0).toNat (r.2.2.1.getD i 0) k,0<t.2∧t.2.toNat≠(ZbR m (r.2.1.getD i 0).toNat k).toNat:=fun t ht=>by
 have hv:=(ho.vars i hi).2
 have hk':=(ZfC hm hv).1 hk
 have r1:=Zdn hm hv hk'
 rcases List.mem_append.1 ht with q|q
 ·obtain⟨i',k',h1,h2,h3⟩:=ZAH i q
  have hv':=(ho.vars i' (by omega)).2
  have h2':=(ZfC hm hv').1 h2
  have r2:=Zdn hm hv' h2'
  rw[h3]
  refine⟨by omega,fun e=>?_⟩
  have:=(ZvE hm hv' h2' hv hk' (by omega)).1
  have:=ZGE ho (by omega) hi this
  omega
 ·obtain⟨k',h1,rfl⟩:=XaF.1 q
  have h1:=Xax.1 h1
  have h2':=(ZfC hm hv).1 (show k'<Zej m (r.2.1.getD i 0).toNat by omega)
  have r2:=Zdn hm hv h2'
  dsimp only
  refine⟨by omega,fun e=>?_⟩
  have:=(ZvE hm hv h2' hv hk' (by omega)).2
  omega
theorem ZMl {m:Zo} {r:ZH} (hm:Zy m=true) (ho:Zdw m r) {b:Int} {i k:Nat} (hi:i<r.2.1.length) (hk:k<Zej m (r.2.1.getD i 0).toNat) :
  (Zc7 (Zhh m r i++Zqx m (r.2.1.getD i 0).toNat (r.2.2.1.getD i 0) (k+1)) b).2=(Zc7 (Zhh m r i++Zqx m (r.2.1.getD i 0).toNat (r.2.2.1.getD i 0) k) b).2.set (ZbR m (r.2.1.getD i 0).toNat k).toNat (r.2.2.1.getD i 0*(k:Int)):=by
 have hn:=ZM8 hm ho hi hk
 have hv:=(ho.vars i hi).2
 have r1:=Zdn hm hv ((ZfC hm hv).1 hk)
 have h0:=ZGp (b:=b) _ (b,List.replicate 13 0) hn
 rw[ZFe]at h0
 rw[ZL5,←XaK]
 unfold Zc7
 rw[Xa6]
 show (ZnO _ (r.2.2.1.getD i 0*(k:Int),ZbR m (r.2.1.getD i 0).toNat k)).2=_
 rw[ZAr (show 0<ZbR m (r.2.1.getD i 0).toNat k by omega)]
 dsimp only
 rw[h0,Int.zero_add]
theorem ZH1 {m:Zo} {r:ZH} (hm:Zy m=true) (ho:Zdw m r) (k1:r.1=1):ZoG m r=some [Zsf m r]:=by
 obtain⟨l1,l2,l3,l4⟩:=ho.lin k1
 have h5:=Zh6 hm ho
 obtain⟨c1,c2⟩:=Ztz hm ho k1 r.2.1.length (Nat.le_refl _)
 have hpos:∀t∈Zhh m r r.2.1.length,0<t.2:=fun t ht=>by
  obtain⟨i,k,h1,h2,h3⟩:=ZAH _ ht
  have hv:=(ho.vars i h1).2
  have:=Zdn hm hv ((ZfC hm hv).1 h2)
  omega
 have hfin:Zll r (Zc7 (Zhh m r r.2.1.length) r.2.2.2.1).2=some [Zsf m r]:=by
  obtain⟨n1,_,n3⟩:=ZsN (b:=r.2.2.2.1) c2 (Zhh m r r.2.1.length).length (Nat.le_refl _)
  rw[XaC]at n1 n3
  unfold Zll
  rw[ZtM n1 (fun j=>by have:=n3 j;omega) ⟨by omega,by omega⟩,Ze]
  unfold Zsf Zk0
  have e:(Zc7 (Zhh m r r.2.1.length) r.2.2.2.1).1=r.2.2.2.1:=ZIq _ _ hpos
  rw[e]
  generalize Zc2 _ _=q
  rfl
 unfold ZoG
 rw[Zb ⟨by omega,by simp only[Zl];omega,rfl⟩]
 refine ZK (fun s:Int×List Int=>∃i:Nat,s.1=i∧i≤r.2.1.length∧s.2=(Zc7 (Zhh m r i) r.2.2.2.1).2) (fun s=>r.2.1.length - s.1.toNat) (fun _=>[Zsf m r]) ?_ _ ⟨0,rfl,Nat.zero_le _,rfl⟩
 rintro⟨s,net⟩ ⟨i,hi1,hi,ho'⟩
 dsimp only at hi1 ho'
 subst hi1
 unfold Zpa
 dsimp only
 rcases Xag i r.2.1.length with q|q
 ·left
  obtain⟨⟨a0,a1⟩,a2,a3,_⟩:=Znt hm ho q
  have hc:=l2 i
  rw[Zc (by omega)]
  have hl:loop (Zlm m r i) ((0:Int),net)=some (Sum.inl ((i:Int)+1,(Zc7 (Zhh m r (i+1)) r.2.2.2.1).2):(Int×List Int)⊕(List Zbx)):=by
   refine ZK (fun s:Int×List Int=>∃k:Nat,s.1=k∧k≤Zej m (r.2.1.getD i 0).toNat∧s.2.length=13∧s.2=(Zc7 (Zhh m r i++Zqx m (r.2.1.getD i 0).toNat (r.2.2.1.getD i 0) k) r.2.2.2.1).2) (fun s=>Zej m (r.2.1.getD i 0).toNat - s.1.toNat) (fun _=>_) ?_ _ ⟨0,rfl,Nat.zero_le _,?_,?_⟩
   ·rintro⟨s,net2⟩ ⟨k,hk1,hk,hlen,hnet⟩
    dsimp only at hk1 hlen hnet
    subst hk1
    unfold Zlm
    dsimp only
    rw[Zb ⟨by omega,by omega⟩,Xab,Zb ⟨by omega,by omega⟩]
    rcases Xag k (Zej m (r.2.1.getD i 0).toNat)with q2|q2
    ·left
     have hb:=ZBR (a:=r.2.2.1.getD i 0) (k:=k) hc ⟨by omega,by omega⟩
     have eb:=ZiQ hm a1 (k:=k) (by omega)
     rw[show (((r.2.1.getD i 0).toNat:Nat):Int)=r.2.1.getD i 0 by omega]at eb
     have rm:=Zdn hm a1 ((ZfC hm a1).1 q2)
     have ev:(1:Int)+k+ZO m (r.2.1.getD i 0).toNat=ZbR m (r.2.1.getD i 0).toNat k:=rfl
     rw[ev]at eb
     rw[Zc (by omega),Zb ⟨by omega,by omega⟩,eb,Ze,Zb ⟨by omega,by omega⟩,Zf (by omega) (by omega),Zb ⟨by omega,by omega⟩,Zf (by omega) (by omega)]
     exact⟨_,rfl,⟨k+1,by simp,by omega,by dsimp only;rw[Xam];exact hlen,by dsimp only;rw[hnet,ZMl hm ho q q2]⟩,by (try dsimp only)<;>omega,rfl⟩
    ·right
     have:k=Zej m (r.2.1.getD i 0).toNat:=by omega
     subst this
     rw[Zd (by omega),Zf (by omega) (by omega),hnet]
     rfl
   ·obtain⟨c1,c2⟩:=Ztz hm ho k1 i hi
    have:=(ZsN (b:=r.2.2.2.1) c2 (Zhh m r i).length (Nat.le_refl _)).1
    rw[XaC]at this
    dsimp only
    rw[ho',this]
   ·dsimp only
    rw[ho']
    show _=(Zc7 (Zhh m r i++[]) r.2.2.2.1).2
    rw[Xaz]
  rw[hl]
  exact⟨_,rfl,⟨i+1,by simp,by omega,rfl⟩,by (try dsimp only)<;>omega,rfl⟩
 ·right
  have:i=r.2.1.length:=by omega
  subst this
  rw[Zd (by omega),ho',hfin]
  rfl
end Go.AE.Y
namespace Go.AE.Y
open Go Go.AE
set_option maxHeartbeats 400000
theorem ZBO {β R:Type} {f:Int×List β→Option ((Int×List β)⊕R)} (n:Nat) (p:Nat→Bool) (g:Nat→β) (fin:R)
  (h:∀(i:Nat) (out:List β),i<n→out.length≤n→f ((i:Int),out)=some (.inl ((i:Int)+1,bif p i then out++[g i]else out)))
  (hn:f ((n:Int),((List.range n).filter p).map g)=some (.inr fin)):loop f ((0:Int),[])=some fin:=by
 refine ZK (fun s:Int×List β=>∃i:Nat,s.1=i∧i≤n∧s.2=((List.range i).filter p).map g) (fun s=>n - s.1.toNat) (fun _=>fin) ?_ _ ⟨0,rfl,Nat.zero_le _,rfl⟩
 rintro⟨i,out⟩ ⟨j,hj,hl,ho⟩
 dsimp only at hj ho
 subst hj
 rcases Xag j n with q|q
 ·left
  have hlen:out.length≤n:=by
   rw[ho,Xak]
   have:=XbK p (List.range j)
   rw[XaI]at this
   omega
  rw[h j out q hlen]
  refine⟨_,rfl,⟨j+1,by simp,by omega,?_⟩,by (try dsimp only)<;>omega,rfl⟩
  dsimp only
  rw[XbA,List.filter_append,Xa1,ho]
  cases hp:p j with
  |true=>rw[ctt,Xa8 hp];rfl
  |false=>rw[cff,Xa7 (by rw[hp];decide)];exact(Xaz _).symm
 ·right
  have:j=n:=by omega
  rw[ho,this]
  exact hn
theorem ZIf {α β:Type} (l:List α) (d:α) (p:α→Bool) (g:α→β):(l.filter p).map g=((List.range l.length).filter (fun i=>p (l.getD i d))).map (fun i=>g (l.getD i d)):=by
 have e:(List.range l.length).map (fun i=>l.getD i d)=l:=by
  refine XbP (by rw[Xak,XaI]) (fun i h1 h2=>?_)
  rw[Xb0,List.getElem_range,Xaa,Xac h2]
  rfl
 have:=List.filter_map (f:=fun i=>l.getD i d) (p:=p) (l:=List.range l.length)
 rw[e]at this
 rw[this,XbH]
 rfl
theorem ZEY {l l':List Int} (h:l.Pairwise (· ≤ ·)) (h':l'.Pairwise (· ≤ ·)) (hp:l.Perm l'):l=l':=
 List.Perm.eq_of_pairwise (le:=fun x y=>x≤y) (fun _ _ _ _ h1 h2=>Int.le_antisymm h1 h2) h h' hp
theorem ZEg (l:List Int):(Znu l).Pairwise (· ≤ ·):=ZGP l (fun x=>x)
theorem Znv (l:List Int):(Znu l).Perm l:=List.mergeSort_perm l _
theorem ZMz {l:List Int} (h:l.length≤4000000000):ZFf l=some (Znu l):=if_pos h
theorem ZK2 {l:List Int} {k:Nat} (h:k+1<l.length):((l.set (k+1) (l.getD k 0)).set k (l.getD (k+1) 0)).Perm l:=by
 have:=List.set_set_perm (i:=k+1) (j:=k) h (show k<l.length by omega)
 rw[Xaa,Xaa,Xac h,Xac (show k<l.length by omega)]
 exact this
theorem ZNr {l:List Int} (h:∀a b,a<b→b<l.length→l.getD a 0≤l.getD b 0):l.Pairwise (· ≤ ·):=by
 rw[XaV]
 intro i j hi hj hij
 have:=h i j hij hj
 rwa [Xaa,Xaa,Xac hi,Xac hj]at this
theorem ZDr {l:List Int} (hn:l.length≤1000) {i:Nat} (hi:i<l.length) {o:List Int} (hp:o.Perm l) (hs:∀a b,a<b→b<i→o.getD a 0≤o.getD b 0) :
  ∃r:(Int×List Int)⊕List Int,loop (Zlo i) ((i:Int),o)=some r∧∃o':List Int,r=Sum.inl ((i:Int)+1,o')∧o'.Perm l∧∀a b,a<b→b<i+1→o'.getD a 0≤o'.getD b 0:=by
 refine Zb9 (fun s:Int×List Int=>∃k:Nat,s.1=k∧k≤i∧s.2.Perm l∧∀a b,a<b→b≤i→b≠k→s.2.getD a 0≤s.2.getD b 0) (fun s=>s.1.toNat) (fun r:(Int×List Int)⊕List Int=>∃o':List Int,r=Sum.inl ((i:Int)+1,o')∧o'.Perm l∧∀a b,a<b→b<i+1→o'.getD a 0≤o'.getD b 0) ?_ _ ⟨i,rfl,Nat.le_refl _,hp,fun a b h1 h2 h3=>hs a b h1 (by omega)⟩
 rintro⟨s,o⟩ ⟨k,hk1,hk,hp,hs⟩
 dsimp only at hk1 hp hs
 subst hk1
 have hl:=hp.length_eq
 unfold Zlo
 dsimp only
 cases k with
 |zero=>
  right
  rw[Zd (by omega),Zf (by omega) (by omega)]
  exact⟨_,rfl,o,rfl,hp,fun a b h1 h2=>hs a b h1 (by omega) (by omega)⟩
 |succ k=>
  rw[Zc (by omega),Zb ⟨by omega,by omega⟩,Zf (by omega) (by omega),Zb ⟨by omega,by omega⟩,show (((k+1:Nat):Int) - 1).toNat=k by omega,Xab]
  by_cases q:o.getD (k+1) 0<o.getD k 0
  ·left
   rw[Zc q,Zb ⟨by omega,by omega⟩,Zf (by omega) (by omega),Zb ⟨by omega,by omega⟩,Zb ⟨by omega,by omega⟩,Zf (by omega) (by omega),Zb ⟨by omega,by rw[Xam];omega⟩,Zf (by omega) (by omega)]
   have hget:∀j,((o.set (k+1) (o.getD k 0)).set k (o.getD (k+1) 0)).getD j 0=if j=k then o.getD (k+1) 0 else if j=k+1 then o.getD k 0 else o.getD j 0:=fun j=>by
    by_cases e:j=k
    ·rw[if_pos e,e,ZcT (by rw[Xam];omega)]
    ·rw[if_neg e,ZV (by omega)]
     by_cases e2:j=k+1
     ·rw[if_pos e2,e2,ZcT (by omega)]
     ·rw[if_neg e2,ZV (by omega)]
   refine⟨_,rfl,⟨k,by omega,by omega,(ZK2 (by omega)).trans hp,fun a b h1 h2 h3=>?_⟩,by dsimp only;omega⟩
   dsimp only
   rw[hget a,hget b,if_neg h3]
   by_cases eb:b=k+1
   ·rw[if_pos eb]
    by_cases ea:a=k
    ·rw[if_pos ea];omega
    ·rw[if_neg ea,if_neg (by omega)]
     exact hs a k (by omega) (by omega) (by omega)
   ·rw[if_neg eb]
    by_cases ea:a=k
    ·rw[if_pos ea]
     exact hs (k+1) b (by omega) h2 eb
    ·rw[if_neg ea]
     by_cases ea2:a=k+1
     ·rw[if_pos ea2]
      exact hs k b (by omega) h2 eb
     ·rw[if_neg ea2]
      exact hs a b h1 h2 eb
  ·right
   rw[Zd q,Zf (by omega) (by omega)]
   refine⟨_,rfl,o,rfl,hp,fun a b h1 h2=>?_⟩
   by_cases e:b=k+1
   ·subst e
    by_cases e2:a=k
    ·rw[e2];omega
    ·have:=hs a k (by omega) (by omega) (by omega)
     omega
   ·exact hs a b h1 (by omega) e
theorem ZAY {l:List Int} (hn:l.length≤1000):ZoH l=some (Znu l):=by
 unfold ZoH
 rw[Zb (by simp only[Zl,Xap];omega),Xau]
 have:=Zb9 (f:=Zln) (fun s:Int×List Int=>∃i:Nat,s.1=i∧i≤l.length∧s.2.Perm l∧∀a b,a<b→b<i→s.2.getD a 0≤s.2.getD b 0) (fun s=>l.length - s.1.toNat) (fun r=>r=Znu l) ?_ ((0:Int),l) ⟨0,rfl,Nat.zero_le _,List.Perm.refl _,fun a b h1 h2=>by omega⟩
 ·obtain⟨r,e,h⟩:=this
  rw[e,h]
 rintro⟨s,o⟩ ⟨i,hi1,hi,hp,hs⟩
 dsimp only at hi1 hp hs
 subst hi1
 have hl:=hp.length_eq
 unfold Zln
 dsimp only
 rcases Xag i l.length with q|q
 ·left
  obtain⟨r,e,o',e2,h3,h4⟩:=ZDr hn q hp hs
  rw[Zc (by omega),e,e2]
  exact⟨_,rfl,⟨i+1,by simp,by omega,h3,h4⟩,by dsimp only;omega⟩
 ·right
  rw[Zd (by omega)]
  refine⟨_,rfl,?_⟩
  exact ZEY (ZNr (fun a b h1 h2=>hs a b h1 (by omega))) (ZEg l) (hp.trans (Znv l).symm)
theorem Zwa {m:Zo} {r:ZH} (hm:Zy m=true) (ho:Zdw m r) (k:Nat):(∀y∈ZeA m r k,1≤y∧y≤12)∧(ZeA m r k).length≤5:=by
 refine⟨fun y hy=>?_,?_⟩
 ·obtain⟨c,c1,c2,rfl⟩:=(ZoS hm ho).2 y hy
  have:=Zdn hm (ZlH ho c1).2 c2
  omega
 ·unfold ZeA
  rw[Xak]
  have:=XbK (fun c:Int=>decide ((k:Int)≤m.1.getD c.toNat 0)) r.2.1
  have:=Zh6 hm ho
  omega
def ZkM (m:Zo) (r:ZH) (k:Nat):Zv:=if 1<(ZeA m r k).length then[ZjK (Znu (ZeA m r k))]else[]
theorem ZFK {m:Zo} {r:ZH} (hm:Zy m=true) (ho:Zdw m r) (k:Nat):(∀x∈Znu (ZeA m r k),-1000≤x∧x≤1000)∧(Znu (ZeA m r k)).length≤1000:=by
 obtain⟨h1,h2⟩:=Zwa hm ho k
 refine⟨fun x hx=>?_,?_⟩
 ·have:=h1 x ((Znv _).mem_iff.1 hx)
  omega
 ·rw[(Znv _).length_eq];omega
theorem Zv9 (m:Zo) (r:ZH) (k:Nat):(List.range (k+1)).flatMap (ZkM m r)=(List.range k).flatMap (ZkM m r)++ZkM m r k:=by
 rw[XbA,List.flatMap_append,List.flatMap_cons,XbR,Xaz]
theorem Zui (m:Zo) (r:ZH):∀k,((List.range k).flatMap (ZkM m r)).length≤k
 |0=>Nat.le_refl _
 |k+1=>by
  have:=Zui m r k
  have h2:(ZkM m r k).length≤1:=by
   unfold ZkM
   split
   ·exact Nat.le_refl _
   ·exact Nat.zero_le _
  rw[Zv9,Xal]
  omega
theorem ZF2 {m:Zo} {r:ZH} (hm:Zy m=true) (ho:Zdw m r) (k2:r.1=2):Zb8 m r=some (ZsD m r):=by
 have h5:=Zh6 hm ho
 unfold Zb8
 rw[Zu (by omega),Zx k2]
 refine ZK (fun s:Int×Zv=>∃k:Nat,s.1=k∧k≤4∧s.2=(List.range k).flatMap (ZkM m r)) (fun s=>4 - s.1.toNat) (fun _=>ZsD m r) ?_ _ ⟨0,rfl,by omega,rfl⟩
 rintro⟨s,out⟩ ⟨k,hk1,hk,hout⟩
 dsimp only at hk1 hout
 subst hk1
 have hol:out.length≤k:=by rw[hout];exact Zui m r k
 unfold ZhR
 dsimp only
 rcases Xag k 4 with q|q
 ·left
  have hin:=Zwa hm ho k
  obtain⟨d1,d2⟩:=ZFK hm ho k
  have hj:Zea k out (ZeA m r k)=some (Sum.inl ((k:Int)+1,(List.range (k+1)).flatMap (ZkM m r))):=by
   unfold Zea
   rw[Zv9,←hout]
   unfold ZkM
   by_cases q2:1<(ZeA m r k).length
   ·rw[if_pos q2,Zc (by omega),ZMz (by omega),Ze,Zsr d2 d1,Ze,Zb (by simp only[Zl,Xaq,Xap];omega),Zf (by omega) (by omega)]
   ·rw[if_neg q2,Zd (by omega),Zf (by omega) (by omega),Xaz]
  have hl:loop (Zec m r k out) ((0:Int),[])=some (Sum.inl ((k:Int)+1,(List.range (k+1)).flatMap (ZkM m r)):(Int×Zv)⊕Zv):=by
   refine ZBO r.2.1.length (fun i=>decide ((k:Int)≤m.1.getD (r.2.1.getD i 0).toNat 0)) (fun i=>ZbR m (r.2.1.getD i 0).toNat k) _ (fun i o hi ho2=>?_) ?_
   ·obtain⟨⟨a0,a1⟩,a2,a3,_⟩:=Znt hm ho hi
    have eb:=Zi5 hm a1 (k:=k) (by omega)
    rw[show (((r.2.1.getD i 0).toNat:Nat):Int)=r.2.1.getD i 0 by omega,show (1:Int)+k+ZO m (r.2.1.getD i 0).toNat=ZbR m (r.2.1.getD i 0).toNat k from rfl]at eb
    unfold Zec
    dsimp only
    rw[Zc (by omega),Zb ⟨by omega,by omega⟩,Xab,Zb ⟨by omega,by omega⟩]
    by_cases q3:(k:Int)≤m.1.getD (r.2.1.getD i 0).toNat 0
    ·rw[Zc q3,eb,Ze,Zb (by simp only[Zl,Xaq,Xap];omega),Zf (by omega) (by omega),Xad q3]
     rfl
    ·rw[Zd q3,Zf (by omega) (by omega),decide_eq_false q3]
     rfl
   ·have e:=ZIf r.2.1 0 (fun c=>decide ((k:Int)≤m.1.getD c.toNat 0)) (fun c=>ZbR m c.toNat k)
    rw[←e]
    unfold Zec
    dsimp only
    rw[Zd (by omega)]
    show up (Zea k out (ZeA m r k))=_
    rw[hj]
    rfl
  rw[Zc (by omega),hl]
  exact⟨_,rfl,⟨k+1,by simp,by omega,rfl⟩,by (try dsimp only)<;>omega,rfl⟩
 ·right
  have:k=4:=by omega
  rw[Zd (by omega),hout,this]
  rfl
theorem ZGS {m:Zo} {r:ZH} (hm:Zy m=true) (ho:Zdw m r):Zli m r=some (ZsD m r):=by
 have h5:=Zh6 hm ho
 unfold Zli
 refine ZK (fun s:Int×Zv=>∃k:Nat,s.1=k∧k≤4∧s.2=(List.range k).flatMap (ZkM m r)) (fun s=>4 - s.1.toNat) (fun _=>ZsD m r) ?_ _ ⟨0,rfl,by omega,rfl⟩
 rintro⟨s,out⟩ ⟨k,hk1,hk,hout⟩
 dsimp only at hk1 hout
 subst hk1
 have hol:out.length≤k:=by rw[hout];exact Zui m r k
 unfold Zl6
 dsimp only
 rcases Xag k 4 with q|q
 ·left
  have hin:=Zwa hm ho k
  obtain⟨d1,d2⟩:=ZFK hm ho k
  have hj:ZfF k out (ZeA m r k)=some (Sum.inl ((k:Int)+1,(List.range (k+1)).flatMap (ZkM m r))):=by
   unfold ZfF
   rw[Zv9,←hout]
   unfold ZkM
   by_cases q2:1<(ZeA m r k).length
   ·rw[if_pos q2,Zc (by omega),ZAY (by omega),Ze,ZvD d2 d1,Ze,Zb (by simp only[Zl,Xaq,Xap];omega),Zf (by omega) (by omega)]
   ·rw[if_neg q2,Zd (by omega),Zf (by omega) (by omega),Xaz]
  have hl:loop (ZfG m r k out) ((0:Int),[])=some (Sum.inl ((k:Int)+1,(List.range (k+1)).flatMap (ZkM m r)):(Int×Zv)⊕Zv):=by
   refine ZBO r.2.1.length (fun i=>decide ((k:Int)≤m.1.getD (r.2.1.getD i 0).toNat 0)) (fun i=>ZbR m (r.2.1.getD i 0).toNat k) _ (fun i o hi ho2=>?_) ?_
   ·obtain⟨⟨a0,a1⟩,a2,a3,_⟩:=Znt hm ho hi
    have eb:=ZiQ hm a1 (k:=k) (by omega)
    rw[show (((r.2.1.getD i 0).toNat:Nat):Int)=r.2.1.getD i 0 by omega,show (1:Int)+k+ZO m (r.2.1.getD i 0).toNat=ZbR m (r.2.1.getD i 0).toNat k from rfl]at eb
    unfold ZfG
    dsimp only
    rw[Zc (by omega),Zb ⟨by omega,by omega⟩,Xab,Zb ⟨by omega,by omega⟩]
    by_cases q3:(k:Int)≤m.1.getD (r.2.1.getD i 0).toNat 0
    ·rw[Zc q3,Zb ⟨by omega,by omega⟩,eb,Ze,Zb (by simp only[Zl,Xaq,Xap];omega),Zf (by omega) (by omega),Xad q3]
     rfl
    ·rw[Zd q3,Zf (by omega) (by omega),decide_eq_false q3]
     rfl
   ·have e:=ZIf r.2.1 0 (fun c=>decide ((k:Int)≤m.1.getD c.toNat 0)) (fun c=>ZbR m c.toNat k)
    rw[←e]
    unfold ZfG
    dsimp only
    rw[Zd (by omega)]
    show up (ZfF k out (ZeA m r k))=_
    rw[hj]
    rfl
  rw[Zc (by omega),hl]
  exact⟨_,rfl,⟨k+1,by simp,by omega,rfl⟩,by (try dsimp only)<;>omega,rfl⟩
 ·right
  have:k=4:=by omega
  rw[Zd (by omega),hout,this]
  rfl
end Go.AE.Y
namespace Go.AE.Y
open Go Go.AE
set_option maxHeartbeats 400000
structure ZvX (m:Zo) (r:ZH) (vals:List Int) (i:Nat) (x:List Int):Prop where
 len:x.length=m.1.length
 dig:∀j,j<m.1.length→0≤x.getD j 0∧x.getD j 0≤m.1.getD j 0
 same:∀j,j<i→x.getD (r.2.1.getD j 0).toNat 0=vals.getD j 0
theorem ZD1 {m:Zo} (hm:Zy m=true) (r:ZH) (vals:List Int):ZvX m r vals 0 (List.replicate m.1.length 0):=by
 have h:=Zcu (ZnC hm)
 exact⟨h.1,fun j hj=>h.2 j (by rw[h.1];exact hj),fun j hj=>absurd hj (Nat.not_lt_zero _)⟩
theorem ZD0 {m:Zo} {r:ZH} {vals x:List Int} (ho:Zdw m r) (hv:∀i,i<r.2.1.length→0≤vals.getD i 0∧vals.getD i 0≤m.1.getD (r.2.1.getD i 0).toNat 0) {i:Nat} (hi:i<r.2.1.length) (h:ZvX m r vals i x):ZvX m r vals (i+1) (x.set (r.2.1.getD i 0).toNat (vals.getD i 0)):=by
 have hc:=(ho.vars i hi).2
 refine⟨by rw[Xam];exact h.len,fun j hj=>?_,fun j hj=>?_⟩
 ·by_cases e:j=(r.2.1.getD i 0).toNat
  ·rw[e,ZcT (by rw[h.len];exact hc)]
   exact hv i hi
  ·rw[ZV (by omega)]
   exact h.dig j hj
 ·by_cases e:j=i
  ·rw[e,ZcT (by rw[h.len];exact hc)]
  ·rw[ZV (fun q=>e (ZGE ho (by omega) hi q.symm))]
   exact h.same j (by omega)
theorem ZDZ {m:Zo} {r:ZH} {vals x:List Int} (hl:vals.length=r.2.1.length) (h:ZvX m r vals r.2.1.length x):ZJ m x=true∧Zca r.2.1 x=vals:=by
 refine⟨?_,Zul (by unfold Zca;rw[Xak,hl]) (fun i hi=>?_)⟩
 ·unfold ZJ cellAt
  simp only[Xae,Xaf,Xar,Xax]
  exact⟨h.len,fun i hi=>h.dig i (by have:=h.len;omega)⟩
 ·have hi':i<r.2.1.length:=by unfold Zca at hi;rwa [Xak]at hi
  rw[ZtF hi']
  exact h.same i hi'
theorem ZIj {m:Zo} {r:ZH} {vals:List Int} (hm:Zy m=true) (ho:Zdw m r) (hv:∀i,i<r.2.1.length→0≤vals.getD i 0∧vals.getD i 0≤m.1.getD (r.2.1.getD i 0).toNat 0):∀i,i≤r.2.1.length→∃x,ZvX m r vals i x
 |0,_=>⟨_,ZD1 hm r vals⟩
 |i+1,hi=>by
  obtain⟨x,hx⟩:=ZIj hm ho hv i (by omega)
  exact⟨_,ZD0 ho hv (by omega) hx⟩
theorem Zuw (m:Zo) (r:ZH) (vals:List Int):(Zmh m r vals).length=r.2.1.length:=by
 unfold Zmh
 rw[Xak,XaI]
def ZBv (m:Zo) (r:ZH) (l:List (List Int)):Zv:=(l.filter (fun vals=>!holdsB r vals)).map (fun vals=>ZjH (Zmh m r vals))
def Zho (m:Zo) (r:ZH) (vals:List Int):Zv:=bif holdsB r vals then[]else[ZjH (Zmh m r vals)]
theorem ZsF (m:Zo) (r:ZH) (v:List Int) (l:List (List Int)):ZBv m r (v::l)=Zho m r v++ZBv m r l:=by
 unfold ZBv Zho
 cases h:holdsB r v with
 |true=>rw[Xa7 (by rw[h];decide),ctt,Xau]
 |false=>rw[Xa8 (by rw[h];rfl),cff];rfl
theorem ZAz {m:Zo} {r:ZH} (hm:Zy m=true) (hs:Zfi r) (hr:r∈m.2) {vals:List Int} (hv:ZJ (smM m r) vals=true) {out:Zv} (hout:out.length≤100000) :
  ZdZ r m vals out=some (true,out++Zho m r vals):=by
 have ho:=ZqP hm hr
 have h5:=Zh6 hm ho
 obtain⟨l1,l2⟩:=Zwt hm ho hv
 have hvl:vals.length=r.2.1.length:=by
  have:=(Zcu hv).1
  unfold smM at this
  rwa [Xak]at this
 obtain⟨x,hx⟩:=ZIj hm ho l2 r.2.1.length (Nat.le_refl _)
 obtain⟨x1,x2⟩:=ZDZ hvl hx
 have hrb:=Zww hm r hr
 have hok:=ZAP hm hs x1 hrb
 rw[x2]at hok
 unfold ZdZ Zho
 rw[ZrK hs (ZwI hrb).2.2 hok,Ze]
 cases holdsB r vals with
 |true=>rw[cnt,ctt,Xaz]
 |false=>
  rw[cnf,cff]
  have hfin:Zcv out (Zmh m r vals)=some (true,out++[ZjH (Zmh m r vals)]):=by
   unfold Zcv
   rw[ZkO _ (by rw[Zuw];omega),Ze,Zug l1 (by rw[Zuw];omega),Zb (by simp only[Zl,Xaq,Xap];omega)]
  have:=ZbZ (f:=Zcw r m vals out) (List.range r.2.1.length) 0 (fun i=>0 - ZbR m (r.2.1.getD i 0).toNat (vals.getD i 0).toNat) [] (fun _=>(true,out++[ZjH (Zmh m r vals)])) (fun i o hi ho2=>?_) ?_
  ·exact this
  ·rw[XaI]at hi
   have ho2:o.length=i:=by rw[ho2];simp
   obtain⟨⟨a0,a1⟩,a2,a3,_⟩:=Znt hm ho hi
   have hvi:=l2 i hi
   have eb:=Zi5 hm a1 (k:=(vals.getD i 0).toNat) (by omega)
   rw[show (((r.2.1.getD i 0).toNat:Nat):Int)=r.2.1.getD i 0 by omega,show (1:Int)+((vals.getD i 0).toNat:Nat)+ZO m (r.2.1.getD i 0).toNat=ZbR m (r.2.1.getD i 0).toNat (vals.getD i 0).toNat from rfl,show (((vals.getD i 0).toNat:Nat):Int)=vals.getD i 0 by omega]at eb
   have rm:=Zdn hm a1 (k:=(vals.getD i 0).toNat) (by omega)
   unfold Zcw
   dsimp only
   rw[Zc (by omega),Zb ⟨by omega,by omega⟩,Zb ⟨by omega,by omega⟩,Xab,eb,Ze,Zf (by omega) (by omega),Zb (by simp only[Zl,Xaq,Xap];omega),Zf (by omega) (by omega),ZtG hi]
  ·rw[XaI,Xau]
   unfold Zcw
   dsimp only
   rw[Zd (by omega)]
   show up (Zcv out (Zmh m r vals))=_
   rw[hfin]
   rfl
theorem ZIz (m:Zo) (r:ZH):(smM m r).1.length=r.2.1.length:=Xak ..
theorem ZF3 {m:Zo} {r:ZH} (hm:Zy m=true) (hs:Zfi r) (hr:r∈m.2) (h1:r.1≠1) (h2:r.1≠2):Zb8 m r=some (ZpT m r):=by
 have ho:=ZqP hm hr
 have h5:=Zh6 hm ho
 have hsm:=ZB7 hm ho
 have hz:ZJ (smM m r) (Zmv (smM m r))=true:=ZnC hsm
 have hlen:=ZIz m r
 have hfin:Zeb m r (smM m r).1=some (ZpT m r):=by
  unfold Zeb
  rw[Zb ⟨by omega,by simp only[Zl];omega,rfl⟩,Xab]
  have key:Zcq (smM m r).1 (List.replicate (smM m r).1.length 0) r m=some (ZpT m r):=by
   unfold Zcq
   rw[Zub (by rw[XaG];omega),Ze]
   refine(ZK (f:=Zb3 (smM m r).1 r m) (fun s:List Int×Zv=>ZJ (smM m r) s.1=true∧s.2.length+muF s.1≤2000) (fun s=>muF s.1) (fun s=>s.2++ZBv m r (ZpF (smM m r) s.1)) ?_ _ ⟨hz,by unfold muF;simp;omega⟩).trans (by rw[Xau];rfl)
   rintro⟨x,out⟩ ⟨hx,hb⟩
   dsimp only at hx hb ⊢
   obtain⟨x1,x2⟩:=Zez hx
   have hp:=(Zp5 hsm hx).1
   have hst:(Zho m r x).length≤1:=by
    unfold Zho
    cases holdsB r x with
    |true=>exact Nat.zero_le _
    |false=>exact Nat.le_refl _
   unfold Zb3
   dsimp only
   rw[ZAz hm hs hr hx (by omega),Ze,ctt,Zf (by omega) (by omega),ZMn (X:=(List Int×Zv)⊕Zv) hsm hx (fun y=>.inl (y,out++Zho m r x)) (.inr (out++Zho m r x)) (f:=Zc6 (smM m r).1 (true,out++Zho m r x)) (g:=Zb2 (true,out++Zho m r x)) (fun i y=>rfl) (fun i y=>rfl),ZAs hsm hx]
   cases hq:(Z8 (smM m r) x).1 with
   |true=>
    left
    have hmu:=Zpw hsm hx hq
    refine⟨_,rfl,⟨ZhF hx,by dsimp only;rw[Xal];omega⟩,hmu,?_⟩
    dsimp only
    rw[ctt,ZsF,XaK]
   |false=>
    right
    rw[cff,cff,ZsF]
    show some (Sum.inr (out++Zho m r x))=some (Sum.inr (out++(Zho m r x++[])))
    rw[Xaz]
  rw[key,Ze]
 unfold Zb8
 rw[Zu h1,Zu h2]
 have:=ZbZ (f:=Zed m r) r.2.1 0 (fun c=>m.1.getD c.toNat 0) [] (fun _=>ZpT m r) (fun i o hi ho2=>?_) ?_
 ·exact this
 ·have ho2:o.length=i:=by rw[ho2];simp
  have hv:=ho.vars i hi
  unfold Zed
  dsimp only
  rw[Zc (by omega),Zb ⟨by omega,by omega⟩,Xab,Zb ⟨by omega,by omega⟩,Zb (by simp only[Zl,Xaq,Xap];omega),Zf (by omega) (by omega)]
 ·rw[Xau]
  unfold Zed
  dsimp only
  rw[Zd (by omega)]
  show up (Zeb m r (smM m r).1)=_
  rw[hfin]
  rfl
theorem ZGT {m:Zo} {r:ZH} (hm:Zy m=true) (hs:Zfi r) (hr:r∈m.2):ZoF m r=some (ZpT m r):=by
 have ho:=ZqP hm hr
 have h5:=Zh6 hm ho
 have hsm:=ZB7 hm ho
 have hz:ZJ (smM m r) (Zmv (smM m r))=true:=ZnC hsm
 have hlen:=ZIz m r
 have hrb:=Zww hm r hr
 obtain⟨m1,m2,m3⟩:=ZcN hm
 have hsame:(((smM m r).1,[]):Zo)=smM m r:=rfl
 have hfin:Zh2 m r (smM m r).1=some (ZpT m r):=by
  unfold Zh2
  rw[Zb ⟨by omega,by simp only[Zl];omega,rfl⟩,Xab]
  refine(ZK (f:=Zlj m r (smM m r).1) (fun s:Bool×Zv×List Int=>ZJ (smM m r) s.2.2=true∧(s.1=true→s.2.1.length+muF s.2.2≤2000)) (fun s=>bif s.1 then 1+muF s.2.2 else 0) (fun s=>s.2.1++bif s.1 then ZBv m r (ZpF (smM m r) s.2.2)else[]) ?_ (true,[],List.replicate r.2.1.length 0) ⟨by rw[←hlen];exact hz,fun _=>by unfold muF;simp;omega⟩).trans (by rw[←hlen];rfl)
  rintro⟨go,out,x⟩ ⟨hx,hb⟩
  dsimp only at hx hb ⊢
  obtain⟨x1,x2⟩:=Zez hx
  have hvl:x.length=r.2.1.length:=by omega
  have hp:=(Zp5 hsm hx).1
  obtain⟨l1,l2⟩:=Zwt hm ho hx
  unfold Zlj
  dsimp only
  cases go with
  |false=>
   right
   rw[cff,cff,Xaz]
  |true=>
   left
   have hb:=hb rfl
   have hnx:Zop (smM m r) x=some (Z8 (smM m r) x):=ZDl hsm hx
   have hj3:∀o:Zv,Zh4 (smM m r).1 x o=some (Sum.inl ((Z8 (smM m r) x).1,o,(Z8 (smM m r) x).2)):=fun o=>by
    unfold Zh4
    rw[hsame,hnx,Ze]
   have hj2:∀y,ZvX m r x r.2.1.length y→Zh3 r (smM m r).1 out x (y,Zmh m r x)=some (Sum.inl ((Z8 (smM m r) x).1,out++Zho m r x,(Z8 (smM m r) x).2)):=fun y hy=>by
    obtain⟨y1,y2⟩:=ZDZ hvl hy
    unfold Zh3 Zho
    dsimp only
    rw[ZCb hm hs y1 hrb,Ze,y2]
    cases holdsB r x with
    |true=>rw[cnt,ctt,Xaz,hj3]
    |false=>rw[cnf,cff,Zk6 _ (by rw[Zuw];omega),Ze,Zug l1 (by rw[Zuw];omega),Zb (by simp only[Zl,Xaq,Xap];omega),hj3]
   have hl:loop (Zlk m r (smM m r).1 out x) ((0:Int),List.replicate m.1.length 0,[])=some (Sum.inl ((Z8 (smM m r) x).1,out++Zho m r x,(Z8 (smM m r) x).2):(Bool×Zv×List Int)⊕Zv):=by
    refine ZK (fun s:Int×List Int×List Int=>∃i:Nat,s.1=i∧i≤r.2.1.length∧ZvX m r x i s.2.1∧s.2.2=(List.range i).map (fun i=>0 - ZbR m (r.2.1.getD i 0).toNat (x.getD i 0).toNat)) (fun s=>r.2.1.length - s.1.toNat) (fun _=>_) ?_ _ ⟨0,rfl,Nat.zero_le _,ZD1 hm r x,rfl⟩
    rintro⟨s,y,lits⟩ ⟨i,hi1,hi,hy,hlits⟩
    dsimp only at hi1 hy hlits
    subst hi1
    have hll:lits.length=i:=by rw[hlits,Xak,XaI]
    unfold Zlk
    dsimp only
    rcases Xag i r.2.1.length with q|q
    ·left
     obtain⟨⟨a0,a1⟩,a2,a3,_⟩:=Znt hm ho q
     have hvi:=l2 i q
     have hyl:=hy.len
     have eb:=ZiQ hm a1 (k:=(x.getD i 0).toNat) (by omega)
     rw[show (((r.2.1.getD i 0).toNat:Nat):Int)=r.2.1.getD i 0 by omega,show (1:Int)+((x.getD i 0).toNat:Nat)+ZO m (r.2.1.getD i 0).toNat=ZbR m (r.2.1.getD i 0).toNat (x.getD i 0).toNat from rfl,show (((x.getD i 0).toNat:Nat):Int)=x.getD i 0 by omega]at eb
     have rm:=Zdn hm a1 (k:=(x.getD i 0).toNat) (by omega)
     rw[Zc (by omega),Zb ⟨by omega,by omega⟩,Zb ⟨by omega,by omega⟩,Xab,Zb ⟨by omega,by omega⟩]
     unfold Zo9
     rw[Zb ⟨by omega,by omega⟩,Zb ⟨by omega,by omega⟩,Xab,eb,Ze,Zf (by omega) (by omega),Zb (by simp only[Zl,Xaq,Xap];omega),Zf (by omega) (by omega)]
     refine⟨_,rfl,⟨i+1,by simp,by omega,ZD0 ho l2 q hy,?_⟩,by (try dsimp only)<;>omega,rfl⟩
     dsimp only
     rw[hlits,XbA,Xa1]
     rfl
    ·right
     have:i=r.2.1.length:=by omega
     subst this
     rw[Zd (by omega),hlits]
     show up (Zh3 r (smM m r).1 out x (y,Zmh m r x))=_
     rw[hj2 y hy]
     rfl
   rw[ctt,Zb ⟨by omega,by simp only[Zl];omega,rfl⟩,Xab,hl]
   have hst:(Zho m r x).length≤1:=by
    unfold Zho
    cases holdsB r x with
    |true=>exact Nat.zero_le _
    |false=>exact Nat.le_refl _
   have has:=ZAs hsm hx
   cases hq:(Z8 (smM m r) x).1 with
   |true=>
    have hmu:=Zpw hsm hx hq
    rw[hq,ctt]at has
    refine⟨_,rfl,⟨ZhF hx,fun _=>by dsimp only;rw[Xal];omega⟩,by show 1+muF (Z8 (smM m r) x).2<1+muF x;omega,?_⟩
    dsimp only
    rw[ctt,ctt,has,ZsF,XaK]
   |false=>
    rw[hq,cff]at has
    refine⟨_,rfl,⟨ZhF hx,fun h=>by cases h⟩,by show 0<1+muF x;omega,?_⟩
    dsimp only
    rw[cff,ctt,has,ZsF,Xaz]
    show out++Zho m r x=out++(Zho m r x++[])
    rw[Xaz]
 unfold ZoF
 have:=ZbZ (f:=Zh5 m r) r.2.1 0 (fun c=>m.1.getD c.toNat 0) [] (fun _=>ZpT m r) (fun i o hi ho2=>?_) ?_
 ·exact this
 ·have ho2:o.length=i:=by rw[ho2];simp
  have hv:=ho.vars i hi
  unfold Zh5
  dsimp only
  rw[Zc (by omega),Zb ⟨by omega,by omega⟩,Xab,Zb ⟨by omega,by omega⟩,Zb (by simp only[Zl,Xaq,Xap];omega),Zf (by omega) (by omega)]
 ·rw[Xau]
  unfold Zh5
  dsimp only
  rw[Zd (by omega)]
  show up (Zh2 m r (smM m r).1)=_
  rw[hfin]
  rfl
end Go.AE.Y
namespace Go.AE.Y
open Go Go.AE
set_option maxHeartbeats 400000
theorem ZIy {m:Zo}:∀n x,(Zl0 m n x).length≤n+1
 |0,_=>Nat.le_refl _
 |n+1,x=>by
  show (x::bif (Z8 m x).1 then Zl0 m n (Z8 m x).2 else[]).length≤n+1+1
  rw[Xaq]
  cases (Z8 m x).1 with
  |true=>have:=ZIy (m:=m) n (Z8 m x).2;rw[ctt];omega
  |false=>rw[cff];exact Nat.succ_le_succ (Nat.zero_le _)
theorem ZyW {m:Zo} {r:ZH}:(ZoC m r).length≤1025:=by
 unfold ZoC
 split
 ·simp
 ·split
  ·have:=Zui m r 4
   have e:ZsD m r=(List.range 4).flatMap (ZkM m r):=rfl
   rw[e]
   omega
  ·unfold ZpT
   rw[Xak]
   have:=XbK (fun vals=>!holdsB r vals) (ZpF (smM m r) (Zmv (smM m r)))
   have:=ZIy (m:=smM m r) 1024 (Zmv (smM m r))
   unfold ZpF at *
   omega
theorem ZF8 {m:Zo} {r:ZH} (hm:Zy m=true) (hs:Zfi r) (hr:r∈m.2):Zb8 m r=some (ZoC m r):=by
 have ho:=ZqP hm hr
 unfold ZoC
 by_cases k1:r.1=1
 ·rw[if_pos k1];exact ZHG hm ho k1
 ·rw[if_neg k1]
  by_cases k2:r.1=2
  ·rw[if_pos k2];exact ZF2 hm ho k2
  ·rw[if_neg k2];exact ZF3 hm hs hr k1 k2
theorem ZGW {m:Zo} {r:ZH} (hm:Zy m=true) (hs:Zfi r) (hr:r∈m.2):Zra m r=some (ZoC m r):=by
 have ho:=ZqP hm hr
 unfold ZoC Zra
 by_cases k1:r.1=1
 ·rw[if_pos k1,Zx k1,ZH1 hm ho k1,Ze]
 ·rw[if_neg k1,Zu k1]
  by_cases k2:r.1=2
  ·rw[if_pos k2,Zx k2,ZGS hm ho,Ze]
  ·rw[if_neg k2,Zu k2,ZGT hm hs hr,Ze]
def Zoi (m:Zo) (n:Nat):Zv:=(List.range n).flatMap (Znh m)
def Zm3 (m:Zo) (n:Nat):Zv:=Zoi m m.1.length++(m.2.take n).flatMap (ZoC m)
theorem ZuK (m:Zo) (n:Nat):Zoi m (n+1)=Zoi m n++Znh m n:=by
 unfold Zoi
 rw[XbA,List.flatMap_append,List.flatMap_cons,XbR,Xaz]
theorem ZsB (m:Zo):∀n,(Zoi m n).length=2*n
 |0=>rfl
 |n+1=>by
  rw[ZuK,Xal,ZsB m n]
  show 2*n+2=_
  omega
theorem ZuT {m:Zo} {n:Nat} (h:n<m.2.length):Zm3 m (n+1)=Zm3 m n++ZoC m (m.2.getD n (0,[],[],0,[])):=by
 unfold Zm3
 rw[Zqi (0,[],[],0,[]) h,List.flatMap_append,List.flatMap_cons,XbR,Xaz,XaK]
theorem ZwJ {m:Zo}:∀n,n≤m.2.length→(Zm3 m n).length≤2*m.1.length+1025*n
 |0,_=>by
  unfold Zm3
  rw[XaR,XbR,Xaz,ZsB]
  omega
 |n+1,h=>by
  have:=ZwJ (m:=m) n (by omega)
  have:=ZyW (m:=m) (r:=m.2.getD n (0,[],[],0,[]))
  rw[ZuT (by omega),Xal]
  omega
theorem ZBs (m:Zo):Zcd m=Zm3 m m.2.length:=by
 unfold Zcd Zm3 Zoi
 rw[XaC]
theorem Zqn (m:Zo) (h:Zek m):ZkS m=some (ZCU m):=by
 unfold ZkS ZCU
 rw[Zgb m h,Ze]
 cases hm:Zy m with
 |false=>rw[cnf,Xai,cff]
 |true=>
  obtain⟨m1,m2,m3⟩:=ZcN hm
  rw[cnt,Xaj]
  have h2:Zic (Zcd m)=some (bif decide ((Zcd m).length≤400)then(true,Zcd m)else(false,[])):=by
   unfold Zic
   by_cases q:(Zcd m).length≤400
   ·rw[Zd (by omega),Xad q,ctt]
   ·rw[Zc (by omega),decide_eq_false q,cff]
  have h1:Zib m (Zoi m m.1.length)=some (bif decide ((Zcd m).length≤400)then(true,Zcd m)else(false,[])):=by
   unfold Zib
   refine ZK (f:=Zid m) (fun s:Int×Zv=>∃i:Nat,s.1=i∧i≤m.2.length∧s.2=Zm3 m i) (fun s=>m.2.length - s.1.toNat) (fun _=>_) ?_ _ ⟨0,rfl,Nat.zero_le _,by unfold Zm3;rw[XaR,XbR,Xaz]⟩
   rintro⟨s,out⟩ ⟨i,hi1,hi,ho⟩
   dsimp only at hi1 ho
   subst hi1
   unfold Zid
   dsimp only
   rcases Xag i m.2.length with q|q
   ·left
    have hr:=ZA (l:=m.2) (i:=i) (d:=(0,[],[],0,[])) q
    have hl:=ZwJ (m:=m) i hi
    have hl2:=ZyW (m:=m) (r:=m.2.getD i (0,[],[],0,[]))
    rw[Zc (by omega),Zb ⟨by omega,by omega⟩,Xab,ZF8 hm (h.2.2 _ hr) hr,Ze,Zb (by rw[ho];simp only[Zl];omega),Zf (by omega) (by omega)]
    exact⟨_,rfl,⟨i+1,by simp,by omega,by dsimp only;rw[ho,ZuT q]⟩,by (try dsimp only)<;>omega,rfl⟩
   ·right
    have:i=m.2.length:=by omega
    rw[Zd (by omega),ho,this,←ZBs,h2]
    rfl
  refine ZK (f:=Zie m) (fun s:Int×Zv=>∃i:Nat,s.1=i∧i≤m.1.length∧s.2=Zoi m i) (fun s=>m.1.length - s.1.toNat) (fun _=>_) ?_ _ ⟨0,rfl,Nat.zero_le _,rfl⟩
  rintro⟨s,out⟩ ⟨i,hi1,hi,ho⟩
  dsimp only at hi1 ho
  subst hi1
  unfold Zie
  dsimp only
  rcases Xag i m.1.length with q|q
  ·left
   obtain⟨v1,_,_,_,v5⟩:=ZwV hm q
   have hin:=ZA4 hm q
   have hl:=ZsB m i
   rw[Zc (by omega),Zve hm q,Ze,ZkO _ (by omega),Ze,Zug v1 (by omega),Zsr (by omega) (fun x hx=>by have:=hin x hx;omega),Ze,Zb (by rw[ho];simp only[Zl,Xaq,Xap];omega),Zf (by omega) (by omega)]
   refine⟨_,rfl,⟨i+1,by simp,by omega,?_⟩,by (try dsimp only)<;>omega,rfl⟩
   dsimp only
   rw[ho,ZuK]
   unfold Znh
   generalize ZjH (ZdG m i)=a
   generalize ZjK (ZdG m i)=b
   rfl
  ·right
   have:i=m.1.length:=by omega
   rw[Zd (by omega),ho,this,h1]
   rfl
theorem ZxI (m:Zo) (h:Zek m):Zk8 m=some (ZCU m):=by
 unfold Zk8 ZCU
 rw[Zm6 m h,Ze]
 cases hm:Zy m with
 |false=>rw[cnf,Xai,cff]
 |true=>
  obtain⟨m1,m2,m3⟩:=ZcN hm
  rw[cnt,Xaj]
  have h2:Zij (Zcd m)=some (bif decide ((Zcd m).length≤400)then(true,Zcd m)else(false,[])):=by
   unfold Zij
   by_cases q:(Zcd m).length≤400
   ·rw[Zd (by omega),Xad q,ctt]
   ·rw[Zc (by omega),decide_eq_false q,cff]
  have h1:Zii m (Zoi m m.1.length)=some (bif decide ((Zcd m).length≤400)then(true,Zcd m)else(false,[])):=by
   unfold Zii
   refine ZK (f:=Zik m) (fun s:Int×Zv=>∃i:Nat,s.1=i∧i≤m.2.length∧s.2=Zm3 m i) (fun s=>m.2.length - s.1.toNat) (fun _=>_) ?_ _ ⟨0,rfl,Nat.zero_le _,by unfold Zm3;rw[XaR,XbR,Xaz]⟩
   rintro⟨s,out⟩ ⟨i,hi1,hi,ho⟩
   dsimp only at hi1 ho
   subst hi1
   unfold Zik
   dsimp only
   rcases Xag i m.2.length with q|q
   ·left
    have hr:=ZA (l:=m.2) (i:=i) (d:=(0,[],[],0,[])) q
    have hl:=ZwJ (m:=m) i hi
    have hl2:=ZyW (m:=m) (r:=m.2.getD i (0,[],[],0,[]))
    rw[Zc (by omega),Zb ⟨by omega,by omega⟩,Xab,ZGW hm (h.2.2 _ hr) hr,Ze,Zb (by rw[ho];simp only[Zl];omega),Zf (by omega) (by omega)]
    exact⟨_,rfl,⟨i+1,by simp,by omega,by dsimp only;rw[ho,ZuT q]⟩,by (try dsimp only)<;>omega,rfl⟩
   ·right
    have:i=m.2.length:=by omega
    rw[Zd (by omega),ho,this,←ZBs,h2]
    rfl
  refine ZK (f:=Zil m) (fun s:Int×Zv=>∃i:Nat,s.1=i∧i≤m.1.length∧s.2=Zoi m i) (fun s=>m.1.length - s.1.toNat) (fun _=>_) ?_ _ ⟨0,rfl,Nat.zero_le _,rfl⟩
  rintro⟨s,out⟩ ⟨i,hi1,hi,ho⟩
  dsimp only at hi1 ho
  subst hi1
  unfold Zil
  dsimp only
  rcases Xag i m.1.length with q|q
  ·left
   have hl:=ZsB m i
   have hc:(Znh m i).length=2:=rfl
   rw[Zc (by omega),ZDp hm q,Ze,Zb (by rw[ho];simp only[Zl];omega),Zf (by omega) (by omega)]
   exact⟨_,rfl,⟨i+1,by simp,by omega,by dsimp only;rw[ho,ZuK]⟩,by (try dsimp only)<;>omega,rfl⟩
  ·right
   have:i=m.1.length:=by omega
   rw[Zd (by omega),ho,this,h1]
   rfl
theorem ZMG {m:Zo} {i k:Nat} (h:k<Zej m i):(ZdG m i).getD k 0=ZbR m i k:=by
 unfold ZdG
 rw[ZmR (d:=0) (h:=by rw[XaI];exact h),ZtG h]
theorem ZKi {m:Zo} {v:List Bool} {x:List Int} (hm:Zy m=true) (hd:Dec m v x) {i k:Nat} (hi:i<m.1.length) (hk:k<Zej m i):v.getD (ZbR m i k - 1).toNat false=decide (x.getD i 0=k):=by
 have h:=hd.2 i hi k ((ZfC hm hi).1 hk)
 unfold trV at h
 rw[←h]
 congr 1
 unfold ZbR
 omega
theorem ZKk {m:Zo} {v:List Bool} {x:List Int} (hm:Zy m=true) (hd:Dec m v x) {i:Nat} (hi:i<m.1.length):x.length=m.1.length∧0≤x.getD i 0∧x.getD i 0<Zej m i:=by
 obtain⟨x1,x2⟩:=Zcu hd.1
 have:=x2 i (by omega)
 have:=ZsY hm hi
 exact⟨x1,by omega,by omega⟩
theorem ZCZ {m:Zo} {v:List Bool} {x:List Int} (h:Zek m) (hm:Zy m=true) (hv:v.length=12) (hd:Dec m v x):ZgL m v=some (true,x):=by
 obtain⟨m1,m2,m3⟩:=ZcN hm
 obtain⟨x1,x2⟩:=Zcu hd.1
 unfold ZgL
 rw[Zgb m h,Ze,hm,cnt,Zdh (by omega)]
 refine ZK (f:=Zg9 m v) (fun s:Int×List Int=>∃i:Nat,s.1=i∧i≤m.1.length∧s.2=x.take i) (fun s=>m.1.length - s.1.toNat) (fun _=>(true,x)) ?_ _ ⟨0,rfl,Nat.zero_le _,rfl⟩
 rintro⟨s,out⟩ ⟨i,hi1,hi,ho⟩
 dsimp only at hi1 ho
 subst hi1
 unfold Zg9
 dsimp only
 rcases Xag i m.1.length with q|q
 ·left
  obtain⟨_,d1,d2⟩:=ZKk hm hd q
  have h4:=Zm5 hm q
  have hvl:=ZK9 m i
  have hol:out.length=i:=by rw[ho,XaB];omega
  have hl:loop (Zha v i (ZdG m i)) ((0:Int),(0:Int),out)=some (Sum.inl ((i:Int)+1,out++[x.getD i 0]):(Int×List Int)⊕(Bool×List Int)):=by
   refine ZK (fun s:Int×Int×List Int=>∃k:Nat,s.2.1=k∧k≤Zej m i∧s.1=(if x.getD i 0<k then 1 else 0)∧s.2.2=(if x.getD i 0<k then out++[x.getD i 0]else out)) (fun s=>Zej m i - s.2.1.toNat) (fun _=>_) ?_ _ ⟨0,rfl,Nat.zero_le _,by dsimp only;rw[if_neg (by omega)],by dsimp only;rw[if_neg (by omega)]⟩
   rintro⟨c,s,o⟩ ⟨k,hk1,hk,hc,ho2⟩
   dsimp only at hk1 hc ho2
   subst hk1
   have hcb:0≤c∧c≤1:=by rw[hc];split<;>omega
   have hob:o.length≤6:=by
    rw[ho2]
    split
    ·rw[Xal,Xav];omega
    ·omega
   unfold Zha
   dsimp only
   rcases Xag k (Zej m i)with q2|q2
   ·left
    have rm:=Zdn hm q ((ZfC hm q).1 q2)
    have hda:=ZKi hm hd q q2
    rw[Zc (by omega),Zb ⟨by omega,by omega⟩,Xab,ZMG q2,Zf (by omega) (by omega),Zb ⟨by omega,by omega⟩,hda]
    by_cases e:x.getD i 0=k
    ·rw[Xad e,ctt,Zb (by simp only[Zl,Xaq,Xap];omega),Zf (by omega) (by omega),Zf (by omega) (by omega)]
     refine⟨_,rfl,⟨k+1,by simp,by omega,?_,?_⟩,by (try dsimp only)<;>omega,rfl⟩
     ·dsimp only
      rw[hc,if_neg (by omega),if_pos (by omega)]
      rfl
     ·dsimp only
      rw[ho2,if_neg (by omega),if_pos (by omega),e]
    ·rw[decide_eq_false e,cff,Zf (by omega) (by omega)]
     refine⟨_,rfl,⟨k+1,by simp,by omega,?_,?_⟩,by (try dsimp only)<;>omega,rfl⟩
     ·dsimp only
      rw[hc]
      by_cases e2:x.getD i 0<k
      ·rw[if_pos e2,if_pos (by omega)]
      ·rw[if_neg e2,if_neg (by omega)]
     ·dsimp only
      rw[ho2]
      by_cases e2:x.getD i 0<k
      ·rw[if_pos e2,if_pos (by omega)]
      ·rw[if_neg e2,if_neg (by omega)]
   ·right
    rw[if_pos (by omega)]at hc ho2
    rw[Zd (by omega),hc,ho2]
    unfold ZkR
    dsimp only
    rw[Zdh (by omega),Zf (by omega) (by omega)]
    rfl
  rw[Zc (by omega),Zve hm q,Ze,hl]
  exact⟨_,rfl,⟨i+1,by simp,by omega,by dsimp only;rw[ho,Zqi 0 (by omega)]⟩,by (try dsimp only)<;>omega,rfl⟩
 ·right
  have:i=m.1.length:=by omega
  rw[Zd (by omega),ho,this,←x1,XaC]
theorem ZDh {m:Zo} {v:List Bool} {x:List Int} (h:Zek m) (hm:Zy m=true) (hv:v.length=12) (hd:Dec m v x):ZjL m v=some (true,x):=by
 obtain⟨m1,m2,m3⟩:=ZcN hm
 obtain⟨x1,x2⟩:=Zcu hd.1
 unfold ZjL
 rw[Zm6 m h,Ze,hm,cnt,Zdh (by omega)]
 refine ZK (f:=Zhi m v) (fun s:Int×List Int=>∃i:Nat,s.1=i∧i≤m.1.length∧s.2=x.take i) (fun s=>m.1.length - s.1.toNat) (fun _=>(true,x)) ?_ _ ⟨0,rfl,Nat.zero_le _,rfl⟩
 rintro⟨s,out⟩ ⟨i,hi1,hi,ho⟩
 dsimp only at hi1 ho
 subst hi1
 unfold Zhi
 dsimp only
 rcases Xag i m.1.length with q|q
 ·left
  obtain⟨_,d1,d2⟩:=ZKk hm hd q
  have h4:=Zm5 hm q
  have hz:=ZsY hm q
  have hol:out.length=i:=by rw[ho,XaB];omega
  have hl:loop (Zhj m v i out) ((-1:Int),(0:Int),(0:Int))=some (Sum.inl ((i:Int)+1,out++[x.getD i 0]):(Int×List Int)⊕(Bool×List Int)):=by
   refine ZK (fun s:Int×Int×Int=>∃k:Nat,s.2.2=k∧k≤Zej m i∧s.2.1=(if x.getD i 0<k then 1 else 0)∧s.1=(if x.getD i 0<k then x.getD i 0 else -1)) (fun s=>Zej m i - s.2.2.toNat) (fun _=>_) ?_ _ ⟨0,rfl,Nat.zero_le _,by dsimp only;rw[if_neg (by omega)],by dsimp only;rw[if_neg (by omega)]⟩
   rintro⟨v1,c,s⟩ ⟨k,hk1,hk,hc,hv1⟩
   dsimp only at hk1 hc hv1
   subst hk1
   have hcb:0≤c∧c≤1:=by rw[hc];split<;>omega
   unfold Zhj
   dsimp only
   rw[Zb ⟨by omega,by omega⟩,Xab]
   rcases Xag k (Zej m i)with q2|q2
   ·left
    have rm:=Zdn hm q ((ZfC hm q).1 q2)
    have hda:=ZKi hm hd q q2
    have eb:=ZiQ hm q (k:=k) (by omega)
    rw[show (1:Int)+k+ZO m i=ZbR m i k from rfl]at eb
    rw[Zc (by omega),eb,Ze,Zf (by omega) (by omega),Zb ⟨by omega,by omega⟩,hda]
    by_cases e:x.getD i 0=k
    ·rw[Xad e,ctt,Zf (by omega) (by omega),Zf (by omega) (by omega)]
     refine⟨_,rfl,⟨k+1,by simp,by omega,?_,?_⟩,by (try dsimp only)<;>omega,rfl⟩
     ·dsimp only
      rw[hc,if_neg (by omega),if_pos (by omega)]
      rfl
     ·dsimp only
      rw[if_pos (by omega),e]
    ·rw[decide_eq_false e,cff,Zf (by omega) (by omega)]
     refine⟨_,rfl,⟨k+1,by simp,by omega,?_,?_⟩,by (try dsimp only)<;>omega,rfl⟩
     ·dsimp only
      rw[hc]
      by_cases e2:x.getD i 0<k
      ·rw[if_pos e2,if_pos (by omega)]
      ·rw[if_neg e2,if_neg (by omega)]
     ·dsimp only
      rw[hv1]
      by_cases e2:x.getD i 0<k
      ·rw[if_pos e2,if_pos (by omega)]
      ·rw[if_neg e2,if_neg (by omega)]
   ·right
    rw[if_pos (by omega)]at hc hv1
    rw[Zd (by omega),hc,hv1,Zdh (by omega),Zb (by simp only[Zl,Xaq,Xap];omega),Zf (by omega) (by omega)]
  rw[Zc (by omega),hl]
  exact⟨_,rfl,⟨i+1,by simp,by omega,by dsimp only;rw[ho,Zqi 0 (by omega)]⟩,by (try dsimp only)<;>omega,rfl⟩
 ·right
  have:i=m.1.length:=by omega
  rw[Zd (by omega),ho,this,←x1,XaC]
end Go.AE.Y
namespace Go.AE.Y
open Go Go.AE
set_option maxHeartbeats 400000
theorem ZFH {l:List Int} (h:ZcV l=true):ZG (ZjH l)=true∧(ZjH l).1.length≤12:=by
 refine⟨Zuh (fun x hx=>(ZfV h).1 x ((Zhx h x).1 hx)) (Zpu h),?_⟩
 show (Z4 (Zbo l)).length≤12
 unfold Z4
 rw[Xak]
 exact ZmZ l
theorem ZFI {vs:List Int} (h1:∀x∈vs,1≤x∧x≤12) (h2:vs.Pairwise (· < ·)) (h3:1≤vs.length) (h4:vs.length≤12):ZG (ZjK vs)=true∧(ZjK vs).1.length≤12:=by
 have hm:∀t∈(ZjK vs).1,∃x∈vs,t=(1,0 - x):=fun t ht=>by
  have ht:t∈Z4 (Zbe vs):=ht
  rw[←ZBW]at ht
  obtain⟨x,hx,e⟩:=XaF.1 ht
  exact⟨x,hx,e.symm⟩
 refine⟨ZkL.2 ⟨fun t ht=>?_,?_,?_,?_⟩,?_⟩
 ·obtain⟨x,hx,rfl⟩:=hm t ht
  have:=h1 x hx
  exact⟨Zz.2 (by (try dsimp only)<;>omega),by (try dsimp only)<;>omega,by (try dsimp only)<;>omega⟩
 ·show (Z4 (Zbe vs)).Pairwise _
  rw[←ZBW,List.pairwise_map]
  refine h2.imp_of_mem (fun {a b} ha hb hab=>?_)
  have:=h1 a ha
  have:=h1 b hb
  unfold vof
  dsimp only
  omega
 ·show 0≤(vs.length:Int) - 1
  omega
 ·show (vs.length:Int) - 1≤20000
  omega
 ·show (Z4 (Zbe vs)).length≤12
  rw[←ZBW,Xak]
  exact h4
theorem ZK8 (m:Zo) (i:Nat):(ZdG m i).Pairwise (· < ·):=by
 unfold ZdG
 rw[List.pairwise_map]
 refine List.pairwise_lt_range.imp (fun h=>?_)
 unfold ZbR
 omega
theorem ZMA {l:List Int} (h:l.Nodup):(Znu l).Pairwise (· < ·):=by
 have h1:=ZEg l
 have h2:(Znu l).Nodup:=(Znv l).nodup_iff.2 h
 exact(h1.and h2).imp (fun h=>by have:=h.1;have:=h.2;omega)
theorem ZM0 {m:Zo} (hm:Zy m=true):∀c∈Zcd m,ZG c=true∧c.1.length≤12:=fun c hc=>by
 unfold Zcd at hc
 rcases List.mem_append.1 hc with q|q
 ·obtain⟨i,hi,hc⟩:=XaL.1 q
  have hi:=Xax.1 hi
  obtain⟨v1,_,_,v4,v5⟩:=ZwV hm hi
  unfold Znh at hc
  rcases XaA.1 hc with e|e
  ·rw[e];exact ZFH v1
  ·rw[Xah.1 e]
   exact ZFI (ZA4 hm hi) (ZK8 m i) v4 (by omega)
 ·obtain⟨r,hr,hc⟩:=XaL.1 q
  have ho:=ZqP hm hr
  unfold ZoC at hc
  by_cases k1:r.1=1
  ·rw[if_pos k1,Xah]at hc
   rw[hc]
   obtain⟨e,h⟩:=ZwE (ZGh hm ho k1)
   refine⟨h,?_⟩
   unfold Zsf
   rw[e]
   exact ZqO _ 12
  ·rw[if_neg k1]at hc
   by_cases k2:r.1=2
   ·rw[if_pos k2]at hc
    obtain⟨k,hk,hc⟩:=XaL.1 hc
    have hin:=Zwa hm ho k
    have hnd:=(ZoS hm ho (k:=k)).1
    by_cases q2:1<(ZeA m r k).length
    ·rw[if_pos q2,Xah]at hc
     rw[hc]
     have hl:=(Znv (ZeA m r k)).length_eq
     exact ZFI (fun x hx=>hin.1 x ((Znv _).mem_iff.1 hx)) (ZMA hnd) (by omega) (by omega)
    ·rw[if_neg q2]at hc
     exact absurd hc Xay
   ·rw[if_neg k2]at hc
    obtain⟨vals,hv,rfl⟩:=XaF.1 hc
    have hcell:=(Zvo (ZB7 hm ho)).1 (XaM.1 hv).1
    exact ZFH (Zwt hm ho hcell).1
theorem ZAf {m:Zo} {c x:List Int} {v:List Bool} (hm:Zy m=true) (hd:Dec m v x):∀n,n≤m.1.length→ZeF (Zdu m c m.1.length) v (ZO m n).toNat=0 - Z1 c x n
 |0,_=>by
  show ZeF _ _ (Znb []).toNat=0 - 0
  rfl
 |n+1,h=>by
  obtain⟨b0,s0,s3,b1,b12⟩:=Zf3 hm (show n<m.1.length by omega)
  obtain⟨x1,x2⟩:=Zcu hd.1
  have hxn:=x2 n (by omega)
  have ih:=ZAf (c:=c) hm hd n (by omega)
  have hb:=ZCj (net:=Zdu m c m.1.length) (v:=v) (b:=(ZO m n).toNat) (c:=c.getD n 0) (x:=x.getD n 0) (s:=m.1.getD n 0) hxn
   (fun k hk=>by
    have:=ZGo (c:=c) hm m.1.length (Nat.le_refl _) n (by omega) k hk
    rwa [show 1+k+(ZO m n).toNat=(ZO m n).toNat+k+1 by omega]at this)
   (fun k hk=>by
    have:=hd.2 n (by omega) k hk
    unfold trV at this
    rwa [show ((k:Int)+ZO m n).toNat=(ZO m n).toNat+k by omega]at this)
   (m.1.getD n 0+1).toNat (by omega)
  rw[show (ZO m (n+1)).toNat=(ZO m n).toNat+(m.1.getD n 0+1).toNat by omega,hb,ih,if_pos (by omega),Zjh]
  rw[Int.sub_mul]
  omega
theorem ZJJ {m:Zo} {c x:List Int} {v:List Bool} {most:Int} (hm:Zy m=true) (hd:Dec m v x):ZY v (ZcW (Zdu m c m.1.length) 12,max 0 (Zbt (Zdu m c m.1.length) (0 - most) 12))=decide (Z1 c x x.length≤most):=by
 obtain⟨x1,x2⟩:=Zcu hd.1
 have hb:=ZgA hm m.1.length (Nat.le_refl _)
 obtain⟨p1,p2⟩:=ZDs (net:=Zdu m c m.1.length) (v:=v) (b:=0 - most) 12
 have h1:=ZAf (c:=c) hm hd m.1.length (Nat.le_refl _)
 have h2:=ZEl (net:=Zdu m c m.1.length) (v:=v) (b:=(ZO m m.1.length).toNat) (fun j hj=>ZrP hm m.1.length (Nat.le_refl _) j (Or.inr hj)) (12 - (ZO m m.1.length).toNat)
 rw[show (ZO m m.1.length).toNat+(12 - (ZO m m.1.length).toNat)=12 by omega,h1,←x1]at h2
 unfold ZY
 dsimp only
 rw[←x1]at p1 p2 ⊢
 generalize ZcF v (ZcW (Zdu m c x.length) 12)=S at p1 p2 ⊢
 generalize ZeF (Zdu m c x.length) v 12=T at p1 h2
 generalize Zbt (Zdu m c x.length) (0 - most) 12=N at p1 ⊢
 by_cases q:Z1 c x x.length≤most
 ·rw[Xad q]
  exact Xad (by omega)
 ·rw[decide_eq_false q]
  exact decide_eq_false (by omega)
def obC (m:Zo) (c:List Int) (most:Int):Zbx:=(ZcW (Zdu m c m.1.length) 12,max 0 (Zbt (Zdu m c m.1.length) (0 - most) 12))
theorem ZBT {m:Zo} {c:List Int} {most:Int} (hm:Zy m=true) (hc:Zgi m c=true) (hb : -1000≤most∧most≤1000):ZsQ m c most=(true,(obC m c most).2,(obC m c most).1)∧ZG (obC m c most)=true∧(obC m c most).1.length≤12:=by
 obtain⟨c1,c2⟩:=ZBU hc
 have hn:∀j,-1000≤(Zdu m c m.1.length).getD j 0∧(Zdu m c m.1.length).getD j 0≤1000:=fun j=>by
  have:=Zwz hm c2 m.1.length (Nat.le_refl _) j
  omega
 obtain⟨p1,p2⟩:=ZAQ (net:=Zdu m c m.1.length) 12 (Nat.le_refl _) hn
 have hneg:=Zq1 (net:=Zdu m c m.1.length) (b:=0 - most) (K:=1000) (by omega) (fun j=>by have:=hn j;omega) 12
 have hcon:ZG (ZcW (Zdu m c m.1.length) 12,max 0 (Zbt (Zdu m c m.1.length) (0 - most) 12))=true:=ZkL.2 ⟨fun t ht=>(p1 t ht).1,p2,by (try dsimp only)<;>omega,by (try dsimp only)<;>omega⟩
 refine⟨?_,hcon,ZqO _ 12⟩
 unfold ZsQ
 rw[hm,hc,Xad hb.1,Xad hb.2,Bool.and_self,Bool.and_self,ctt]
 unfold Zc2
 rw[hcon,ctt]
 rfl
theorem ZIt {m:Zo} {c x:List Int} {v:List Bool} {most:Int} (hm:Zy m=true) (hd:Dec m v x):ZY v (obC m c most)=decide (Z1 c x x.length≤most):=ZJJ hm hd
theorem ZuD {m:Zo} {c x:List Int} (hm:Zy m=true) (hc:Zgi m c=true) (hx:ZJ m x=true):(∀i,i<x.length → -27≤c.getD i 0*x.getD i 0∧c.getD i 0*x.getD i 0≤27)∧c.length=x.length∧x.length≤5∧1≤x.length∧∀n:Nat,n≤x.length → -27*(n:Int)≤Z1 c x n∧Z1 c x n≤27*n:=by
 obtain⟨c1,c2⟩:=ZBU hc
 obtain⟨x1,x2⟩:=Zcu hx
 obtain⟨m1,m2,_⟩:=ZcN hm
 have hb:∀i,i<x.length → -27≤c.getD i 0*x.getD i 0∧c.getD i 0*x.getD i 0≤27:=fun i hi=>by
  have h1:=x2 i hi
  have h2:=Zm5 hm (i:=i) (by omega)
  have h3:=ZsY hm (i:=i) (by omega)
  exact ZBR (c2 i) ⟨h1.1,by omega⟩
 refine⟨hb,by omega,by omega,by omega,fun n=>?_⟩
 induction n with
 |zero=>intro _;exact⟨Xat _,Xat _⟩
 |succ n ih=>
  intro hn
  have:=ih (by omega)
  have:=hb n (by omega)
  rw[Zjh]
  omega
end Go.AE.Y
namespace Go.AE.Y
open Go Go.AE
set_option maxHeartbeats 400000
def conv (r:VR):SR:=(bif r.1 then 1 else bif r.2.2.1 then 0 else 2,r.2.1,r.2.2.2.1,r.2.2.2.2.1,r.2.2.2.2.2)
def ZwC (r:VR):Prop:=r.1=false→r.2.2.2.1=[]
theorem ZM3 {D:List Int} {L:Zv} {S:List ZE} {fuel:Int} {rec1:List Int→Int→Bool→Zv→List ZE→Option VR} {rec2:Int→List Int→Zv→List ZE→Option SR}
  (hrec:∀(l:Int) (L':Zv) (S':List ZE) (f':Int),Zck (D++[l])→Zbv L'→L'.length≤400+S'.length→S'.length≤1000→Zg7 S'→(0≤f'∧f'≤2000)→∃r,rec1 (D++[l]) f' false L' S'=some r∧ZfQ (D++[l]) L' S' f' r∧rec2 f' (D++[l]) L' S'=some (conv r)∧(Zg7 r.2.2.2.2.2∧ZwC r))
  (hD:Zck D) (hL:Zbv L) (hl:L.length≤400+S.length) (hS:S.length<1000) (hw:Zg7 S) (hf:1≤fuel∧fuel≤2000) {r:VR} {q:SR}
  (e:ZW D fuel false L S rec1 (Zd7 D D.length)=some r) (e2:Zct fuel D L S rec2 (Zd7 D D.length)=some q):q=conv r∧ZwC r:=by
 have hd:=Zgm hD
 obtain⟨p1,p2,p3,p4,p5⟩:=Zj0 hD D.length (Nat.le_refl _)
 unfold ZW at e
 unfold Zct at e2
 obtain⟨⟨i,out⟩,e1,⟨t1,t2,t3⟩,hc⟩:=Zfm hL (by omega) p1
 dsimp only at t1 t2 t3 hc
 rw[e1,Ze]at e
 rw[ZDb hL (by omega) p1,e1,Ze]at e2
 dsimp only at e e2
 rcases hc with⟨rfl,hk⟩|⟨h0,hk⟩
 ·rw[Zc (by omega)]at e
  rw[Zd (by omega)]at e2
  obtain⟨r4,e4,h⟩:=ZoV t1
  obtain⟨r5,e5,_⟩:=Zvx t1
  have e6:=ZKs e4 e5
  rw[e4,Ze]at e
  rw[e5,Ze]at e2
  rcases h with⟨rfl,ht⟩|⟨k,hk12,hk0,rfl⟩
  ·dsimp only at e e6
   subst e6
   rw[ctt]at e
   rw[Zx rfl]at e2
   have h12:=t1.1
   have e7:loop (ZcZ fuel L S (-1,out)) ((0:Int),([]:List Bool))=some (1,fuel - 1,out.map (fun n=>decide (0<n)),L,S):=by
    refine(ZbZ (f:=ZcZ fuel L S (-1,out)) out 0 (fun n=>decide (0<n)) [] (fun o=>(1,fuel - 1,o,L,S)) (fun i o hi ho=>?_) ?_)
    ·unfold ZcZ
     dsimp only
     rw[Zc (by omega),Zb ⟨by omega,by omega⟩,Xab,Zb (by simp only[Zl,Xaq,Xap];simp at ho;omega),Zf (by omega) (by omega)]
    ·unfold ZcZ Zle
     dsimp only
     rw[Zd (by omega),Xau]
     rfl
   rw[e7]at e2
   have a1:=Option.some.inj e
   have a2:=Option.some.inj e2
   rw[←a1,←a2]
   exact⟨rfl,fun h=>by cases h⟩
  ·dsimp only at e e6
   subst e6
   rw[cff,Zf (by omega) (by omega)]at e
   rw[Zu (by omega),Zf (by omega) (by omega)]at e2
   have hvar:∀l:Int,vof l=(k:Int)+1→∀i,i<D.length→vof (D.getD i 0)≠vof l:=fun l hl i hi=>by
    rw[hl]
    exact p3 k (t3 k hk0) i hi
   refine ZAI (fun (s:Int×Int×Bool×Zv×List ZE) (t:Int×Int×Zv×List ZE)=>t=(s.1,s.2.1,s.2.2.2.1,s.2.2.2.2)∧∃n:Nat,s.1=n∧n≤2∧(0≤s.2.1∧s.2.1≤fuel)∧s.2.2.1=false∧Ext L S s.2.2.2.1 s.2.2.2.2∧Zg7 s.2.2.2.2) (fun r q=>q=conv r∧ZwC r) ?_ ⟨rfl,0,rfl,by omega,⟨by (try dsimp only)<;>omega,by (try dsimp only)<;>omega⟩,rfl,Ext.refl hL (by omega),hw⟩ e e2
   rintro⟨s,f,m,L',S'⟩ t ⟨ht,n,hs,hn,hf',hm,hx,hw'⟩ a b ha hb
   dsimp only at ht hs hf' hm hx hw'
   subst ht
   subst hs
   subst hm
   unfold Zbz at ha
   unfold Zet at hb
   dsimp only at ha hb
   rcases Xag n 2 with h1|h1
   ·have hlit:∃l,[((k:Int)+1),(0 - ((k:Int)+1))].getD n 0=l∧vof l=(k:Int)+1∧ZZ l=true:=by
     have:n=0∨n=1:=by omega
     rcases this with rfl|rfl
     ·exact⟨(k:Int)+1,rfl,by unfold vof;omega,Zz.2 ⟨by omega,by omega,by omega⟩⟩
     ·exact⟨0 - ((k:Int)+1),rfl,by unfold vof;omega,Zz.2 ⟨by omega,by omega,by omega⟩⟩
    obtain⟨l,el,hv,hli⟩:=hlit
    have hlen:=hx.len
    have htop:=hx.top
    obtain⟨⟨ok,f8,mu,vals,L8,S8⟩,e8,⟨f1,x1,sa1,no1⟩,e9,w8,n8⟩:=hrec l L' S' f (ZqF hD hli (hvar l hv)) hx.good (by omega) htop hw' ⟨by omega,by omega⟩
    rw[Zc (by simp;omega),Zb ⟨by omega,by simp;omega⟩,Xab,el,Zmy (by omega),Ze,Zb (by simp[Zl];omega),e8,Ze]at ha
    rw[Zc (by simp;omega),Zb ⟨by omega,by simp;omega⟩,Zb (by simp[Zl];omega),Zb (by simp[Zl];omega),Xau,Xab,el,e9,Ze]at hb
    unfold Zhm conv at hb
    dsimp only at ha hb f1 x1 w8
    cases ok with
    |true=>
     rw[ctt]at ha hb
     rw[Zd9 (by decide)]at hb
     exact Or.inr ⟨_,_,(Option.some.inj ha).symm,(Option.some.inj hb).symm,rfl,fun h=>by cases h⟩
    |false=>
     rw[cff]at ha hb
     cases mu with
     |true=>
      rw[ctt]at ha hb
      rw[Zd9 (by decide)]at hb
      exact Or.inr ⟨_,_,(Option.some.inj ha).symm,(Option.some.inj hb).symm,rfl,fun _=>n8 rfl⟩
     |false=>
      rw[cff,Zf (by omega) (by omega)]at ha
      rw[cff,Zdh rfl,Zf (by omega) (by omega)]at hb
      exact Or.inl ⟨_,_,(Option.some.inj ha).symm,(Option.some.inj hb).symm,rfl,n+1,by simp,by omega,⟨by (try dsimp only)<;>omega,by (try dsimp only)<;>omega⟩,rfl,hx.trans x1,w8⟩
   ·have hn2:n=2:=by omega
    have hlen:=hx.len
    rw[Zd (by simp;omega)]at ha hb
    unfold Zdl at ha
    unfold Zhl at hb
    dsimp only at ha hb
    by_cases q3:1000≤(S'.length:Int)
    ·rw[Zc q3]at ha hb
     exact Or.inr ⟨_,_,(Option.some.inj ha).symm,(Option.some.inj hb).symm,rfl,fun _=>rfl⟩
    ·rw[Zd q3]at ha hb
     unfold Zbg at ha
     dsimp only at ha
     rw[ZCW hD (by omega) (by omega),Ze]at ha
     rw[ZGe hD (by omega) (by omega),Ze]at hb
     exact Or.inr ⟨_,_,(Option.some.inj ha).symm,(Option.some.inj hb).symm,rfl,fun _=>rfl⟩
 ·rw[Zd (by omega)]at e
  rw[Zc h0]at e2
  unfold Zbg at e
  dsimp only at e
  rw[ZCW hD (by omega) (by omega),Ze]at e
  rw[ZGe hD (by omega) (by omega),Ze]at e2
  have a1:=Option.some.inj e
  have a2:=Option.some.inj e2
  rw[←a1,←a2]
  exact⟨rfl,fun _=>rfl⟩
theorem ZMu {D:List Int} {L:Zv} {S:List ZE} {fuel:Int} {rec1:List Int→Int→Bool→Zv→List ZE→Option VR} {rec2:Int→List Int→Zv→List ZE→Option SR}
  (hrec:∀(l:Int) (L':Zv) (S':List ZE) (f':Int),Zck (D++[l])→Zbv L'→L'.length≤400+S'.length→S'.length≤1000→Zg7 S'→(0≤f'∧f'≤2000)→∃r,rec1 (D++[l]) f' false L' S'=some r∧ZfQ (D++[l]) L' S' f' r∧rec2 f' (D++[l]) L' S'=some (conv r)∧(Zg7 r.2.2.2.2.2∧ZwC r))
  (hD:Zck D) (hL:Zbv L) (hl:L.length≤400+S.length) (hS:S.length≤1000) (hw:Zg7 S) (hf:0≤fuel∧fuel≤2000) {r:VR} {q:SR}
  (e:ZM rec1 D fuel false L S=some r) (e2:ZbA rec2 fuel D L S=some q):q=conv r∧ZwC r:=by
 have hd:=Zgm hD
 unfold ZM at e
 unfold ZbA at e2
 by_cases q1:fuel=0
 ·rw[Zx q1]at e e2
  have a1:=Option.some.inj e
  have a2:=Option.some.inj e2
  rw[←a1,←a2]
  exact⟨rfl,fun _=>rfl⟩
 rw[Zu q1]at e e2
 by_cases q2:1000≤(S.length:Int)
 ·rw[Zc q2]at e e2
  have a1:=Option.some.inj e
  have a2:=Option.some.inj e2
  rw[←a1,←a2]
  exact⟨rfl,fun _=>rfl⟩
 rw[Zd q2,Zf (by omega) (by omega),Zb ⟨by omega,by simp only[Zl];omega,rfl⟩]at e e2
 refine ZAI (fun (s:Int×List Int) (t:Int×List Int)=>s=t∧∃n:Nat,s.1=n∧n≤D.length∧s.2=Zd7 D n) (fun r q=>q=conv r∧ZwC r) ?_ ⟨rfl,0,rfl,Nat.zero_le _,rfl⟩ e e2
 rintro⟨s,o⟩ t ⟨ht,n,hs,hn,ho⟩ a b ha hb
 dsimp only at hs ho
 subst ht
 subst hs
 subst ho
 unfold Zbh at ha
 unfold ZdF at hb
 dsimp only at ha hb
 rcases Xag n D.length with h1|h1
 ·have hli:=hD.1 _ (ZA (l:=D) (i:=n) (d:=0) h1)
  have hlit:=Zz.1 hli
  have h12:=(Zj0 hD n hn).1.1
  have hvv:vof (D.getD n 0)=if 0<D.getD n 0 then D.getD n 0 else 0 - D.getD n 0:=by unfold vof;split<;>omega
  rw[Zc (by omega),Zb ⟨by omega,by omega⟩,Xab,Zo8 hli (Zj0 hD n hn).1,Ze,Zf (by omega) (by omega)]at hb
  have ea:a = .inl ((n:Int)+1,Zd7 D (n+1)):=by
   rw[Zc (by omega),Zb ⟨by omega,by omega⟩,Xab,Zef (by omega),Ze]at ha
   have e:Zd7 D (n+1)=ZdO (D.getD n 0) (Zd7 D n):=rfl
   rw[e]
   unfold ZdO
   by_cases q:0<D.getD n 0
   ·rw[if_pos q]at hvv
    rw[hvv,Zf (by omega) (by omega),Zb ⟨by omega,by omega⟩,Zd (by omega),Zf (by omega) (by omega)]at ha
    rw[if_pos q]
    exact(Option.some.inj ha).symm
   ·rw[if_neg q]at hvv
    rw[hvv,Zf (by omega) (by omega),Zb ⟨by omega,by omega⟩,Zc (by omega),Zf (by omega) (by omega),Zf (by omega) (by omega),Zb ⟨by omega,by rw[Xam];omega⟩,Zf (by omega) (by omega),List.set_set]at ha
    rw[if_neg q]
    exact(Option.some.inj ha).symm
  exact Or.inl ⟨_,_,ea,(Option.some.inj hb).symm,rfl,n+1,by simp,by omega,rfl⟩
 ·have:n=D.length:=by omega
  subst this
  rw[Zd (by omega)]at ha hb
  cases hj:ZW D fuel false L S rec1 (Zd7 D D.length)with
  |none=>rw[hj]at ha;cases ha
  |some r=>
   cases hk:Zct fuel D L S rec2 (Zd7 D D.length)with
   |none=>rw[hk]at hb;cases hb
   |some q=>
    rw[hj]at ha
    rw[hk]at hb
    exact Or.inr ⟨r,q,(Option.some.inj ha).symm,(Option.some.inj hb).symm,ZM3 hrec hD hL hl (by omega) hw ⟨by omega,by omega⟩ hj hk⟩
theorem ZDR {D:List Int} {L:Zv} {S:List ZE} {fuel:Int} {rec1:List Int→Int→Bool→Zv→List ZE→Option VR} {rec2:Int→List Int→Zv→List ZE→Option SR}
  (hrec:∀(l:Int) (L':Zv) (S':List ZE) (f':Int),Zck (D++[l])→Zbv L'→L'.length≤400+S'.length→S'.length≤1000→Zg7 S'→(0≤f'∧f'≤2000)→∃r,rec1 (D++[l]) f' false L' S'=some r∧ZfQ (D++[l]) L' S' f' r∧rec2 f' (D++[l]) L' S'=some (conv r)∧(Zg7 r.2.2.2.2.2∧ZwC r))
  (hrec1:∀(l:Int) (L':Zv) (S':List ZE) (f':Int),Zck (D++[l])→Zbv L'→L'.length≤400+S'.length→S'.length≤1000→(0≤f'∧f'≤2000)→∃r,rec1 (D++[l]) f' false L' S'=some r∧ZfQ (D++[l]) L' S' f' r)
  (hrec2:∀(l:Int) (L':Zv) (S':List ZE) (f':Int),Zck (D++[l])→Zbv L'→L'.length≤400+S'.length→S'.length≤1000→Zg7 S'→(0≤f'∧f'≤2000)→∃r,rec2 f' (D++[l]) L' S'=some r∧SeaOk L' S' f' r.2.2.2.1 r.2.2.2.2 r.2.1)
  (hD:Zck D) (hL:Zbv L) (hl:L.length≤400+S.length) (hS:S.length≤1000) (hw:Zg7 S) (hf:0≤fuel∧fuel≤2000) :
  ∃r,ZM rec1 D fuel false L S=some r∧ZfQ D L S fuel r∧ZbA rec2 fuel D L S=some (conv r)∧(Zg7 r.2.2.2.2.2∧ZwC r):=by
 obtain⟨r,e,hr⟩:=ZCl hrec1 hD hL hl hS hf
 obtain⟨q,e2,hq⟩:=ZAc hrec2 hD hL hl hS hw hf
 obtain⟨h,hn⟩:=ZMu hrec hD hL hl hS hw hf e e2
 subst h
 exact⟨r,e,hr,e2,hq.few,hn⟩
theorem ZAd:∀(n:Nat) (D:List Int) (L:Zv) (S:List ZE) (fuel:Int),Zck D→Zbv L→L.length≤400+S.length→S.length≤1000→Zg7 S→(0≤fuel∧fuel≤2000)→13≤n+D.length →
  ∃r,ZC n D fuel false L S=some r∧ZfQ D L S fuel r∧Z9 n fuel D L S=some (conv r)∧(Zg7 r.2.2.2.2.2∧ZwC r)
 |0,D,L,S,fuel,hD,_,_,_,_,_,hn=>by have:=Zgm hD;omega
 |n+1,D,L,S,fuel,hD,hL,hl,hS,hw,hf,hn=>by
  show ∃r,ZM (ZC n) D fuel false L S=some r∧ZfQ D L S fuel r∧ZbA (Z9 n) fuel D L S=some (conv r)∧_
  have hlen:∀l:Int,13≤n+(D++[l]).length:=fun l=>by rw[Xal,Xav];omega
  exact ZDR (fun l L' S' f' h1 h2 h3 h4 h5 h6=>ZAd n (D++[l]) L' S' f' h1 h2 h3 h4 h5 h6 (hlen l))
   (fun l L' S' f' h1 h2 h3 h4 h5=>ZA5 n (D++[l]) L' S' f' h1 h2 h3 h4 h5 (hlen l))
   (fun l L' S' f' h1 h2 h3 h4 h5 h6=>ZyZ n (D++[l]) L' S' f' h1 h2 h3 h4 h5 h6 (hlen l)) hD hL hl hS hw hf
end Go.AE.Y
namespace Go.AE.Y
open Go Go.AE
set_option maxHeartbeats 400000
abbrev ZLY:=Int×List Bool×List ZE
structure ZN1 (x:Zv) (f:Int) (r:ZLY):Prop where
 top:r.2.2.length≤1000
 few:Zg7 r.2.2
 steps:r.1≠2→r.2.2=[]
 bad:¬(Ze1 x=true∧0≤f∧f≤2000)→r=(3,[],[])
 good:Ze1 x=true→0≤f∧f≤2000→(r.1=1∧r.2.1.length=12∧Zei x r.2.1)∨(r.1=2∧r.2.1=[]∧∀v,¬Zei x v)∨(r.1=0∧r.2.1=[])
theorem Zyi (f:Int):Zol f=some (decide (0≤f)&&decide (f≤2000)):=by
 unfold Zol
 rw[ZbQ,Ze]
theorem ZMq {r:SR} (htop:r.2.2.2.2.length≤1000) (hw:Zg7 r.2.2.2.2):loop (Zes r) ((0:Int),([]:List ZE))=some (r.1,([]:List Bool),r.2.2.2.2):=by
 have:=ZbZ (f:=Zes r) r.2.2.2.2 zS (fun s=>s) [] (fun o=>(r.1,([]:List Bool),o)) (fun i o hi ho=>?_) ?_
 ·rw[List.map_id']at this
  exact this
 ·have hm:=hw _ (ZA (l:=r.2.2.2.2) (i:=i) (d:=zS) hi)
  change(r.2.2.2.2.getD i (0,(0,(0,([],0))))).2.2.2.1.length≤12 at hm
  unfold Zes
  dsimp only
  rw[Zc (by omega),Zb ⟨by omega,by omega⟩,Xab,ZKz _ (by omega),Ze]
  dsimp only
  rw[Zb (by simp only[Zl,Xaq,Xap];simp at ho;omega),Zf (by omega) (by omega)]
  rfl
 ·unfold Zes Zla
  dsimp only
  rw[Zd (by omega),Xau,List.map_id']
  rfl
theorem ZJY {x:Zv} (hs:Zjc x) (f:Int):∃r,ZcG x f=some r∧ZjN x f=some r∧ZN1 x f r:=by
 have hnil:Zg7 []:=fun s h=>absurd h Xay
 unfold ZcG ZjN
 rw[ZkT x hs,ZwN x hs,Ze,Ze]
 cases hp:Ze1 x with
 |false=>
  rw[cnf,cnf]
  exact⟨_,rfl,rfl,by simp,hnil,fun _=>rfl,fun _=>rfl,fun h=>by rw[hp]at h;cases h⟩
 |true=>
  rw[cnt,cnt,Zyi,Ze]
  by_cases q1:0≤f
  ·rw[Xad q1,ZNN,Zd (by omega)]
   by_cases q2:f≤2000
   ·rw[Xad q2,cnt,Zd (by omega)]
    have hall:=ZyQ hp
    have hlen:x.length≤400:=by
     unfold Ze1 at hp
     simp only[Xae,Xaf]at hp
     exact hp.2
    have hg:Zbv x:=fun c hc=>⟨hall c hc,hs.2 c hc⟩
    have hd:Zck []:=⟨fun x hx=>absurd hx Xay,fun i j hi=>by simp at hi⟩
    obtain⟨r,e,hv,e2,hw,hn⟩:=ZDR (D:=[]) (L:=x) (S:=[]) (fuel:=f) (rec1:=ZC 64) (rec2:=Z9 64)
     (fun l L' S' f' h1 h2 h3 h4 h5 h6=>ZAd 64 ([]++[l]) L' S' f' h1 h2 h3 h4 h5 h6 (by simp))
     (fun l L' S' f' h1 h2 h3 h4 h5=>ZA5 64 ([]++[l]) L' S' f' h1 h2 h3 h4 h5 (by simp))
     (fun l L' S' f' h1 h2 h3 h4 h5 h6=>ZyZ 64 ([]++[l]) L' S' f' h1 h2 h3 h4 h5 h6 (by simp)) hd hg (by simp;omega) (by simp) hnil ⟨q1,q2⟩
    have e':ZbW 64 [] f false x=some r:=by
     rw[←e]
     exact Zz5 (ZbW 63) [] f false x
    rw[Zpo x (by omega),Ze,e',Ze,Zb (by simp[Zl];omega),Xau,ZFV,e2,Ze]
    have htop:=hv.ext.top
    have hsat:=hv.sat
    have hno:=hv.no
    obtain⟨ok,f8,mu,vals,L8,S8⟩:=r
    dsimp only at htop hw hsat hno
    unfold conv
    dsimp only
    cases ok with
    |true=>
     rw[ctt,ctt,Zd9 (by decide)]
     exact⟨_,rfl,rfl,by simp,hnil,fun _=>rfl,fun h=>absurd ⟨hp,q1,q2⟩ h,fun _ _=>Or.inl ⟨rfl,hsat rfl⟩⟩
    |false=>
     have hvals:vals=[]:=hn rfl
     subst hvals
     rw[cff,cff]
     cases mu with
     |true=>
      rw[ctt,ctt,Zd9 (by decide)]
      exact⟨_,rfl,rfl,by simp,hnil,fun _=>rfl,fun h=>absurd ⟨hp,q1,q2⟩ h,fun _ _=>Or.inr (Or.inr ⟨rfl,rfl⟩)⟩
     |false=>
      rw[cff,cff,Zdh rfl]
      refine⟨_,rfl,ZMq (r:=(2,f8,[],L8,S8)) htop hw,htop,hw,fun h=>absurd rfl h,fun h=>absurd ⟨hp,q1,q2⟩ h,fun _ _=>Or.inr (Or.inl ⟨rfl,rfl,fun v h=>hno rfl rfl v h (fun x hx=>absurd hx Xay)⟩)⟩
   ·rw[decide_eq_false q2,cnf,Zc (by omega)]
    exact⟨_,rfl,rfl,by simp,hnil,fun _=>rfl,fun _=>rfl,fun _ h=>absurd h.2 q2⟩
  ·rw[decide_eq_false q1,show (false&&decide (f≤2000))=false from Xai _,cnf,Zc (by omega)]
   exact⟨_,rfl,rfl,by simp,hnil,fun _=>rfl,fun _=>rfl,fun _ h=>absurd h.1 q1⟩
end Go.AE.Y
namespace Go.AE.Y
open Go Go.AE
set_option maxHeartbeats 400000
def Zdm (m:Zo) (c best:List Int):Zv:=if best=[]then Zcd m else Zcd m++[obC m c (Z1 c best best.length - 1)]
abbrev ZLW:=Int×List Int×List ZE
def ZE3 (m:Zo) (best:List Int):Prop:=best=[]∨(ZJ m best=true∧Zd5 m best=true)
def ZJI (c best:List Int):Nat:=if best=[]then 1000 else(Z1 c best best.length+200).toNat
structure ZMK (Q:Zv→List ZE→Prop) (m:Zo) (c:List Int) (r:ZLW):Prop where
 kind:r.1=0∨r.1=1∨r.1=2
 top:r.2.2.length≤1000
 few:Zg7 r.2.2
 best:ZE3 m r.2.1
 none:r.1=2→r.2.1=[]∧(∀v,¬Zei (Zcd m) v)
 opt:r.1=1→r.2.1≠[]∧(∀v,¬Zei (Zdm m c r.2.1) v)
 steps:r.1≠0→Q (Zdm m c r.2.1) r.2.2
theorem ZAR {m:Zo} {c best:List Int} (hm:Zy m=true) (hc:Zgi m c=true) (hl:(Zcd m).length<400) (hb:ZE3 m best):Zjc (Zdm m c best)∧Ze1 (Zdm m c best)=true∧(best≠[] → -1000≤Z1 c best best.length - 1∧Z1 c best best.length - 1≤1000 ∧ -135≤Z1 c best best.length∧Z1 c best best.length≤135):=by
 have he:=ZM0 hm
 have hv:best≠[] → -1000≤Z1 c best best.length - 1∧Z1 c best best.length - 1≤1000 ∧ -135≤Z1 c best best.length∧Z1 c best best.length≤135:=fun hne=>by
  rcases hb with e|⟨h1,_⟩
  ·exact absurd e hne
  ·obtain⟨_,_,b3,_,b5⟩:=ZuD hm hc h1
   have:=b5 best.length (Nat.le_refl _)
   omega
 have hall:∀x∈Zdm m c best,ZG x=true∧x.1.length≤12:=fun x hx=>by
  unfold Zdm at hx
  by_cases e:best=[]
  ·rw[if_pos e]at hx
   exact he x hx
  ·rw[if_neg e]at hx
   rcases List.mem_append.1 hx with q|q
   ·exact he x q
   ·rw[Xah.1 q]
    have:=hv e
    exact(ZBT hm hc ⟨by omega,by omega⟩).2
 have hlen:(Zdm m c best).length≤400:=by
  unfold Zdm
  split
  ·omega
  ·rw[Xal,Xav];omega
 refine⟨⟨by omega,fun x hx=>by have:=(hall x hx).2;omega⟩,?_,hv⟩
 unfold Ze1
 rw[Xae,Xar,Xaf]
 exact⟨fun x hx=>(hall x hx).1,hlen⟩
theorem ZKM {m:Zo} {c best:List Int} {v:List Bool} (hm:Zy m=true) (hs:Zei (Zdm m c best) v):∃x,Dec m v x∧Zd5 m x=true∧(best≠[]→Z1 c x x.length≤Z1 c best best.length - 1):=by
 have h1:Zei (Zcd m) v:=fun y hy=>hs y (by unfold Zdm;split;exact hy;exact Xa4 _ hy)
 obtain⟨x,hd,hx⟩:=(ZIb hm).1 h1
 refine⟨x,hd,hx,fun hne=>?_⟩
 have h2:=hs (obC m c (Z1 c best best.length - 1)) (by unfold Zdm;rw[if_neg hne];exact Xa2 _ (Xah.2 rfl))
 rw[ZIt hm hd,Xaf]at h2
 exact h2
theorem ZBB {l:List Int} (h:l≠[]):l.isEmpty=false:=by
 cases l with
 |nil=>exact absurd rfl h
 |cons a l=>rfl
theorem ZIl {l:List Int} (h:l≠[]):0<l.length:=List.length_pos_iff.2 h
theorem ZJT {Q:Zv→List ZE→Prop} {m:Zo} {c:List Int} {f:Int} (hQ:∀x r,Zjc x→ZcG x f=some r→r.1=2→r.2.2.length≤1000→Q x r.2.2) (h:Zek m) (hm:Zy m=true) (hc:Zgi m c=true) (hcl:c.length≤1048576) (hl:(Zcd m).length<400) (hf:0≤f∧f≤2000):∀(n:Nat) (best:List Int),ZE3 m best→ZJI c best≤n →
  ∃r:ZLW,loop (ZbK m c f (true,Zcd m)) (Zdm m c best,best)=some r∧loop (Zcs m c f (true,Zcd m)) best=some r∧ZMK Q m c r:=by
 intro n
 induction n with
 |zero=>
  intro best hb hn
  exfalso
  obtain⟨_,_,hv⟩:=ZAR hm hc hl hb
  unfold ZJI at hn
  by_cases e:best=[]
  ·rw[if_pos e]at hn;omega
  ·rw[if_neg e]at hn
   have:=hv e
   omega
 |succ n ih=>
  intro best hb hn
  obtain⟨hs,hp,hv⟩:=ZAR hm hc hl hb
  obtain⟨q,e1,e2,hok⟩:=ZJY hs f
  obtain⟨m1,m2,m3⟩:=ZcN hm
  have hspec:Zcs m c f (true,Zcd m) best=ZcY m f best (Zdm m c best):=by
   unfold Zcs Zdm
   rw[Zb (by simp only[Zl,Xap];omega)]
   by_cases e:best=[]
   ·rw[if_pos e,e,Zd (by simp),Xau]
   ·have hbc:ZJ m best=true:=by
     rcases hb with q|q
     ·exact absurd q e
     ·exact q.1
    obtain⟨b1,b2,b3,b4,b5⟩:=ZuD hm hc hbc
    have:=ZIl e
    have hve:=hv e
    rw[if_neg e,Zc (by omega),ZCf b2 b3 b1,Ze,Zf (by omega) (by omega),ZtK m c _ h hcl,Ze,(ZBT hm hc ⟨by omega,by omega⟩).1]
    unfold Zk9
    dsimp only
    rw[Zb (by simp only[Zl,Xau,Xaq,Xap];omega),Xau]
  rcases hok.good hp hf with⟨q1,q2,q3⟩|⟨q1,q2,q3⟩|⟨q1,q2⟩
  ·
   obtain⟨x,hd,hx,hlt⟩:=ZKM hm q3
   have hxc:=hd.1
   obtain⟨b1,b2,b3,b4,b5⟩:=ZuD hm hc hxc
   have hxne:x≠[]:=fun e=>by rw[e]at b4;simp at b4
   have hbx:=b5 x.length (Nat.le_refl _)
   obtain⟨r,r1,r2,r3⟩:=ih x (Or.inr ⟨hxc,hx⟩) (by
    unfold ZJI at hn ⊢
    rw[if_neg hxne]
    by_cases e:best=[]
    ·rw[if_pos e]at hn;omega
    ·rw[if_neg e]at hn
     have:=hlt e
     have:=hv e
     omega)
   have hj:∀(i1:List Int),Zer m i1 q ()=some (.inl x):=fun i1=>by
    unfold Zer
    rw[Zu (by omega),ZDh h hm q2 hd,Ze]
   have e:Zdm m c x=Zcd m++[obC m c (Z1 c x x.length - 1)]:=by unfold Zdm;rw[if_neg hxne]
   have hi:ZbK m c f (true,Zcd m) (Zdm m c best,best)=some (.inl (Zdm m c x,x)):=by
    rw[e]
    unfold ZbK
    dsimp only
    rw[e1,Ze,Zu (by omega),Zu (by omega),Zdh (by omega),ZCZ h hm q2 hd,Ze,Zi6 b2 b3 b1,Ze,Zf (by omega) (by omega),ZmS m c _ h hcl,Ze,(ZBT hm hc ⟨by omega,by omega⟩).1]
    unfold ZkV
    dsimp only
    rw[Zpo _ (by omega),Ze,Zb (by simp only[Zl,Xaq,Xap];omega),Zb hxne]
   have hs':Zcs m c f (true,Zcd m) best=some (.inl x):=by
    rw[hspec]
    unfold ZcY
    rw[e2,Ze,Zu (by omega),Zu (by omega),hj]
   refine⟨r,?_,?_,r3⟩
   ·rw[ZcO,hi];exact r1
   ·rw[ZcO,hs'];exact r2
  ·
   have hw:=hQ _ _ hs e1 q1 hok.top
   by_cases e:best=[]
   ·refine⟨(2,[],q.2.2),?_,?_,⟨Or.inr (Or.inr rfl),hok.top,hok.few,Or.inl rfl,fun _=>⟨rfl,fun v hv=>q3 v (by unfold Zdm;rw[if_pos e];exact hv)⟩,fun h=>absurd h (by show ¬(2:Int)=1;decide),fun _=>by rw[←e];exact hw⟩⟩
    ·have hi:ZbK m c f (true,Zcd m) (Zdm m c best,best)=some (.inr (2,[],q.2.2)):=by
      unfold ZbK
      dsimp only
      rw[e1,Ze,Zx q1,e]
      rfl
     rw[ZcO,hi]
     rfl
    ·have hs':Zcs m c f (true,Zcd m) best=some (.inr (2,[],q.2.2)):=by
      rw[hspec]
      unfold ZcY
      rw[e2,Ze,Zu (by omega),Zx q1,e,q1]
      rfl
     rw[ZcO,hs']
     rfl
   ·refine⟨(1,best,q.2.2),?_,?_,⟨Or.inr (Or.inl rfl),hok.top,hok.few,hb,fun h=>absurd h (by show ¬(1:Int)=2;decide),fun _=>⟨e,q3⟩,fun _=>hw⟩⟩
    ·have hi:ZbK m c f (true,Zcd m) (Zdm m c best,best)=some (.inr (1,best,q.2.2)):=by
      unfold ZbK
      dsimp only
      rw[e1,Ze,Zx q1,ZBB e,cff,Zx q1]
     rw[ZcO,hi]
     rfl
    ·have hs':Zcs m c f (true,Zcd m) best=some (.inr (1,best,q.2.2)):=by
      have:=ZIl e
      rw[hspec]
      unfold ZcY Zer
      rw[e2,Ze,Zu (by omega),Zx q1,Zu (by omega),Zx q1]
     rw[ZcO,hs']
     rfl
  ·
   refine⟨(0,best,[]),?_,?_,⟨Or.inl rfl,Nat.zero_le _,fun s hs=>absurd hs Xay,hb,fun h=>absurd h (by show ¬(0:Int)=2;decide),fun h=>absurd h (by show ¬(0:Int)=1;decide),fun h=>absurd rfl h⟩⟩
   ·have hi:ZbK m c f (true,Zcd m) (Zdm m c best,best)=some (.inr (0,best,[])):=by
     unfold ZbK
     dsimp only
     rw[e1,Ze,Zu (by omega),Zu (by omega),Zd9 (by omega)]
    rw[ZcO,hi]
    rfl
   ·have hs':Zcs m c f (true,Zcd m) best=some (.inr (0,best,[])):=by
     rw[hspec]
     unfold ZcY
     rw[e2,Ze,Zx q1,q1]
    rw[ZcO,hs']
    rfl
theorem ZJU {Q:Zv→List ZE→Prop} {m:Zo} {c:List Int} (f:Int) (hQ:∀x r,Zjc x→ZcG x f=some r→r.1=2→r.2.2.length≤1000→Q x r.2.2) (h:Zek m) (hcl:c.length≤1048576):∃r:ZLW,ZgP m c f=some r∧ZgW m c f=some r ∧
  (r=(3,[],[])∨((Zy m=true∧Zgi m c=true∧(Zcd m).length<400∧0≤f∧f≤2000)∧ZMK Q m c r)):=by
 unfold ZgP ZgW ZmV
 rw[Zqn m h,Ze,ZxI m h,Ze]
 unfold ZCU
 cases hm:Zy m with
 |false=>
  rw[Xai,cff]
  exact⟨_,rfl,rfl,Or.inl rfl⟩
 |true=>
  rw[Xaj]
  by_cases q4:(Zcd m).length≤400
  case neg=>
   rw[decide_eq_false q4,cff]
   exact⟨_,rfl,rfl,Or.inl rfl⟩
  rw[Xad q4,ctt,ctt,Ze]
  dsimp only
  rw[cnt,Zfz m c hcl,Ze,Zuz m c h hcl,Ze,hm,Xaj,Zyi,Ze]
  by_cases q:(Zcd m).length<400
  case neg=>
   rw[decide_eq_false (by omega),cnf]
   cases Zgi m c with
   |false=>rw[cnf];exact⟨_,rfl,rfl,Or.inl rfl⟩
   |true=>
    rw[cnt]
    by_cases f1:f<0
    ·rw[Zc f1];exact⟨_,rfl,rfl,Or.inl rfl⟩
    rw[Zd f1]
    by_cases f2:2000<f
    ·rw[Zc f2];exact⟨_,rfl,rfl,Or.inl rfl⟩
    rw[Zd f2,Zc (by omega)]
    exact⟨_,rfl,rfl,Or.inl rfl⟩
  rw[Xad (show ((Zcd m).length:Int)<400 by omega),cnt]
  cases hc:Zgi m c with
  |false=>rw[cnf,cnf];exact⟨_,rfl,rfl,Or.inl rfl⟩
  |true=>
   rw[cnt,cnt]
   by_cases f1:f<0
   ·rw[Zc f1,decide_eq_false (show ¬0≤f by omega),Xai,cnf]
    exact⟨_,rfl,rfl,Or.inl rfl⟩
   rw[Zd f1]
   have f1':0≤f:=by omega
   rw[Xad f1',Xaj]
   by_cases f2:2000<f
   ·rw[Zc f2,decide_eq_false (show ¬f≤2000 by omega),cnf]
    exact⟨_,rfl,rfl,Or.inl rfl⟩
   rw[Zd f2,Xad (show f≤2000 by omega),cnt,Zd (show ¬(400:Int)≤((Zcd m).length:Int) by omega)]
   obtain⟨r,r1,r2,r3⟩:=ZJT hQ h hm hc hcl q ⟨by omega,by omega⟩ _ [] (Or.inl rfl) (Nat.le_refl _)
   exact⟨r,r1,r2,Or.inr ⟨⟨rfl,rfl,q,by omega,by omega⟩,r3⟩⟩
end Go.AE.Y
namespace Go.AE.Y
open Go Go.AE
set_option maxHeartbeats 400000
theorem ZEf {x:Zv} (hs:Zjc x) {f:Int} {r:ZLY} (h:ZcG x f=some r) (h2:r.1=2):Ze1 x=true∧∃L',RupExt x [] L' r.2.2∧ZfA []∈L':=by
 unfold ZcG at h
 rw[ZkT x hs,Ze]at h
 cases hp:Ze1 x with
 |false=>
  rw[hp,cnf]at h
  injection h with h
  rw[←h]at h2
  exact absurd h2 (show ¬(3:Int)=2 by decide)
 |true=>
  refine⟨rfl,?_⟩
  rw[hp,cnt,Zyi,Ze]at h
  cases hq:decide (0≤f)&&decide (f≤2000)with
  |false=>
   rw[hq,cnf]at h
   injection h with h
   rw[←h]at h2
   exact absurd h2 (show ¬(3:Int)=2 by decide)
  |true=>
   have hq':=hq
   rw[Xae,Xaf,Xaf]at hq'
   have hall:=ZyQ hp
   have hlen:x.length≤400:=by
    unfold Ze1 at hp
    simp only[Xae,Xaf]at hp
    exact hp.2
   have hg:Zbv x:=fun c hc=>⟨hall c hc,hs.2 c hc⟩
   have hd:Zck []:=⟨fun x hx=>absurd hx Xay,fun i j hi=>by simp at hi⟩
   obtain⟨v,e,hv,hr⟩:=ZAg (D:=[]) (L:=x) (S:=[]) (fuel:=f) (rec_:=ZC 64) (fun l L' S' f' h1 h2 h3 h4 h5=>ZEn 64 ([]++[l]) L' S' f' h1 h2 h3 h4 h5 (by simp)) hd hg (by simp;omega) (by simp) hq'
   have e':ZbW 64 [] f false x=some v:=by
    rw[←e]
    exact Zz5 (ZbW 63) [] f false x
   rw[hq,cnt,Zpo x (by omega),Ze,e',Ze]at h
   cases hok:v.1 with
   |true=>
    rw[hok,ctt]at h
    injection h with h
    rw[←h]at h2
    exact absurd h2 (show ¬(1:Int)=2 by decide)
   |false=>
    rw[hok,cff]at h
    cases hmu:v.2.2.1 with
    |true=>
     rw[hmu,ctt]at h
     injection h with h
     rw[←h]at h2
     exact absurd h2 (show ¬(0:Int)=2 by decide)
    |false=>
     rw[hmu,cff]at h
     injection h with h
     rw[←h]
     exact⟨v.2.2.2.2.1,hr.1,hr.2 hok hmu⟩
end Go.AE.Y
namespace Go.AE.Y
open Go Go.AE
set_option maxHeartbeats 400000
def Zts (c:Zbx):Bool:=ZG c&&decide (Zqk c<c.2)
def Zum (d:DbT):Option Nat:=(List.range d.1.length).find? (fun i=>!(d.2.getD i false)&&Zts (d.1.getD i ([],0)))
noncomputable def Zkj (l:Zv) (S:List ZE):Option (DbT×Nat):=
 if Ze1 l=true∧S.length≤1000 then(ZhX (ZdP l) S).bind fun d=>(Zum d).map fun i=>(d,i)else none
theorem ZyR {l:Zv} (hs:Zjc l) (hp:Ze1 l=true):Zbv l∧l.length≤400:=by
 refine⟨fun c hc=>⟨ZyQ hp c hc,hs.2 c hc⟩,?_⟩
 unfold Ze1 at hp
 simp only[Xae,Xaf]at hp
 exact hp.2
theorem ZsP:∀(S T:List ZE) (d:DbT),ZhX d (S++T)=(ZhX d S).bind fun d'=>ZhX d' T
 |[],T,d=>rfl
 |s::S,T,d=>by
  show (Ziw d s).bind (fun d'=>ZhX d' (S++T))=((Ziw d s).bind fun d'=>ZhX d' S).bind fun d'=>ZhX d' T
  cases Ziw d s with
  |none=>rfl
  |some d'=>exact ZsP S T d'
theorem ZGg {l:Zv}:∀n,n≤l.length→ZoB (ZdP l) n=l.take n
 |0,_=>rfl
 |n+1,hn=>by
  have e:(ZdP l).2.getD n false=false:=by
   show (List.replicate l.length false).getD n false=false
   rw[Xaa,XaO (by omega)]
   rfl
  unfold ZoB
  rw[e,cff,ZGg n (by omega),ZeE ([],0) (by omega)]
  rfl
theorem ZMx {L L':Zv} {S':List ZE} (h:RupExt L [] L' S') (hL:Zbv L):Zbv L'∧L'.length=L.length+S'.length∧(L'.length≤1000000→ZhX (ZdP L) S'=some (ZdP L')):=by
 induction h with
 |refl=>exact⟨hL,rfl,fun _=>rfl⟩
 |snoc _ h1 h2 h3 ih=>
  rename_i L1 S1 c _
  obtain⟨i1,i2,i3⟩:=ih
  refine⟨fun x hx=>?_,by rw[Xal,Xal,Xav,Xav];omega,fun hle=>?_⟩
  ·rcases List.mem_append.1 hx with q|q
   ·exact i1 x q
   ·rw[Xah]at q
    rw[q]
    exact⟨h1,by omega⟩
  ·rw[Xal,Xav]at hle
   rw[ZsP,i3 (by omega),Ze]
   show (Ziw (ZdP L1) (ZwK c)).bind (fun d'=>some d')=_
   have hru:ZqQ (Znr (ZdP L1)) c=true:=by
    have e:Znr (ZdP L1)=L1:=by
     show ZoB (ZdP L1) L1.length=L1
     rw[ZGg _ (Nat.le_refl _),XaC]
    rw[e]
    exact ZGI i1 (by omega) h1 h3
   have hp:Zm2 (ZwK c)=true:=by
    unfold Zm2 ZwK
    dsimp only
    rw[if_neg (by decide),if_neg (by decide),if_pos rfl]
    rfl
   have hder:Zdz (ZdP L1) (ZwK c)=ZqN c:=by
    unfold Zdz
    rw[if_neg (show ¬(ZwK c).1=6 from(by decide:¬(7:Int)=6)),if_pos (show (ZwK c).1=7 from rfl)]
    show (bif ZG c&&ZqQ (Znr (ZdP L1)) c then ZqN c else noC)=ZqN c
    rw[h1,hru,Xaj,ctt]
   unfold Ziw
   rw[hp,ctt,if_neg (show ¬(ZwK c).1=8 from(by decide:¬(7:Int)=8)),hder,show (ZqN c).1=true from rfl,ctt,Ze]
   show some ((L1++[c],List.replicate L1.length false++[false]):DbT)=some (L1++[c],List.replicate (L1++[c]).length false)
   rw[Xal,Xav,List.replicate_succ']
theorem ZEX {x:Zv} (hs:Zjc x) {f:Int} {r:ZLY} (h:ZcG x f=some r) (h2:r.1=2) (ht:r.2.2.length≤1000):∃q,Zkj x r.2.2=some q:=by
 obtain⟨hp,L',hr,hm⟩:=ZEf hs h h2
 obtain⟨hg,h400⟩:=ZyR hs hp
 obtain⟨r1,r2,r3⟩:=ZMx hr hg
 have hrun:=r3 (by omega)
 unfold Zkj
 rw[if_pos ⟨hp,ht⟩,hrun,Ze]
 have hd:Zck []:=⟨fun x hx=>absurd hx Xay,fun i j hi=>by simp at hi⟩
 have hf:Zts (ZfA [])=true:=by
  unfold Zts
  rw[ZBJ hd]
  have:Zqk (ZfA [])=((Zbo (Zbe [])).length:Int):=ZEi _
  rw[this]
  have hz:Zbo (Zbe [])=[]:=by
   cases hl:Zbo (Zbe [])with
   |nil=>rfl
   |cons y l=>
    have:=(Zhx (ZlI hd) y).1 (by rw[hl];exact Xas)
    exact absurd this Xay
  rw[hz]
  rfl
 obtain⟨i,hi,e⟩:=Xan.1 hm
 have hsome:(Zum (ZdP L')).isSome=true:=by
  unfold Zum
  rw[List.find?_isSome]
  refine⟨i,Xax.2 hi,?_⟩
  have e1:(ZdP L').2.getD i false=false:=by
   show (List.replicate L'.length false).getD i false=false
   rw[Xaa,XaO hi]
   rfl
  have e2:(ZdP L').1.getD i ([],0)=ZfA []:=by
   show L'.getD i ([],0)=_
   rw[Xaa,Xac hi,e]
   rfl
  rw[e1,e2,hf]
  rfl
 obtain⟨i,hi⟩:=Option.isSome_iff_exists.1 hsome
 rw[hi]
 exact⟨_,rfl⟩
end Go.AE.Y
namespace Go.AE.Y
open Go Go.AE
end Go.AE.Y
namespace Go.AE.Y
open Go Go.AE
set_option maxHeartbeats 400000
end Go.AE.Y
namespace Go.AE.Y
open Go Go.AE
set_option maxHeartbeats 400000
theorem ZFo {n:Int} (h:0≤n∧n≤4000000):Zgt n=some []:=by
 unfold Zgt
 rw[Zd (by omega),Zf (by omega) (by omega),Zf (by omega) (by omega)]
 by_cases q:0<n - (0 - 0)
 ·rw[Zc q,Zb rfl,Zb ⟨by omega,by simp only[Zl];omega⟩,Zb ⟨by omega,by omega⟩]
  rfl
 ·rw[Zd q]
theorem ZCN {x y:List (Int×Int)} (hx:x.length≤1000) (hy:y.length≤1000):Zfw [x,y]=some (x++y):=by
 have e0:ZbS [x,y] ((0:Int),(0:Int))=some (.inl ((x.length:Int),(1:Int))):=by
  unfold ZbS
  dsimp only
  rw[Zc (by simp),Zb ⟨by omega,by simp⟩]
  show rq (i64 (0+(x.length:Int))) _=_
  rw[Zf (by omega) (by omega)]
  show cond (decide (0+(x.length:Int)<0)) none _=_
  rw[Zd (by omega),Zf (by omega) (by omega)]
  show some (Sum.inl (0+(x.length:Int),(0:Int)+1))=_
  rw[Int.zero_add]
  rfl
 have e1:ZbS [x,y] ((x.length:Int),(1:Int))=some (.inl ((x.length:Int)+(y.length:Int),(2:Int))):=by
  unfold ZbS
  dsimp only
  rw[Zc (by simp),Zb ⟨by omega,by simp⟩]
  show rq (i64 ((x.length:Int)+(y.length:Int))) _=_
  rw[Zf (by omega) (by omega)]
  show cond (decide ((x.length:Int)+(y.length:Int)<0)) none _=_
  rw[Zd (by omega),Zf (by omega) (by omega)]
  rfl
 have g0:ZbT [x,y] ((0:Int),([]:List (Int×Int)))=some (.inl ((1:Int),x)):=by
  unfold ZbT
  dsimp only
  rw[Zc (by simp),Zb ⟨by omega,by simp⟩]
  show rq (([]:List (Int×Int)).length+x.length≤Zl) _=_
  rw[Zb (by simp[Zl];omega),Zf (by omega) (by omega)]
  rfl
 have g1:ZbT [x,y] ((1:Int),x)=some (.inl ((2:Int),x++y)):=by
  unfold ZbT
  dsimp only
  rw[Zc (by simp),Zb ⟨by omega,by simp⟩]
  show rq (x.length+y.length≤Zl) _=_
  rw[Zb (by simp only[Zl];omega),Zf (by omega) (by omega)]
  rfl
 have g2:ZbT [x,y] ((2:Int),x++y)=some (.inr (.inr (x++y))):=by
  unfold ZbT
  dsimp only
  rw[Zd (by simp)]
 have e2:ZbS [x,y] ((x.length:Int)+(y.length:Int),(2:Int))=some (.inr (x++y)):=by
  unfold ZbS
  dsimp only
  rw[Zd (by simp),ZFo ⟨by omega,by omega⟩,Ze,ZcO,g0,Ze]
  dsimp only
  rw[ZcO,g1,Ze]
  dsimp only
  rw[ZcO,g2,Ze]
 unfold Zfw
 rw[ZcO,e0,Ze]
 dsimp only
 rw[ZcO,e1,Ze]
 dsimp only
 rw[ZcO,e2,Ze]
theorem ZGk {α R:Type} {f:Int×List α→Option ((Int×List α)⊕R)} (l:List α) (d:α) (g:α→α) (fin:List α→R)
  (h:∀(i:Nat) (out:List α),i<l.length→out.length=l.length→out.getD i d=l.getD i d→f ((i:Int),out)=some (.inl ((i:Int)+1,out.set i (g (l.getD i d)))))
  (hn:f ((l.length:Int),l.map g)=some (.inr (fin (l.map g)))):loop f ((0:Int),l)=some (fin (l.map g)):=by
 refine ZK (f:=f) (fun s:Int×List α=>∃i:Nat,s.1=i∧i≤l.length∧s.2=(l.take i).map g++l.drop i) (fun s=>l.length - s.1.toNat) (fun _=>fin (l.map g)) ?_ _ ⟨0,rfl,Nat.zero_le _,by simp⟩
 rintro⟨s,out⟩ ⟨i,hs,hi,ho⟩
 dsimp only at hs ho ⊢
 subst hs
 rcases Xag i l.length with h1|h1
 ·left
  have hlen:out.length=l.length:=by rw[ho,Xal,Xak,XaB,Xbt];omega
  have hl1:((l.take i).map g).length=i:=by rw[Xak,XaB];omega
  have hget:out.getD i d=l.getD i d:=by
   rw[ho,Xaa,XaT (by omega),hl1,Nat.sub_self,Xa0,XbX,Xaa]
  refine⟨_,h i out h1 hlen hget,⟨i+1,by simp,by omega,?_⟩,by dsimp only;omega,rfl⟩
  dsimp only
  rw[ho,List.set_append_right _ _ (by omega),hl1,Nat.sub_self,Xby h1,List.set_cons_zero,ZeE d h1,Xa1,XaK]
  rfl
 ·right
  have:i=l.length:=by omega
  subst this
  rw[XaC,List.drop_length,Xaz]at ho
  rw[ho,hn]
theorem Zkz {c:Zbx} (h:ZG c=true):c.1.length≤12∧0≤c.2∧c.2≤20000:=⟨ZBp h,(ZdM h).1⟩
theorem ZHB {a b:Zbx} (ha:ZG a=true) (hb:ZG b=true):Zia a b=some (ZvY a b):=by
 have a1:=Zkz ha
 have b1:=Zkz hb
 unfold Zia Zjq ZvY
 rw[Zbj a (by omega),Ze,ha,cnt,Zbj b (by omega),Ze,hb,cnt,ZCN (by omega) (by omega),Ze,Zf (by omega) (by omega),Zur (ZKL ha hb) (by rw[Xal];omega) ⟨by omega,by omega⟩,Ze,Xaj,ctt]
def Zme (r:ZnN):Bool×List (Int×Int)×Int:=(r.1,r.2.2,r.2.1)
theorem Zvd {c:Zbx} (h:c.1.length≤1000):Zdi c=some (Zme (ZgY c)):=by
 unfold Zdi ZgY Zme
 rw[Zbj c (by omega),Ze]
 cases ZG c with
 |true=>rw[cnt,ctt];rfl
 |false=>rw[cnf,cff];rfl
theorem ZGl {a k:Int} (ha:0≤a∧a≤20000) (hk:1≤k∧k≤1000):0≤a*k∧a*k≤20000000:=by
 refine⟨Int.mul_nonneg ha.1 (by omega),?_⟩
 have:=Int.mul_le_mul ha.2 hk.2 (by omega) (by omega)
 omega
theorem ZHE {c:Zbx} {k:Int} (hc:ZG c=true):Zft c k=some (Zme (Zwx c k)):=by
 have c1:=Zkz hc
 obtain⟨_,c2⟩:=ZdM hc
 unfold Zft Zwx
 rw[Zbj c (by omega),Ze,hc,cnt,ZbQ,Ze,Xaj]
 cases hq:decide (1≤k)&&decide (k≤1000)with
 |false=>rw[cnf,cff];rfl
 |true=>
  simp only[Xae,Xaf]at hq
  have hb:=ZGl c1.2 hq
  rw[cnt,ctt]
  have e:ZbC c k=some (Zme (ZgY (ZyI c k))):=by
   unfold ZbC
   have e1:Zcn c.2 k=some (c.2*k):=by
    unfold Zcn
    rw[Zf (by omega) (by omega)]
   rw[ZBY c (by omega),Ze,e1,Ze]
   refine ZGk c.1 (0,0) (fun t=>(t.1*k,t.2)) (fun _=>Zme (ZgY (ZyI c k))) (fun i out hi hl hg=>?_) ?_
   ·obtain⟨l1,l2,l3⟩:=c2 i hi
    have hb2:=ZGl (a:=(c.1.getD i (0,0)).1) ⟨by omega,by omega⟩ hq
    unfold Zbm
    dsimp only
    have e2:Zcn (c.1.getD i (0,0)).1 k=some ((c.1.getD i (0,0)).1*k):=by
     unfold Zcn
     rw[Zf (by omega) (by omega)]
    rw[Zc (by omega),Zb ⟨by omega,by omega⟩,Xab,hg,e2,Ze,Zb ⟨by omega,by omega⟩,Zf (by omega) (by omega)]
   ·unfold Zbm Zb6
    dsimp only
    have e3:Zdi (c.1.map (fun t=>(t.1*k,t.2)),c.2*k)=some (Zme (ZgY (ZyI c k))):=Zvd (c:=ZyI c k) (by show (c.1.map _).length≤1000;rw[Xak];omega)
    rw[Zd (by omega),e3,Ze]
    generalize Zme (ZgY (ZyI c k))=q
    rfl
  rw[e,Ze]
theorem ZHC {c:Zbx} {k:Int} (hc:ZG c=true):Zgo c k=some (Zme (Zwb c k)):=by
 have c1:=Zkz hc
 obtain⟨_,c2⟩:=ZdM hc
 unfold Zgo Zwb
 rw[Zbj c (by omega),Ze,hc,cnt,ZbQ,Ze,Xaj]
 cases hq:decide (1≤k)&&decide (k≤1000)with
 |false=>rw[cnf,cff];rfl
 |true=>
  simp only[Xae,Xaf]at hq
  rw[cnt,ctt]
  have e1:∀n:Int,0≤n→n≤20000→Zeu n k=some (upI n k):=fun n h1 h2=>by
   unfold Zeu upI
   rw[Zf (by omega) (by omega),Zf (by omega) (by omega),Zb ⟨by omega,by omega⟩]
  have e:ZbJ c k=some (Zme (ZgY (Zx8 c k))):=by
   unfold ZbJ
   rw[ZBY c (by omega),Ze,e1 c.2 (by omega) (by omega),Ze]
   refine ZGk c.1 (0,0) (fun t=>(upI t.1 k,t.2)) (fun _=>Zme (ZgY (Zx8 c k))) (fun i out hi hl hg=>?_) ?_
   ·obtain⟨l1,l2,l3⟩:=c2 i hi
    unfold Zbw
    dsimp only
    rw[Zc (by omega),Zb ⟨by omega,by omega⟩,Xab,hg,e1 _ (by omega) (by omega),Ze,Zb ⟨by omega,by omega⟩,Zf (by omega) (by omega)]
   ·unfold Zbw Zcj
    dsimp only
    have e3:Zdi (c.1.map (fun t=>(upI t.1 k,t.2)),upI c.2 k)=some (Zme (ZgY (Zx8 c k))):=Zvd (c:=Zx8 c k) (by show (c.1.map _).length≤1000;rw[Xak];omega)
    rw[Zd (by omega),e3,Ze]
    generalize Zme (ZgY (Zx8 c k))=q
    rfl
  rw[e,Ze]
theorem ZHF {c:Zbx} (hc:ZG c=true):Zfu c=some (ZDd c):=by
 have c1:=Zkz hc
 unfold Zfu ZDd
 rw[Zbj c (by omega),Ze,hc,cnt,ctt]
 by_cases q:0<c.2
 ·rw[Zc q]
  have:=ZbZ (f:=ZdN c) c.1 (0,0) (fun t=>(min t.1 c.2,t.2)) [] (fun _=>ZqN (ZyY c)) (fun i out hi ho=>?_) ?_
  ·exact this
  ·unfold ZdN
   dsimp only
   rw[Zc (by omega),Zb ⟨by omega,by omega⟩,Xab,Zb (by simp only[Zl,Xaq,Xap];simp at ho;omega),Zf (by omega) (by omega)]
  ·unfold ZdN ZyY
   dsimp only
   rw[Zd (by omega),Xau,if_pos q]
   rfl
 ·rw[Zd q]
  unfold ZyY
  rw[if_neg q]
  rfl
theorem Zv6 (l:List (Int×Int)) (t:Int×Int) (x:Int):ZkJ (l++[t]) x=ZkJ l x+(if vof t.2=x then t.1 else 0):=by
 unfold ZkJ
 rw[List.filter_append,Xa1,List.sum_append]
 congr 1
 by_cases q:vof t.2=x
 ·rw[Xa8 (p:=fun t:Int×Int=>decide (vof t.2=x)) (Xad q),if_pos q]
  show t.1+0=t.1
  omega
 ·rw[Xa7 (p:=fun t:Int×Int=>decide (vof t.2=x)) (by rw[Xaf];exact q),if_neg q]
  rfl
theorem ZD3 (l:List (Int×Int)) (t:Int×Int) (x:Int):(l++[t]).filter (fun t=>!decide (vof t.2=x))=l.filter (fun t=>!decide (vof t.2=x))++(if vof t.2=x then[]else[t]):=by
 rw[List.filter_append]
 congr 1
 by_cases q:vof t.2=x
 ·rw[Xa7 (by rw[Xad q];decide),if_pos q]
  rfl
 ·rw[Xa8 (by rw[decide_eq_false q];rfl),if_neg q]
  rfl
theorem ZFE {c:Zbx} {x:Int} {i:Nat} (hc:ZG c=true) (hi:i<c.1.length) (hx:vof (c.1.getD i (0,0)).2=x):ZkJ (c.1.take i) x=0:=by
 have hp:=(ZkL.1 hc).2.1
 unfold ZkJ
 have:(c.1.take i).filter (fun t=>decide (vof t.2=x))=[]:=List.filter_eq_nil_iff.2 (fun t ht=>by
  obtain⟨j,hj,rfl⟩:=Xan.1 ht
  rw[XaB]at hj
  have:=XaV.1 hp j i (by omega) hi (by omega)
  rw[Xaa,Xac hi]at hx
  have hx:vof (c.1[i]).2=x:=hx
  rw[Xbc,Xaf]
  omega)
 rw[this]
 rfl
theorem ZFF {c:Zbx} {x:Int} (hc:ZG c=true):∀i,i≤c.1.length→0≤ZkJ (c.1.take i) x∧ZkJ (c.1.take i) x≤1000*i
 |0,_=>⟨Xat _,Xat _⟩
 |i+1,hi=>by
  have ih:=ZFF (x:=x) hc i (by omega)
  obtain⟨l1,l2,l3⟩:=(ZdM hc).2 i (by omega)
  rw[ZeE (0,0) (by omega),Zv6]
  split<;>omega
theorem ZF1 {c:Zbx} {x:Int} (hc:ZG c=true):Zgp c x=some (Zzy c x):=by
 have c1:=Zkz hc
 obtain⟨_,c2⟩:=ZdM hc
 unfold Zgp Zzy
 rw[Zbj c (by omega),Ze,hc,cnt,ZbQ,Ze,Xaj]
 cases hq:decide (1≤x)&&decide (x≤12)with
 |false=>rw[cnf,cff];rfl
 |true=>
  rw[cnt,ctt]
  refine ZK (f:=Zff c x) (fun s:Int×Int×List (Int×Int)=>∃n:Nat,s.1=n∧n≤c.1.length∧s.2.1=max 0 (c.2 - ZkJ (c.1.take n) x)∧s.2.2=(c.1.take n).filter (fun t=>!decide (vof t.2=x))) (fun s=>c.1.length - s.1.toNat) (fun _=>ZqN (ZCm c x)) ?_ _ ⟨0,rfl,Nat.zero_le _,by show c.2=max 0 (c.2 - 0);omega,rfl⟩
  rintro⟨s,b,o⟩ ⟨n,hs,hn,hb,ho⟩
  dsimp only at hs hb ho ⊢
  subst hs
  have hcl:=ZFF (x:=x) hc n hn
  have hol:o.length≤n:=by
   rw[ho]
   have:=XbK (fun t:Int×Int=>!decide (vof t.2=x)) (c.1.take n)
   rw[XaB]at this
   omega
  unfold Zff
  dsimp only
  rcases Xag n c.1.length with h1|h1
  ·left
   obtain⟨l1,l2,l3⟩:=c2 n h1
   have hlit:=Zz.1 l1
   rw[Zc (by omega),Zb ⟨by omega,by omega⟩,Xab,Zef (by omega),Ze]
   by_cases q:vof (c.1.getD n (0,0)).2=x
   ·have h0:=ZFE hc h1 q
    rw[Zx q,Zf (by omega) (by omega),Zf (by omega) (by omega)]
    refine⟨_,rfl,⟨n+1,by simp,by omega,?_,?_⟩,by (try dsimp only)<;>omega,rfl⟩
    ·dsimp only
     rw[ZeE (0,0) h1,Zv6,if_pos q,h0,Int.zero_add]
    ·dsimp only
     rw[ZeE (0,0) h1,ZD3,if_pos q,Xaz,ho]
   ·rw[Zu q,Zb (by simp only[Zl,Xaq,Xap];omega),Zf (by omega) (by omega)]
    refine⟨_,rfl,⟨n+1,by simp,by omega,?_,?_⟩,by (try dsimp only)<;>omega,rfl⟩
    ·dsimp only
     rw[ZeE (0,0) h1,Zv6,if_neg q,Int.add_zero]
     exact hb
    ·dsimp only
     rw[ZeE (0,0) h1,ZD3,if_neg q,ho]
  ·right
   have hnn:n=c.1.length:=by omega
   rw[hnn,XaC]at hb ho
   rw[Zd (by omega),hb,ho]
   rfl
end Go.AE.Y
namespace Go.AE.Y
open Go Go.AE
set_option maxHeartbeats 400000
theorem ZG2 {c:Zbx} {n:Nat} (h:n<c.1.length):((c.1.take (n+1)).map (fun t=>t.1)).sum=((c.1.take n).map (fun t=>t.1)).sum+(c.1.getD n (0,0)).1:=by
 rw[ZeE (0,0) h,Xa1,List.sum_append]
 show _+((c.1.getD n (0,0)).1+0)=_
 omega
theorem ZK5 {c:Zbx} (hc:ZG c=true):∀n,n≤c.1.length→0≤((c.1.take n).map (fun t=>t.1)).sum∧((c.1.take n).map (fun t=>t.1)).sum≤1000*n
 |0,_=>⟨Xat _,Xat _⟩
 |n+1,h=>by
  have ih:=ZK5 hc n (by omega)
  obtain⟨l1,l2,l3⟩:=(ZdM hc).2 n (by omega)
  rw[ZG2 (by omega)]
  omega
theorem Zw4 {c:Zbx} (hc:ZG c=true):ZeW c=some (Zqk c):=by
 have c1:=Zkz hc
 unfold ZeW
 refine ZK (f:=Zfc c) (fun s:Int×Int=>∃n:Nat,s.2=n∧n≤c.1.length∧s.1=((c.1.take n).map (fun t=>t.1)).sum) (fun s=>c.1.length - s.2.toNat) (fun _=>Zqk c) ?_ _ ⟨0,rfl,Nat.zero_le _,rfl⟩
 rintro⟨x,s⟩ ⟨n,hs,hn,hx⟩
 dsimp only at hs hx ⊢
 subst hs
 have hb:=ZK5 hc n hn
 unfold Zfc
 dsimp only
 rcases Xag n c.1.length with h1|h1
 ·left
  obtain⟨l1,l2,l3⟩:=(ZdM hc).2 n h1
  rw[Zc (by omega),Zb ⟨by omega,by omega⟩,Xab,Zf (by omega) (by omega),Zf (by omega) (by omega)]
  exact⟨_,rfl,⟨n+1,by simp,by omega,by dsimp only;rw[ZG2 h1,hx]⟩,by (try dsimp only)<;>omega,rfl⟩
 ·right
  have:n=c.1.length:=by omega
  rw[this,XaC]at hx
  rw[Zd (by omega),hx]
  rfl
theorem ZEK {c:Zbx} (hl:c.1.length≤1048576):Ze9 c=some (Zts c):=by
 unfold Ze9 Zts
 rw[Zbj c (by omega),Ze]
 cases hc:ZG c with
 |false=>rw[cff,Xai]
 |true=>rw[ctt,Zw4 hc,Ze,Xaj]
theorem ZHH {c:Zbx} (hc:ZG c=true):Zfa c=some ((Zkh c).2,(Zkh c).1):=by
 have c1:=Zkz hc
 have ht:=ZID hc
 obtain⟨_,c2⟩:=ZdM hc
 unfold Zfa Zf7 Zf8
 rw[Zw4 hc,Ze,Zf (by omega) (by omega),Zf (by omega) (by omega)]
 have:=ZbZ (f:=Zdx c (max 0 (Zqk c - c.2+1))) c.1 (0,0) (fun t=>(t.1,0 - t.2)) [] (fun o=>(max 0 (Zqk c - c.2+1),o)) (fun i out hi ho=>?_) ?_
 ·rw[Xau]at this
  exact this
 ·obtain⟨l1,_,_⟩:=c2 i hi
  have hlit:=Zz.1 l1
  unfold Zdx Zf9
  dsimp only
  rw[Zc (by omega),Zb ⟨by omega,by omega⟩,Xab,Zf (by omega) (by omega),Zb (by simp only[Zl,Xaq,Xap];simp at ho;omega),Zf (by omega) (by omega)]
 ·unfold Zdx
  dsimp only
  rw[Zd (by omega)]
theorem ZHJ {L:Zv} {c:Zbx} (hL:Zbv L) (hl:L.length≤1000000) (hc:ZG c=true):Zwm L c=some (ZqQ L c):=by
 obtain⟨r,e,eb⟩:=ZNK hL hl hc
 unfold Zwm ZuO
 rw[Zpo L (by omega),Ze,ZHH hc,Ze,Zb (by simp only[Zl,Xaq,Xap];omega),Zb ⟨by omega,by simp only[Zl];omega,rfl⟩]
 show (ZbO (L++[Zkh c]) ZCB).bind _=_
 rw[e,Ze,eb]
theorem ZBN (d:DbT) (n:Nat):ZoB d (n+1)=ZoB d n++(bif d.2.getD n false then[]else[d.1.getD n ([],0)]):=rfl
theorem ZF5 {d:DbT} (hg:d.2.length=d.1.length) (hl:d.1.length≤1000000):ZfU d.1 d.2=some (Znr d):=by
 unfold ZfU
 refine ZK (f:=Ze0 d.1 d.2) (fun s:Int×Zv=>∃n:Nat,s.1=n∧n≤d.1.length∧s.2=ZoB d n) (fun s=>d.1.length - s.1.toNat) (fun _=>Znr d) ?_ _ ⟨0,rfl,Nat.zero_le _,rfl⟩
 rintro⟨s,o⟩ ⟨n,hs,hn,ho⟩
 dsimp only at hs ho ⊢
 subst hs
 have hlen:=Zuu d n
 unfold Ze0
 dsimp only
 rcases Xag n d.1.length with h1|h1
 ·left
  rw[Zc (by omega),Zb ⟨by omega,by omega⟩,Zb ⟨by omega,by omega⟩,Xab]
  cases hq:d.2.getD n false with
  |true=>
   rw[cnt,Zf (by omega) (by omega)]
   exact⟨_,rfl,⟨n+1,by simp,by omega,by dsimp only;rw[ZBN,hq,ctt,Xaz,ho]⟩,by (try dsimp only)<;>omega,rfl⟩
  |false=>
   rw[cnf,Zb (by rw[ho];simp only[Zl,Xaq,Xap];omega),Zf (by omega) (by omega)]
   exact⟨_,rfl,⟨n+1,by simp,by omega,by dsimp only;rw[ZBN,hq,cff,ho]⟩,by (try dsimp only)<;>omega,rfl⟩
 ·right
  have:n=d.1.length:=by omega
  rw[Zd (by omega),ho,this]
  rfl
theorem Zz8 {d:DbT} {i:Int} (hg:d.2.length=d.1.length) (hl:d.1.length≤1000000):Zd3 i d.1 d.2=some (Zif d i):=by
 unfold Zd3 Zif
 rw[Zf (by omega) (by omega),ZbQ,Ze]
 by_cases q1:0≤i
 ·rw[Xad q1,Xaj]
  by_cases q2:i<d.1.length
  ·rw[Xad (show i≤(d.1.length:Int) - 1 by omega),ctt,Zb ⟨by omega,by omega⟩,Xad q2,Xaj,Xaj]
  ·rw[decide_eq_false (show ¬i≤(d.1.length:Int) - 1 by omega),cff,decide_eq_false q2,XaW,Xai]
 ·rw[decide_eq_false q1,Xai,cff,Xai,Xai]
theorem ZEc (k:Int):∃n b,Zom k=some (n,b)∧((k=1∧n=2∧b=false)∨((k=2∨k=3∨k=5)∧n=1∧b=true)∨((k=4∨k=8)∧n=1∧b=false)∨((k=6∨k=7)∧n=0∧b=false)∨((k≤0∨9≤k)∧n = -1∧b=false)):=by
 unfold Zom
 by_cases k1:k=1
 ·rw[Zx k1];exact⟨_,_,rfl,Or.inl ⟨k1,rfl,rfl⟩⟩
 rw[Zu k1]
 by_cases k2:k=2
 ·rw[Zx k2];exact⟨_,_,rfl,by simp[k2]⟩
 rw[Zu k2]
 by_cases k3:k=3
 ·rw[Zx k3];exact⟨_,_,rfl,by simp[k3]⟩
 rw[Zu k3]
 by_cases k5:k=5
 ·rw[Zx k5];exact⟨_,_,rfl,by simp[k5]⟩
 rw[Zu k5]
 by_cases k4:k=4
 ·rw[Zx k4];exact⟨_,_,rfl,by simp[k4]⟩
 rw[Zu k4]
 by_cases k8:k=8
 ·rw[Zx k8];exact⟨_,_,rfl,by simp[k8]⟩
 rw[Zu k8]
 by_cases k6:k=6
 ·rw[Zx k6];exact⟨_,_,rfl,by simp[k6]⟩
 rw[Zu k6]
 by_cases k7:k=7
 ·rw[Zx k7];exact⟨_,_,rfl,by simp[k7]⟩
 rw[Zu k7]
 exact⟨_,_,rfl,Or.inr (Or.inr (Or.inr (Or.inr ⟨by omega,rfl,rfl⟩)))⟩
theorem ZFs {s:ZE} (hl:s.2.2.2.1.length≤1048576):Zbc s.2.2.2 (([]:List (Int×Int)),(0:Int))=some (ZFd s):=by
 unfold Zbc ZFd
 by_cases q:s.2.2.2.2=0
 ·rw[Zx q,Xad q,XbS]
  have e:ZdR s.2.2.2.1 []=some (decide (s.2.2.2.1=[])):=by
   unfold ZdR
   cases hs:s.2.2.2.1 with
   |nil=>
    rw[show ((([]:List (Int×Int)).length:Int) != (([]:List (Int×Int)).length:Int))=false by simp,cff,ZcO]
    unfold Zd1
    rw[Zd (by simp),Ze]
    rfl
   |cons t l=>
    rw[show (((t::l).length:Int) != (([]:List (Int×Int)).length:Int))=true by simp;omega,ctt,decide_eq_false (by simp)]
  rw[e,Ze]
 ·rw[Zu q,decide_eq_false q,XaW]
theorem ZEL {s:ZE} (hl:s.2.2.2.1.length≤1048576):ZkX s=some (Zm2 s):=by
 obtain⟨n,b,e,h⟩:=ZEc s.1
 have hs:=ZFs hl
 unfold ZkX Zm2
 rw[e,Ze]
 dsimp only
 rcases h with⟨k,rfl,rfl⟩|⟨k,rfl,rfl⟩|⟨k,rfl,rfl⟩|⟨k,rfl,rfl⟩|⟨k,rfl,rfl⟩
 ·rw[Zc (by omega),Zc (by omega),Zx rfl,Zu (by omega),hs,Ze,if_pos (Or.inl k)]
 ·rw[Zc (by omega),Zc (by omega),Zu (by omega),ctt,Zu (by omega),hs,Ze,if_pos (by omega)]
 ·rw[Zc (by omega),Zc (by omega),Zu (by omega),cff,if_neg (by omega),if_pos (by omega)]
  by_cases q:s.2.2.1=0
  ·rw[Zx q,Zu (by omega),hs,Ze,Xad q,XbS]
  ·rw[Zu q,decide_eq_false q,XaW]
 ·rw[Zc (by omega),Zd (by omega),if_neg (by omega)]
  rcases k with k|k
  ·rw[Zx k,Zu (by omega),cff,if_pos (by omega)]
   by_cases q:s.2.2.1=0
   ·rw[Zx q,Zu (by omega),hs,Ze,Xad q,XbS]
   ·rw[Zu q,decide_eq_false q,XaW]
  ·rw[Zu (by omega),if_neg (by omega),if_pos k]
   by_cases q0:s.2.1=0
   ·rw[Zx q0,Zu (by omega),cff,Xad q0,Xaj]
    by_cases q:s.2.2.1=0
    ·rw[Zx q,Zx k,Xad q]
    ·rw[Zu q,decide_eq_false q]
   ·rw[Zu q0,decide_eq_false q0,Xai]
 ·rw[Zd (by omega),if_neg (by omega),if_neg (by omega),if_neg (by omega)]
end Go.AE.Y
namespace Go.AE.Y
open Go Go.AE
set_option maxHeartbeats 400000
structure Ztm (d:DbT):Prop where
 good:Zbv d.1
 gone:d.2.length=d.1.length
 few:d.1.length≤900000
theorem ZHD (l:Int):ZjI l=some (axB l):=by
 unfold ZjI axB
 rw[ZnS,Ze]
 cases ZZ l with
 |true=>rw[cnt,ctt];rfl
 |false=>rw[cnf,cff];rfl
theorem ZMh {d:DbT} (h:Ztm d):(Znr d).length≤900000:=by
 have:=Zuu d d.1.length
 have:=h.few
 unfold Znr
 omega
theorem ZF7 {d:DbT} (h:Ztm d) (f:Bool) (t:List (Int×Int)) (b:Int):ZT d.1 d.2 ((t,b),f)=some (f,d.1++[(t,b)],d.2++[false]):=by
 have:=h.few
 have:=h.gone
 unfold ZT Zhc
 dsimp only
 rw[Zb (by simp only[Zl,Xaq,Xap];omega),Zb (by simp only[Zl,Xaq,Xap];omega)]
theorem ZF9 {d:DbT} {s:ZE} (h:Ztm d) (hl:s.2.2.2.1.length≤1048576):∃r,ZeK s d.1 d.2=some r∧(r.1=true→Ziw d s=some (r.2.1,r.2.2))∧(r.1=false→Ziw d s=none):=by
 have hf:=h.few
 have hg:=h.gone
 obtain⟨n,b,e,hk⟩:=ZEc s.1
 unfold ZeK Zhb Ziw
 rw[e,Ze,ZEL hl,Ze]
 dsimp only
 cases hp:Zm2 s with
 |false=>rw[cnf,cff];exact⟨_,rfl,fun q=>(by cases q),fun _=>rfl⟩
 |true=>
  rw[cnt,ctt]
  have hkind:1≤s.1∧s.1≤8:=by
   unfold Zm2 at hp
   by_cases q1:s.1=1∨s.1=2∨s.1=3∨s.1=5
   ·omega
   ·rw[if_neg q1]at hp
    by_cases q2:s.1=4∨s.1=6∨s.1=8
    ·omega
    ·rw[if_neg q2]at hp
     by_cases q3:s.1=7
     ·omega
     ·rw[if_neg q3]at hp;cases hp
  have push:∀(r:ZnN) (f:Bool) (t:List (Int×Int)) (c:Int),r.1=f→(f=true→r=(f,c,t))→s.1≠8→Zdz d s=r→∃q,ZT d.1 d.2 ((t,c),f)=some q∧(q.1=true→(if s.1=8 then(bif Zif d s.2.1 then some (d.1,d.2.set s.2.1.toNat true)else none)else(bif (Zdz d s).1 then some (d.1++[ofR (Zdz d s)],d.2++[false])else none))=some (q.2.1,q.2.2)) ∧
    (q.1=false→(if s.1=8 then(bif Zif d s.2.1 then some (d.1,d.2.set s.2.1.toNat true)else none)else(bif (Zdz d s).1 then some (d.1++[ofR (Zdz d s)],d.2++[false])else none))=none):=fun r f t c h1 h2 h8 hd=>by
   rw[ZF7 h,if_neg h8,hd,h1]
   cases f with
   |true=>
    rw[ctt,h2 rfl]
    exact⟨_,rfl,fun _=>rfl,fun q=>by cases q⟩
   |false=>
    rw[cff]
    exact⟨_,rfl,fun q=>(by cases q),fun _=>rfl⟩
  have flip:∀r:ZnN,(r.1=true→r=(r.1,(Zme r).2.2,(Zme r).2.1)):=fun r _=>rfl
  have dead:Zif d s.2.1=false→s.1≠6→s.1≠7→(if s.1=8 then(bif Zif d s.2.1 then some (d.1,d.2.set s.2.1.toNat true)else none)else(bif (Zdz d s).1 then some (d.1++[ofR (Zdz d s)],d.2++[false])else none))=none:=fun q h6 h7=>by
   by_cases k8:s.1=8
   ·rw[if_pos k8,q,cff]
   ·rw[if_neg k8]
    unfold Zdz
    rw[if_neg h6,if_neg h7,q,cff]
    rfl
  have hA:s.1≠6→s.1≠7→Zif d s.2.1=true→Zdz d s=(if s.1=1 then(bif Zif d s.2.2.1 then ZvY (ZkK d s.2.1) (ZkK d s.2.2.1)else noC)else if s.1=2 then Zwx (ZkK d s.2.1) s.2.2.1 else if s.1=3 then Zwb (ZkK d s.2.1) s.2.2.1 else if s.1=4 then ZDd (ZkK d s.2.1)else Zzy (ZkK d s.2.1) s.2.2.1):=fun h6 h7 q=>by
   unfold Zdz
   rw[if_neg h6,if_neg h7,q,ctt]
  by_cases k67:s.1=6∨s.1=7
  ·have hn:n=0:=by omega
   rw[hn,Zd (by omega),Zd (by omega)]
   unfold ZbV
   rw[Zu (by omega),Zu (by omega),Zu (by omega),Zu (by omega),Zu (by omega),Zu (by omega)]
   rcases k67 with k|k
   ·rw[Zx k,ZHD,Ze]
    exact push (axB s.2.1) _ _ _ rfl (fun _=>rfl) (by omega) (by unfold Zdz;rw[if_pos k])
   ·rw[Zu (by omega),Zx k,Zbj s.2.2.2 (by omega),Ze]
    have hd:Zdz d s=(bif ZG s.2.2.2&&ZqQ (Znr d) s.2.2.2 then ZqN s.2.2.2 else noC):=by
     unfold Zdz
     rw[if_neg (by omega),if_pos k]
    cases hc:ZG s.2.2.2 with
    |false=>
     rw[cff]
     rw[hc,Xai,cff]at hd
     exact push noC _ _ _ rfl (fun q=>by cases q) (by omega) hd
    |true=>
     rw[ctt,ZF5 h.gone (by omega),Ze,ZHJ (ZD4 h.good) (by have:=ZMh h;omega) hc,Ze]
     rw[hc,Xaj]at hd
     cases hr:ZqQ (Znr d) s.2.2.2 with
     |true=>
      rw[hr,ctt]at hd
      exact push (ZqN s.2.2.2) _ _ _ rfl (fun _=>rfl) (by omega) hd
     |false=>
      rw[hr,cff]at hd
      exact push noC _ _ _ rfl (fun q=>by cases q) (by omega) hd
  ·have hn:1≤n:=by omega
   rw[Zc (by omega),Zz8 h.gone (by omega),Ze]
   cases qa:Zif d s.2.1 with
   |false=>
    rw[cnf]
    have dd:=dead qa (by omega) (by omega)
    rw[qa]at dd
    exact⟨_,rfl,fun q=>(by cases q),fun _=>dd⟩
   |true=>
    obtain⟨a0,a1,a2⟩:=Zv7 qa
    have ca:ZG (d.1.getD s.2.1.toNat ([],0))=true:=(h.good _ a2).1
    have hA:=hA (by omega) (by omega) qa
    rw[qa]at push
    rw[cnt]
    by_cases k1:s.1=1
    ·have hn:n=2:=by omega
     rw[if_pos k1]at hA
     rw[hn,Zc (by omega),Zz8 h.gone (by omega),Ze]
     cases qb:Zif d s.2.2.1 with
     |false=>
      rw[qb,cff]at hA
      rw[cnf]
      exact⟨_,rfl,fun q=>(by cases q),fun _=>by rw[if_neg (show ¬s.1=8 by omega),hA];rfl⟩
     |true=>
      obtain⟨b0,b1,b2⟩:=Zv7 qb
      have cb:ZG (d.1.getD s.2.2.1.toNat ([],0))=true:=(h.good _ b2).1
      rw[qb,ctt]at hA
      unfold ZbV
      rw[cnt,Zu (by omega),Zx k1,Zb ⟨a0,by omega⟩,Zb ⟨b0,by omega⟩,ZHB ca cb,Ze]
      exact push (ZvY _ _) _ _ _ rfl (fun _=>rfl) (by omega) hA
    ·have hn:n=1:=by omega
     rw[if_neg k1]at hA
     rw[hn,Zd (by omega)]
     unfold ZbV
     by_cases k8:s.1=8
     ·rw[Zx k8,Zb ⟨a0,by omega⟩]
      exact⟨_,rfl,fun _=>(by rw[if_pos k8,ctt]),fun q=>by cases q⟩
     rw[Zu k8,Zu k1]
     by_cases k2:s.1=2
     ·rw[if_pos k2]at hA
      rw[Zx k2,Zb ⟨a0,by omega⟩,ZHE ca,Ze]
      exact push (Zwx _ _) _ _ _ rfl (flip _) (by omega) hA
     rw[if_neg k2]at hA
     rw[Zu k2]
     by_cases k3:s.1=3
     ·rw[if_pos k3]at hA
      rw[Zx k3,Zb ⟨a0,by omega⟩,ZHC ca,Ze]
      exact push (Zwb _ _) _ _ _ rfl (flip _) (by omega) hA
     rw[if_neg k3]at hA
     rw[Zu k3]
     by_cases k4:s.1=4
     ·rw[if_pos k4]at hA
      rw[Zx k4,Zb ⟨a0,by omega⟩,ZHF ca,Ze]
      exact push (ZDd _) _ _ _ rfl (fun _=>rfl) (by omega) hA
     rw[if_neg k4]at hA
     rw[Zu k4,Zx (by omega),Zb ⟨a0,by omega⟩,ZF1 ca,Ze]
     exact push (Zzy _ _) _ _ _ rfl (fun _=>rfl) (by omega) hA
theorem ZIB {d d':DbT} {s:ZE} (h:Ztm d) (hf:d.1.length<900000) (hs:Ziw d s=some d'):Ztm d'∧d'.1.length≤d.1.length+1:=by
 unfold Ziw at hs
 cases hp:Zm2 s with
 |false=>rw[hp,cff]at hs;cases hs
 |true=>
  rw[hp,ctt]at hs
  by_cases k8:s.1=8
  ·rw[if_pos k8]at hs
   cases hv:Zif d s.2.1 with
   |false=>rw[hv,cff]at hs;cases hs
   |true=>
    rw[hv,ctt]at hs
    injection hs with hs
    subst hs
    exact⟨⟨h.good,by dsimp only;rw[Xam];exact h.gone,h.few⟩,Nat.le_succ _⟩
  ·rw[if_neg k8]at hs
   cases hv:(Zdz d s).1 with
   |false=>rw[hv,cff]at hs;cases hs
   |true=>
    rw[hv,ctt]at hs
    injection hs with hs
    subst hs
    have o1:=(ZKl h.good (by have:=h.few;omega) hv).1
    have o12:=ZBp o1
    have hg:=h.gone
    refine⟨⟨fun c hc=>?_,by dsimp only;rw[Xal,Xal,Xav,Xav,hg],by dsimp only;rw[Xal,Xav];omega⟩,by dsimp only;rw[Xal,Xav];omega⟩
    rcases List.mem_append.1 hc with q|q
    ·exact h.good c q
    ·rw[Xah]at q
     rw[q]
     exact⟨o1,by omega⟩
theorem ZGH {d d':DbT} {S:List ZE} {n:Nat} (hn:n<S.length) (h:ZhX d (S.take n)=some d'):ZhX d (S.take (n+1))=Ziw d' (S.getD n zS):=by
 rw[ZeE zS hn,ZsP,h,Ze]
 show (Ziw d' (S.getD n zS)).bind (fun d''=>some d'')=_
 cases Ziw d' (S.getD n zS)<;>rfl
theorem ZMw {d d':DbT} {S:List ZE} {n:Nat} (hn:n<S.length) (h:ZhX d (S.take n)=some d') (h2:Ziw d' (S.getD n zS)=none):ZhX d S=none:=by
 have e:S=S.take (n+1)++S.drop (n+1):=(List.take_append_drop _ _).symm
 rw[e,ZsP,ZGH hn h,h2]
 rfl
theorem ZGX {l:Zv} (hg:Zbv l) (h4:l.length≤400):Ztm (ZdP l):=⟨hg,XaG,by show l.length≤900000;omega⟩
def ZqS (S:List ZE):Prop:=∀s∈S,s.2.2.2.1.length≤1048576
theorem ZHI {l:Zv} {S:List ZE} (hs:Zjc l) (hS:ZqS S) :
  ∃r,Zwl l S=some r∧((r.1=true∧r.2.1 = -1∧(Ze1 l=true∧S.length≤1000)∧ZhX (ZdP l) S=some (r.2.2.1,r.2.2.2.1))∨(r.1=false∧0≤r.2.2.2.2∧¬((Ze1 l=true∧S.length≤1000)∧∃d,ZhX (ZdP l) S=some d))):=by
 unfold Zwl ZuN
 rw[ZkT l hs,Ze]
 cases hp:Ze1 l with
 |false=>rw[cnf];exact⟨_,rfl,Or.inr ⟨rfl,Xat _,fun h=>by cases h.1.1⟩⟩
 |true=>
  rw[cnt]
  by_cases q:1000<(S.length:Int)
  ·rw[Zc q];exact⟨_,rfl,Or.inr ⟨rfl,Xat _,fun h=>by have:=h.1.2;omega⟩⟩
  ·obtain⟨hg,h4⟩:=ZyR hs hp
   rw[Zd q,Zpo l (by omega),Ze,Zb ⟨by omega,by simp only[Zl];omega,rfl⟩,Xab]
   have:=Zb9 (f:=ZqZ S) (fun s:Int×Zv×List Bool=>∃n:Nat,s.1=n∧n≤S.length∧ZhX (ZdP l) (S.take n)=some (s.2.1,s.2.2)∧Ztm (s.2.1,s.2.2)∧s.2.1.length≤400+n) (fun s=>S.length - s.1.toNat)
    (fun r=>(r.1=true∧r.2.1 = -1∧(true=true∧S.length≤1000)∧ZhX (ZdP l) S=some (r.2.2.1,r.2.2.2.1))∨(r.1=false∧0≤r.2.2.2.2∧¬((true=true∧S.length≤1000)∧∃d,ZhX (ZdP l) S=some d))) ?_ ((0:Int),l,List.replicate l.length false) ⟨0,rfl,Nat.zero_le _,rfl,ZGX hg h4,by show l.length≤400+0;omega⟩
   ·exact this
   rintro⟨i,all,gone⟩ ⟨n,hn1,hn,hr,hok,hlen⟩
   dsimp only at hn1 hr hok hlen
   subst hn1
   unfold ZqZ
   dsimp only
   rcases Xag n S.length with h1|h1
   ·have hm:=hS _ (ZA (l:=S) (i:=n) (d:=zS) h1)
    obtain⟨r,er,h2,h3⟩:=ZF9 hok hm
    have er:ZeK (S.getD n (0,(0,(0,([],0))))) all gone=some r:=er
    rw[Zc (by omega),Zb ⟨by omega,by omega⟩,Xab,er,Ze]
    cases hr1:r.1 with
    |true=>
     left
     rw[cnt,Zf (by omega) (by omega)]
     have h2:=h2 hr1
     have hso:=ZIB hok (by dsimp only;omega) h2
     refine⟨_,rfl,⟨n+1,by simp,by omega,?_,hso.1,?_⟩,by (try dsimp only)<;>omega⟩
     ·dsimp only
      rw[ZGH h1 hr]
      exact h2
     ·have:=hso.2
      dsimp only at this ⊢
      omega
    |false=>
     right
     rw[cnf]
     refine⟨_,rfl,Or.inr ⟨rfl,by (try dsimp only)<;>omega,fun h=>?_⟩⟩
     obtain⟨_,d,hd⟩:=h
     rw[ZMw h1 hr (h3 hr1)]at hd
     cases hd
   ·right
    have hnn:n=S.length:=by omega
    rw[hnn,XaC]at hr
    rw[Zd (by omega)]
    exact⟨_,rfl,Or.inl ⟨rfl,rfl,⟨rfl,by omega⟩,hr⟩⟩
end Go.AE.Y
namespace Go.AE.Y
open Go Go.AE
set_option maxHeartbeats 400000
theorem ZKO:∀(S:List ZE) (d d':DbT),Ztm d→d.1.length+S.length≤900000→ZhX d S=some d'→Ztm d'∧d'.1.length≤d.1.length+S.length∧∀s∈S,Zm2 s=true
 |[],d,d',h,_,hr=>by
  have hr:some d=some d':=hr
  injection hr with hr
  subst hr
  exact⟨h,Nat.le_refl _,fun s hs=>absurd hs Xay⟩
 |s::S,d,d',h,hl,hr=>by
  have hr:(Ziw d s).bind (fun d1=>ZhX d1 S)=some d':=hr
  rw[Xaq]at hl
  cases hs:Ziw d s with
  |none=>rw[hs]at hr;cases hr
  |some d1=>
   rw[hs,Ze]at hr
   obtain⟨o1,o2⟩:=ZIB h (by omega) hs
   obtain⟨i1,i2,i3⟩:=ZKO S d1 d' o1 (by omega) hr
   refine⟨i1,by rw[Xaq];omega,fun x hx=>?_⟩
   rcases XaA.1 hx with e|e
   ·rw[e]
    unfold Ziw at hs
    cases hp:Zm2 s with
    |true=>rfl
    |false=>rw[hp,cff]at hs;cases hs
   ·exact i3 x e
theorem ZwH {l:Zv} {S:List ZE} {q:DbT×Nat}:Zkj l S=some q↔(Ze1 l=true∧S.length≤1000)∧ZhX (ZdP l) S=some q.1∧Zum q.1=some q.2:=by
 unfold Zkj
 by_cases h:Ze1 l=true∧S.length≤1000
 ·rw[if_pos h]
  cases hr:ZhX (ZdP l) S with
  |none=>exact⟨fun e=>(by cases e),fun e=>(by cases e.2.1)⟩
  |some d=>
   rw[Ze]
   cases hf:Zum d with
   |none=>
    refine⟨fun e=>(by cases e),fun e=>?_⟩
    have e1:=e.2.1
    injection e1 with e1
    have e2:=e.2.2
    rw[←e1,hf]at e2
    cases e2
   |some i=>
    constructor
    ·intro e
     have e:some (d,i)=some q:=e
     injection e with e
     subst e
     exact⟨h,rfl,hf⟩
    ·intro e
     have e1:=e.2.1
     injection e1 with e1
     have e2:=e.2.2
     rw[←e1,hf]at e2
     injection e2 with e2
     show some (d,i)=some q
     rw[e1,e2]
 ·rw[if_neg h]
  exact⟨fun e=>(by cases e),fun e=>absurd e.1 h⟩
theorem ZJF {R:Type} {f:Int→Option (Int⊕R)} (n:Nat) (p:Nat→Bool) (hit:Nat→R) (miss:R)
  (h:∀i:Nat,i<n→f i=some (bif p i then .inr (hit i)else .inl ((i:Int)+1))) (hn:f n=some (.inr miss)):loop f 0=some (match (List.range n).find? p with|some i=>hit i|none=>miss):=by
 have key:∀k i:Nat,i+k=n→loop f (i:Int)=some (match (List.range' i k).find? p with|some i=>hit i|none=>miss):=by
  intro k
  induction k with
  |zero=>
   intro i hi
   rw[ZcO,show i=n by omega,hn]
   rfl
  |succ k ih=>
   intro i hi
   rw[ZcO,h i (by omega),List.range'_succ,List.find?_cons]
   cases p i with
   |true=>rfl
   |false=>
    rw[cff]
    exact ih (i+1) (by omega)
 have:=key n 0 (by omega)
 rw[List.range_eq_range']
 exact this
theorem ZJx {r:Bool×Int×Zv×List Bool×Int} (h:Ztm (r.2.2.1,r.2.2.2.1)):loop (ZhS r) (0:Int)=some (match Zum (r.2.2.1,r.2.2.2.1)with|some i=>(true,(i:Int),r.2.2.1,r.2.2.2.1,0)|none=>(true,-1,r.2.2.1,r.2.2.2.1,0)):=by
 have hf:=h.few
 have hg:=h.gone
 dsimp only at hf hg
 unfold Zum
 refine ZJF r.2.2.1.length _ (fun i=>(true,(i:Int),r.2.2.1,r.2.2.2.1,0)) (true,-1,r.2.2.1,r.2.2.2.1,0) (fun i hi=>?_) ?_
 ·unfold ZhS
  rw[Zc (by omega),Zb ⟨by omega,by omega⟩,Zb ⟨by omega,by omega⟩,Xab]
  dsimp only
  cases hgi:r.2.2.2.1.getD i false with
  |true=>
   rw[cnt,Zf (by omega) (by omega)]
   rfl
  |false=>
   have hm:=(h.good _ (ZA (l:=r.2.2.1) (i:=i) (d:=([],0)) hi)).2
   have hfe:Ze9 (r.2.2.1.getD i ([],0))=some (Zts (r.2.2.1.getD i ([],0))):=ZEK hm
   rw[cnf,hfe,Ze]
   cases Zts (r.2.2.1.getD i ([],0))with
   |true=>rfl
   |false=>rw[cff,Zf (by omega) (by omega)];rfl
 ·unfold ZhS
  rw[Zd (by omega)]
theorem ZK0 {l:Zv} {S:List ZE} {d:DbT} (hs:Zjc l) (hp:Ze1 l=true∧S.length≤1000) (h:ZhX (ZdP l) S=some d):Ztm d∧d.1.length≤400+S.length∧∀s∈S,Zm2 s=true:=by
 obtain⟨hg,h4⟩:=ZyR hs hp.1
 have e:(ZdP l).1.length=l.length:=rfl
 obtain⟨a,b,c⟩:=ZKO S (ZdP l) d (ZGX hg h4) (by rw[e];omega) h
 exact⟨a,by rw[e]at b;omega,c⟩
theorem ZAB {l:Zv} {S:List ZE} (hs:Zjc l) (hS:ZqS S) :
  ∃r,Zoz l S=some r∧((∃q:DbT×Nat,Zkj l S=some q∧r=(true,(q.2:Int),q.1.1,q.1.2,0))∨(Zkj l S=none∧((r.1=true∧r.2.1 = -1)∨(r.1=false∧r.2.2.2.2 = -1)))):=by
 obtain⟨r,e,h⟩:=ZHI hs hS
 unfold Zoz
 rw[e,Ze]
 rcases h with⟨h1,h2,h3,h4⟩|⟨h1,h2,h3⟩
 ·rw[h1,ctt,h2,Zd (by decide),ZJx (ZK0 hs h3 h4).1]
  cases hf:Zum (r.2.2.1,r.2.2.2.1)with
  |some i=>exact⟨_,rfl,Or.inl ⟨((r.2.2.1,r.2.2.2.1),i),ZwH.2 ⟨h3,h4,hf⟩,rfl⟩⟩
  |none=>
   refine⟨_,rfl,Or.inr ⟨?_,Or.inl ⟨rfl,rfl⟩⟩⟩
   cases hq:Zkj l S with
   |none=>rfl
   |some q=>
    obtain⟨_,b,c⟩:=ZwH.1 hq
    rw[h4]at b
    injection b with b
    rw[←b,hf]at c
    cases c
 ·rw[h1,cff,Zc h2]
  refine⟨_,rfl,Or.inr ⟨?_,Or.inr ⟨rfl,rfl⟩⟩⟩
  cases hq:Zkj l S with
  |none=>rfl
  |some q=>
   obtain⟨a,b,c⟩:=ZwH.1 hq
   exact absurd ⟨a,_,b⟩ h3
theorem Zt3 {l:Zv} {S:List ZE} (hs:Zjc l) (hS:ZqS S):Zg8 l S=some (Zkj l S).isSome:=by
 obtain⟨r,e,h⟩:=ZAB hs hS
 unfold Zg8
 rw[e,Ze]
 rcases h with⟨q,hq,er⟩|⟨hq,⟨h1,h2⟩|⟨h1,h2⟩⟩
 ·rw[hq,er]
  show some (decide ((0:Int)≤(q.2:Int)))=_
  rw[Xad (by omega)]
  rfl
 ·rw[hq,h1,ctt,h2];rfl
 ·rw[hq,h1,cff,h2];rfl
end Go.AE.Y
namespace Go.AE.Y
open Go Go.AE
end Go.AE.Y
namespace Go.AE.Y
open Go Go.AE
theorem ZEo {m:Zo} {c:List Int}:∀n x b,Zlt m c n x b=(Zl0 m n x).foldl (ZbN m c) b
 |0,x,b=>rfl
 |n+1,x,b=>by
  unfold Zlt Zl0
  rw[Xa9]
  cases (Z8 m x).1 with
  |true=>rw[ctt,ctt,ZEo n]
  |false=>rfl
theorem ZAx {m:Zo} {c:List Int} {k:Nat}:∀(L:List (List Int)) (b:List Int),L.Pairwise (LtL k)→(∀z∈L,z≠[])→(b=[]∨∀z∈L,LtL k b z) →
  (b≠[]→L.foldl (ZbN m c) b≠[]∧(Z1 c (L.foldl (ZbN m c) b) (L.foldl (ZbN m c) b).length<Z1 c b b.length∨L.foldl (ZbN m c) b=b)) ∧
  (∀y∈L,Zd5 m y=true→L.foldl (ZbN m c) b≠[]∧(Z1 c (L.foldl (ZbN m c) b) (L.foldl (ZbN m c) b).length<Z1 c y y.length∨(Z1 c (L.foldl (ZbN m c) b) (L.foldl (ZbN m c) b).length=Z1 c y y.length∧(L.foldl (ZbN m c) b=y∨LtL k (L.foldl (ZbN m c) b) y)))) ∧
  (L.foldl (ZbN m c) b=b∨(L.foldl (ZbN m c) b∈L∧Zd5 m (L.foldl (ZbN m c) b)=true))
 |[],b,_,_,_=>⟨fun h=>⟨h,Or.inr rfl⟩,fun y hy _=>absurd hy Xay,Or.inl rfl⟩
 |x::L,b,hp,hne,hb=>by
  rw[Xa9]
  obtain⟨p1,p2⟩:=List.pairwise_cons.1 hp
  have hxne:=hne x Xas
  have hne':∀z∈L,z≠[]:=fun z hz=>hne z (Xao _ hz)
  cases hs:Zd5 m x&&(b.isEmpty||decide (Z1 c x x.length<Z1 c b b.length))with
  |true=>
   have e:ZbN m c b x=x:=by unfold ZbN;rw[hs,ctt]
   rw[e]
   rw[Xae,XbV,Xaf]at hs
   obtain⟨i1,i2,i3⟩:=ZAx (m:=m) (c:=c) L x p2 hne' (Or.inr p1)
   obtain⟨j1,j2⟩:=i1 hxne
   refine⟨fun hbn=>⟨j1,?_⟩,fun y hy hsy=>?_,?_⟩
   ·rcases hs.2 with h1|h1
    ·exact absurd (List.isEmpty_iff.1 h1) hbn
    ·left
     rcases j2 with j2|j2
     ·omega
     ·rw[j2];exact h1
   ·rcases XaA.1 hy with rfl|hy
    ·refine⟨j1,?_⟩
     rcases j2 with j2|j2
     ·exact Or.inl j2
     ·exact Or.inr ⟨by rw[j2],Or.inl j2⟩
    ·exact i2 y hy hsy
   ·right
    rcases i3 with i3|⟨i3,i4⟩
    ·rw[i3];exact⟨Xas,hs.1⟩
    ·exact⟨Xao _ i3,i4⟩
  |false=>
   have e:ZbN m c b x=b:=by unfold ZbN;rw[hs,cff]
   rw[e]
   have hb':b=[]∨∀z∈L,LtL k b z:=hb.imp id (fun h z hz=>h z (Xao _ hz))
   obtain⟨i1,i2,i3⟩:=ZAx (m:=m) (c:=c) L b p2 hne' hb'
   refine⟨i1,fun y hy hsy=>?_,i3.imp id (fun h=>⟨Xao _ h.1,h.2⟩)⟩
   rcases XaA.1 hy with rfl|hy
   ·rw[hsy,Xaj,Xbh,decide_eq_false_iff_not]at hs
    have hbn:b≠[]:=fun h=>by rw[h]at hs;exact absurd hs.1 (by decide)
    have hlt:LtL k b y:=by
     rcases hb with h|h
     ·exact absurd h hbn
     ·exact h y Xas
    obtain⟨j1,j2⟩:=i1 hbn
    refine⟨j1,?_⟩
    rcases j2 with j2|j2
    ·left;omega
    ·rw[j2]
     by_cases q:Z1 c b b.length<Z1 c y y.length
     ·exact Or.inl q
     ·exact Or.inr ⟨by omega,Or.inr hlt⟩
   ·exact i2 y hy hsy
theorem ZMj {m:Zo} {c:List Int} (hm:Zy m=true):(∀y,ZJ m y=true→Zd5 m y=true→Zgh m c≠[]∧(Z1 c (Zgh m c) (Zgh m c).length<Z1 c y y.length∨(Z1 c (Zgh m c) (Zgh m c).length=Z1 c y y.length∧(Zgh m c=y∨LtL m.1.length (Zgh m c) y))))∧(Zgh m c=[]∨(ZJ m (Zgh m c)=true∧Zd5 m (Zgh m c)=true)):=by
 have hz:=ZnC hm
 have e:Zgh m c=(ZpF m (Zmv m)).foldl (ZbN m c) []:=by unfold Zgh ZpF Zmv;exact ZEo 1024 _ _
 rw[e]
 obtain⟨_,i2,i3⟩:=ZAx (m:=m) (c:=c) (ZpF m (Zmv m)) [] (ZB5 1024 _ hz) (fun z hzz=>ZL6 hm (ZNq hz hzz)) (Or.inl rfl)
 refine⟨fun y hy hs=>i2 y ((Zvo hm).2 hy) hs,?_⟩
 rcases i3 with h|⟨h1,h2⟩
 ·exact Or.inl h
 ·exact Or.inr ⟨(Zvo hm).1 h1,h2⟩
theorem Zxu (m:Zo) (x:List Int) (h:Zek m) (hx:x.length≤1048576):ZkW m x=some (Zy m&&ZJ m x&&Zd5 m x):=by
 unfold ZkW
 rw[ZrJ m x h hx,Ze]
 cases hv:Zy m&&ZJ m x with
 |false=>rw[cff,Xai]
 |true=>
  rw[Xae]at hv
  rw[ctt,Zvc h hv.1 hv.2,Ze,Xaj]
end Go.AE.Y
namespace Go.AE.Y
open Go Go.AE
set_option maxHeartbeats 400000
noncomputable def ZBn (m:Zo) (c x:List Int) (S:List ZE):Bool:=
 (Zy m&&decide ((Zcd m).length<400))&&((ZJ m x&&Zd5 m x)&&Zgi m c)&&(Zkj (Zcd m++[obC m c (Z1 c x x.length - 1)]) S).isSome
theorem ZGs {m:Zo} {c x:List Int} (hx:x≠[]):Zdm m c x=Zcd m++[obC m c (Z1 c x x.length - 1)]:=if_neg hx
theorem Zwk {m:Zo} {c x:List Int} {S:List ZE} (h:Zek m) (hcl:c.length≤1048576) (hxl:x.length≤1048576) (hS:ZqS S):ZgK m c x S=some (ZBn m c x S):=by
 unfold ZgK ZmV ZBn
 rw[Zqn m h,Ze]
 unfold ZCU
 cases hm:Zy m with
 |false=>rw[Xai,Xai,Xai,Xai,cff];rfl
 |true=>
  rw[Xaj,Xaj]
  by_cases q4:(Zcd m).length≤400
  case neg=>
   rw[decide_eq_false q4,cff,decide_eq_false (show ¬(Zcd m).length<400 by omega),Xai,Xai]
   rfl
  rw[Xad q4,ctt,ctt,Ze]
  dsimp only
  by_cases q:(Zcd m).length<400
  case neg=>
   rw[decide_eq_false (show ¬((Zcd m).length:Int)<400 by omega),cnf,decide_eq_false q,Xai,Xai]
  rw[Xad (show ((Zcd m).length:Int)<400 by omega),cnt,Xad q,Xaj,Zxu m x h hxl,Ze,hm,Xaj]
  cases hx:ZJ m x&&Zd5 m x with
  |false=>rw[cnf,Xai,Xai]
  |true=>
   rw[cnt,Zfz m c hcl,Ze,Xaj]
   cases hc:Zgi m c with
   |false=>rw[cnf,Xai]
   |true=>
    rw[Xae]at hx
    obtain⟨b1,b2,b3,b4,b5⟩:=ZuD hm hc hx.1
    have hb:=b5 x.length (Nat.le_refl _)
    have hxne:x≠[]:=fun e=>by rw[e]at b4;simp at b4
    obtain⟨r1,_,_⟩:=ZAR hm hc q (Or.inr ⟨hx.1,hx.2⟩:ZE3 m x)
    rw[ZGs hxne]at r1
    rw[cnt,Zi6 b2 b3 b1,Ze,Zf (by omega) (by omega),ZmS m c _ h hcl,Ze,(ZBT hm hc ⟨by omega,by omega⟩).1]
    unfold ZkN
    dsimp only
    rw[ctt,Zpo _ (by omega),Ze,Zb (by simp only[Zl,Xaq,Xap];omega)]
    have e:=Zt3 r1 hS
    rw[show ((obC m c (Z1 c x x.length - 1)).1,(obC m c (Z1 c x x.length - 1)).2)=obC m c (Z1 c x x.length - 1) from rfl,e,Ze,Xaj]
end Go.AE.Y
namespace Go.AE.Y
open Go Go.AE
set_option maxHeartbeats 400000
end Go.AE.Y
namespace Go.AE.Y
open Go Go.AE
set_option maxHeartbeats 400000
theorem ZKP {L L':Zv} {S S':List ZE} (h:RupExt L S L' S') (hS:ZqS S):ZqS S':=by
 induction h with
 |refl=>exact hS
 |snoc _ h1 h2 h3 ih=>
  intro s hs
  rcases List.mem_append.1 hs with q|q
  ·exact ih s q
  ·rw[Xah.1 q]
   show _≤1048576
   unfold ZwK
   dsimp only
   omega
end Go.AE.Y
namespace Go.AE.Y
open Go Go.AE
set_option maxHeartbeats 400000
def ZNp (x:Zv) (S:List ZE):Prop:=ZqS S∧∃q,Zkj x S=some q
theorem ZNg {f:Int}:∀(x:Zv) (r:Int×List Bool×List ZE),Zjc x→ZcG x f=some r→r.1=2→r.2.2.length≤1000→ZNp x r.2.2:=fun x r hs e h2 ht=>by
 obtain⟨_,L',hru,_⟩:=ZEf hs e h2
 exact⟨ZKP hru (fun s hs=>absurd hs Xay),ZEX hs e h2 ht⟩
theorem ZNy {S:List ZE} (h:Zg7 S) (hl:S.length≤1000):ZIA S:=⟨by omega,fun s hs=>by have:=h s hs;show _≤1048576;omega⟩
theorem ZHO {m:Zo} {c best y:List Int} (hm:Zy m=true) (hno:∀v,¬Zei (Zdm m c best) v) (hy:ZJ m y=true) (hs:Zd5 m y=true):best≠[]∧Z1 c best best.length≤Z1 c y y.length:=by
 have hd:=ZM1 hm hy
 have he:=(ZIb hm).2 ⟨y,hd,hs⟩
 by_cases e:best=[]
 ·exfalso
  refine hno (Zr9 m y y.length) (fun z hz=>?_)
  unfold Zdm at hz
  rw[if_pos e]at hz
  exact he z hz
 ·refine⟨e,?_⟩
  by_cases q:Z1 c best best.length≤Z1 c y y.length
  ·exact q
  ·exfalso
   refine hno (Zr9 m y y.length) (fun z hz=>?_)
   unfold Zdm at hz
   rw[if_neg e]at hz
   rcases List.mem_append.1 hz with w|w
   ·exact he z w
   ·rw[Xah.1 w,ZIt hm hd,Xaf]
    omega
theorem ZKF {m:Zo} {c best:List Int} (hm:Zy m=true) (hb:ZJ m best=true) (hs:Zd5 m best=true) (hno:∀v,¬Zei (Zdm m c best) v):(Zgh m c).isEmpty=false∧ZJ m (Zgh m c)=true∧Z1 c (Zgh m c) (Zgh m c).length=Z1 c best best.length:=by
 obtain⟨b1,b2⟩:=ZMj (m:=m) (c:=c) hm
 obtain⟨n1,n2⟩:=b1 best hb hs
 rcases b2 with b2|⟨b2,b3⟩
 ·exact absurd b2 n1
 ·have h1:=(ZHO (c:=c) hm hno b2 b3).2
  refine⟨ZBB n1,b2,?_⟩
  rcases n2 with n2|⟨n2,_⟩
  ·omega
  ·exact n2
theorem ZIu {m:Zo} {c y:List Int} (hm:Zy m=true) (hc:Zgi m c=true) (hy:ZJ m y=true):ZJM m c y=(Z1 c y y.length,true):=by
 unfold ZJM
 rw[hm,hc,hy,Xaj,Xaj,ctt]
theorem ZtL {a:List Int} (h:∀x∈a,0≤x∧x≤255):∃f c m,Zgv a=some (f,c,m.1,m.2)∧c.length≤9∧okM m:=by
 unfold Zgv
 obtain⟨r,e1,h1⟩:=ZNf h
 obtain⟨r2,m,e2,a2,m2⟩:=ZCc (h1.wk (by omega))
 have h2:RdOk r2 2000:=a2.ok h1 (by omega)
 have m2':m.1.length≤4∧m.2.length≤4∧∀r∈m.2,okR r:=m2
 obtain⟨r3,m',e3,a3,m3⟩:=ZAW (m:=m) (h2.wk (by omega)) m2'
 have h3:RdOk r3 3000:=a3.ok h2 (by omega)
 obtain⟨r4,c,e4,a4,m4⟩:=ZDq (o1:=m'.1) m'.2 (h3.wk (by omega)) (by omega)
 have h4:RdOk r4 4000:=a4.ok h3 (by omega)
 obtain⟨f,r5,e5,_,_⟩:=Zgq (l:=[300,500,200,2,0,2001,-1]) (r:=r4) (h4.wk (by omega)) (by decide)
 rw[e1,Ze,e2,Ze]
 dsimp only
 rw[e3,Ze]
 dsimp only
 rw[e4,Ze]
 dsimp only
 rw[e5,Ze]
 exact⟨f,c,m',rfl,m4,ZNI m3⟩
theorem ZyA {a:List Int} (ha:∀x∈a,0≤x∧x≤255):ZlZ a=some true:=by
 unfold ZlZ
 by_cases h0:1048576<(a.length:Int)
 ·rw[Zc h0]
 rw[Zd h0]
 obtain⟨f,c,m,e1,hcl,hok⟩:=ZtL ha
 have hs:Zek m:=hok.small
 obtain⟨q,i1,i2,hq⟩:=ZJU (Q:=ZNp) f ZNg hs (show c.length≤1048576 by omega)
 rw[e1,Ze]
 dsimp only
 have i1:ZgP (m.1,m.2) c f=some q:=i1
 have i2:ZgW (m.1,m.2) c f=some q:=i2
 rw[i1,Ze,i2,Ze,bne_self_eq_false,cff,beq_self_eq_true]
 rcases hq with e|⟨⟨hm,hc,hl,_⟩,ho⟩
 ·rw[e]
  dsimp only
  rw[Zz2 _ (by simp),Ze,cnt,Zu5 _ ⟨Nat.zero_le _,fun s hs=>absurd hs Xay⟩,Ze,cnt,ctt,Ze,ctt,Ze]
  rfl
 ·have hbl:q.2.1.length≤5:=by
   rcases ho.best with e|⟨h1,_⟩
   ·rw[e];exact Nat.zero_le _
   ·have:=(Zcu h1).1
    have:=(ZcN hm).2.1
    omega
  rw[Zz2 _ (by omega),Ze,cnt,Zu5 _ (ZNy ho.few ho.top),Ze,cnt,ctt,Ze,ctt,Ze]
  by_cases q1:q.1=1
  case neg=>rw[Zd9 q1]
  obtain⟨hne,hno⟩:=ho.opt q1
  rcases ho.best with e|⟨hb,hsol⟩
  ·exact absurd e hne
  obtain⟨n1,n2,n3⟩:=ZKF hm hb hsol hno
  have hml:=(Zcu n2).1
  have hm5:=(ZcN hm).2.1
  obtain⟨hst,w,hw⟩:=ho.steps (by omega)
  have emin:ZFc m c=(true,Zgh m c):=by
   unfold ZFc
   rw[hm,hc,Bool.and_self,ctt,n1]
   rfl
  have j1:Zga (m.1,m.2) c=some (true,Zgh m c):=by rw[←emin];exact Zvb m c hs (by omega)
  have j2:ZdT (m.1,m.2) c q.2.1=some (Z1 c q.2.1 q.2.1.length,true):=by rw[←ZIu hm hc hb];exact Zok m c q.2.1 hs (by omega) (by omega)
  have j3:ZdT (m.1,m.2) c (Zgh m c)=some (Z1 c (Zgh m c) (Zgh m c).length,true):=by rw[←ZIu hm hc n2];exact Zok m c (Zgh m c) hs (by omega) (by omega)
  have ech:ZBn m c q.2.1 q.2.2=true:=by
   unfold ZBn
   rw[←ZGs hne,hw,hm,hb,hsol,hc,Xad hl]
   rfl
  have j4:ZgK (m.1,m.2) c q.2.1 q.2.2=some true:=by rw[←ech];exact Zwk hs (by omega) (by omega) hst
  rw[Zdh q1,j1,Ze,j2,Ze]
  dsimp only
  rw[j3,Ze,ctt,ctt,ctt,n3,beq_self_eq_true,ctt,j4,Ze]
end Go.AE.Y
