/-
  Plain laws of the models, in one text. No conditions.
-/
import Derived.Test.YtaeeiddjpigemaaGreatPx1
namespace Go.AE.Y
open Go Go.AE
set_option maxHeartbeats 400000
def ZeA (g:Nat→Int):Nat→Int
 |0=>0
 |n+1=>ZeA g n+g n
theorem ZCI (g h:Nat→Int):∀n,ZeA (fun i=>g i+h i) n=ZeA g n+ZeA h n
 |0=>rfl
 |n+1=>by unfold ZeA;rw[ZCI g h n];omega
theorem Zxv (c:Nat) (a:Int):∀n,ZeA (fun i=>if i=c then a else 0) n=if c<n then a else 0
 |0=>by rw[if_neg (by omega)];rfl
 |n+1=>by
  unfold ZeA
  rw[Zxv c a n]
  by_cases q:c<n
  ·rw[if_pos q,if_neg (by omega),if_pos (by omega)];omega
  ·by_cases q2:n=c
   ·rw[if_neg q,if_pos q2,if_pos (by omega)];omega
   ·rw[if_neg q,if_neg q2,if_neg (by omega)];omega
theorem Zt0 {g h:Nat→Int}:∀n,(∀i,i<n→g i=h i)→ZeA g n=ZeA h n
 |0,_=>rfl
 |n+1,e=>by unfold ZeA;rw[Zt0 n (fun i hi=>e i (by omega)),e n (by omega)]
theorem Zzg {g h:Nat→Int}:∀n,(∀i,i<n→g i≤h i)→ZeA g n≤ZeA h n
 |0,_=>XaD _
 |n+1,e=>by
  have:=Zzg n (fun i hi=>e i (by omega))
  have:=e n (by omega)
  unfold ZeA
  omega
theorem ZFy {f:Nat→Int} {n:Nat}:∀l:List Nat,l.Nodup→(∀x∈l,x<n)→(l.map f).sum=ZeA (fun i=>if i∈l then f i else 0) n
 |[],_,_=>by
  have:ZeA (fun i=>if i∈([]:List Nat)then f i else 0) n=ZeA (fun i=>if i=n then 0 else 0) n:=Zt0 n (fun i hi=>by rw[if_neg XaJ,if_neg (by omega)])
  rw[this,Zxv,if_neg (by omega)]
  rfl
 |c::l,hn,hx=>by
  rw[Xa8]at hn
  have e:ZeA (fun i=>if i∈c::l then f i else 0) n=ZeA (fun i=>(if i=c then f c else 0)+(if i∈l then f i else 0)) n:=Zt0 n (fun i hi=>by
   by_cases q:i=c
   ·subst q
    rw[if_pos XaB,if_pos rfl,if_neg hn.1];omega
   ·by_cases q2:i∈l
    ·rw[if_pos (Xau _ q2),if_neg q,if_pos q2];omega
    ·rw[if_neg (fun h=>(Xaz.1 h).elim q q2),if_neg q,if_neg q2];omega)
  rw[e,ZCI,Zxv,if_pos (hx c XaB),XaR,XbK,ZFy l hn.2 (fun x h=>hx x (Xau _ h))]
theorem Ztn {α β:Type} {f:α→β} {l:List α} (h:∀a∈l,∀b∈l,f a=f b→a=b) (hn:l.Nodup):(l.map f).Nodup:=by
 induction l with
 |nil=>exact List.Pairwise.nil
 |cons a l ih=>
  rw[Xa8]at hn
  rw[XaR,Xa8]
  refine⟨fun hm=>?_,ih (fun x hx y hy=>h x (Xau _ hx) y (Xau _ hy)) hn.2⟩
  obtain⟨b,hb,e⟩:=XaL.1 hm
  have:=h b (Xau _ hb) a XaB e
  rw[this]at hb
  exact hn.1 hb
def Zcu (m:Zt) (i k:Nat):Int:=1+(k:Int)+Zbm m i
theorem ZKc {m:Zt} (hm:ZF m=true) {i:Nat} (hi:i≤m.1.length):0≤Zbm m i:=by
 have:=(ZkJ hm i hi).1
 omega
theorem Zdy {m:Zt} (hm:ZF m=true) {i k:Nat} (hi:i<m.1.length) (hk:(k:Int)≤m.1.getD i 0):1≤Zcu m i k∧Zcu m i k≤Zbm m (i+1)∧Zcu m i k≤12∧1+Zbm m i≤Zcu m i k:=by
 have h0:=ZKc hm (Nat.le_of_lt hi)
 have h1:=(ZkJ hm (i+1) (by omega)).2
 have h2:=Zg9 (m:=m) hi
 unfold Zcu
 omega
theorem ZLc {m:Zt} (hm:ZF m=true) {i k:Nat} (hi:i<m.1.length) (hk:(k:Int)≤m.1.getD i 0):Zbt (Zcu m i k)=true∧vof (Zcu m i k)=Zcu m i k∧Zbt (0 - Zcu m i k)=true∧vof (0 - Zcu m i k)=Zcu m i k:=by
 have h:=Zdy hm hi hk
 refine⟨ZP.2 ⟨by omega,by omega,by omega⟩,by unfold vof;omega,ZP.2 ⟨by omega,by omega,by omega⟩,by unfold vof;omega⟩
theorem ZB2 {m:Zt} (hm:ZF m=true) {i k i' k':Nat} (hi:i<m.1.length) (hk:(k:Int)≤m.1.getD i 0) (hi':i'<m.1.length) (hk':(k':Int)≤m.1.getD i' 0) (h:Zcu m i k=Zcu m i' k'):i=i'∧k=k':=by
 have h1:=Zdy hm hi hk
 have h2:=Zdy hm hi' hk'
 have mono:∀a b,a<b→b≤m.1.length→Zbm m (a+1)≤Zbm m b:=fun a b hab hb=>by
  have:=ZCm hm (a+1) (b - (a+1)) (by omega)
  rwa [show a+1+(b - (a+1))=b by omega]at this
 rcases Nat.lt_trichotomy i i' with q|q|q
 ·have:=mono i i' q (by omega)
  omega
 ·subst q
  unfold Zcu at h
  exact⟨rfl,by omega⟩
 ·have:=mono i' i q (by omega)
  omega
def ZmD (vs:List Int):List (Int×Int)×Int:=(Zi2 (Zxa vs),(vs.length:Int) - 1)
def Zmz (vs:List Int):List (Int×Int)×Int:=(Zi2 (ZfL vs),1)
def ZfN (m:Zt) (i:Nat):Nat:=(m.1.getD i 0+1).toNat
def ZeC (m:Zt) (i:Nat):List Int:=(List.range (ZfN m i)).map (Zcu m i)
def Zo1 (m:Zt) (i:Nat):List (List (Int×Int)×Int):=[Zmz (ZeC m i),ZmD (ZeC m i)]
theorem Zoa {m:Zt} (hm:ZF m=true) {i k:Nat} (hi:i<m.1.length):k<ZfN m i↔(k:Int)≤m.1.getD i 0:=by
 have:=ZeS hm hi
 unfold ZfN
 omega
theorem Zzm {m:Zt} (hm:ZF m=true) {i:Nat} (hi:i<m.1.length):ZcF (ZeC m i)=true∧(ZeC m i).Nodup∧(∀x∈ZeC m i,x≠0)∧1≤(ZeC m i).length∧(ZeC m i).length≤4:=by
 have hs:=ZeS hm hi
 have hroom:∀x∈ZeC m i,1≤x∧x≤12:=fun x hx=>by
  obtain⟨k,hk,rfl⟩:=XaL.1 hx
  have:=Zdy hm hi ((Zoa hm hi).1 (XaF.1 hk))
  omega
 refine⟨?_,?_,fun x hx=>by have:=hroom x hx;omega,?_,?_⟩
 ·unfold ZcF
  rw[Xaf,Xan,Xan]
  refine⟨fun x hx=>ZP.2 (by have:=hroom x hx;omega),fun x hx=>?_⟩
  rw[Xbe,XaV]
  intro y hy e
  have:=hroom x hx
  have:=hroom y hy
  have:=beq_iff_eq.1 e
  omega
 ·unfold ZeC
  refine Ztn (fun a _ b _ e=>?_) List.nodup_range
  unfold Zcu at e
  omega
 ·unfold ZeC ZfN
  rw[Xas,XaK]
  omega
 ·unfold ZeC ZfN
  rw[Xas,XaK]
  omega
end Go.AE.Y
namespace Go.AE.Y
open Go Go.AE
abbrev ZD:=List (List (Int×Int)×Int)
def OkP (p:List Int):Prop:=p.length=12∧∀j,p.getD j 0=0∨p.getD j 0=1∨p.getD j 0 = -1
def agP (p:List Int) (v:List Bool):Prop:=∀j,p.getD j 0≠0→v.getD j false=decide (0<p.getD j 0)
def unZ (l:Int) (p:List Int):Int:=if l<0 then 0 - p.getD (0 - l - 1).toNat 0 else p.getD (l - 1).toNat 0
def Zvo (L:ZD) (v:List Bool):Prop:=∀c∈L,Zb2 v c=true
def Zeu (L:ZD):Prop:=∀c∈L,Zw c=true∧c.1.length≤1048576
theorem Zqo {l:Int} {p:List Int} (hl:Zbt l=true) (hp:OkP p):ZnN l p=some (unZ l p):=by
 have h:=ZP.1 hl
 obtain⟨h12,hv⟩:=hp
 unfold ZnN unZ
 by_cases q:l<0
 ·have:=hv (0 - l - 1).toNat
  rw[Zd q,if_pos q,Zg (by omega) (by omega),Zg (by omega) (by omega),Zb ⟨by omega,by omega⟩,Zg (by omega) (by omega)]
 ·rw[Zc q,if_neg q,Zg (by omega) (by omega),Zb ⟨by omega,by omega⟩]
theorem ZLa {l:Int} {p:List Int} {v:List Bool} (hl:Zbt l=true) (hp:OkP p) (ha:agP p v):(unZ l p<0→Zcz v l=false)∧(0<unZ l p→Zcz v l=true):=by
 have h:=ZP.1 hl
 unfold unZ Zcz
 by_cases q:l<0
 ·rw[if_pos q,show vof l=0 - l by unfold vof;omega,decide_eq_false (show ¬0<l by omega)]
  have h1:=ha (0 - l - 1).toNat
  have h2:=hp.2 (0 - l - 1).toNat
  constructor
  ·intro h3
   rw[h1 (by omega),Xae (by omega)]
   rfl
  ·intro h3
   rw[h1 (by omega),decide_eq_false (by omega)]
   rfl
 ·rw[if_neg q,show vof l=l by unfold vof;omega,Xae (show 0<l by omega)]
  have h1:=ha (l - 1).toNat
  constructor
  ·intro h3
   rw[h1 (by omega),decide_eq_false (by omega)]
   rfl
  ·intro h3
   rw[h1 (by omega),Xae (by omega)]
   rfl
def ZdJ (c:List (Int×Int)) (p:List Int):Nat→Int
 |0=>0
 |n+1=>ZdJ c p n+(if 0≤unZ (c.getD n (0,0)).2 p then(c.getD n (0,0)).1 else 0)
def Zsh (c:List (Int×Int)) (v:List Bool):Nat→Int
 |0=>0
 |n+1=>Zsh c v n+(if Zcz v (c.getD n (0,0)).2=true then(c.getD n (0,0)).1 else 0)
theorem ZG8 (c:List (Int×Int)) (v:List Bool):∀n,n≤c.length→ZcB v (c.take n)=Zsh c v n
 |0,_=>rfl
 |n+1,h=>by
  have ih:=ZG8 c v n (by omega)
  unfold ZcB at ih ⊢
  rw[Xa4,Xac (show n<c.length by omega),Xa5,ih]
  have e2:Zsh c v (n+1)=Zsh c v n+(if Zcz v (c.getD n (0,0)).2=true then(c.getD n (0,0)).1 else 0):=rfl
  have e:c.getD n (0,0)=c[n]:=by rw[Xab,Xac (show n<c.length by omega)];rfl
  rw[e2,e]
  show (bif Zcz v c[n].2 then Zsh c v n+c[n].1 else Zsh c v n)=_
  cases Zcz v c[n].2 with
  |true=>rw[ctt,if_pos rfl]
  |false=>rw[cff,if_neg (by decide)];omega
theorem ZcX {c:List (Int×Int)×Int} (h:Zw c=true):(0≤c.2∧c.2≤20000)∧∀i,i<c.1.length→Zbt (c.1.getD i (0,0)).2=true∧1≤(c.1.getD i (0,0)).1∧(c.1.getD i (0,0)).1≤1000:=by
 have h2:=ZHQ h
 unfold Zw at h
 simp only[Xaf,Xai]at h
 exact⟨h.2,fun i hi=>⟨ZP.2 (h2 i hi).1,(h2 i hi).2⟩⟩
theorem Zvq {c:List (Int×Int)×Int} (h:Zw c=true) (p:List Int):∀n:Nat,n≤c.1.length→0≤ZdJ c.1 p n∧ZdJ c.1 p n≤1000*n
 |0,_=>⟨XaD _,XaD _⟩
 |n+1,hn=>by
  have ih:=Zvq h p n (by omega)
  have:=(ZcX h).2 n (by omega)
  unfold ZdJ
  split<;>omega
theorem ZjI {c:List (Int×Int)×Int} {p:List Int} (hc:Zw c=true) (hl:c.1.length≤1048576) (hp:OkP p):ZdB c p=some (ZdJ c.1 p c.1.length - c.2):=by
 obtain⟨c1,c2⟩:=ZcX hc
 unfold ZdB
 rw[Zg (by omega) (by omega)]
 refine ZH (f:=ZdQ c p) (fun s:Int×Int=>∃n:Nat,s.2=n∧n≤c.1.length∧s.1=ZdJ c.1 p n - c.2) (fun s=>c.1.length - s.2.toNat) (fun _=>ZdJ c.1 p c.1.length - c.2) ?_ _ ⟨0,rfl,Nat.zero_le _,by show 0 - c.2=0 - c.2;rfl⟩
 rintro⟨o,s⟩ ⟨n,hs,hn,ho⟩
 dsimp only at hs ho ⊢
 subst hs
 subst ho
 have hb:=Zvq hc p n hn
 unfold ZdQ
 dsimp only
 rcases Xah n c.1.length with h1|h1
 ·left
  obtain⟨l1,l2,l3⟩:=c2 n h1
  rw[Zd (by omega),Zb ⟨by omega,by omega⟩,Xaa,Zqo l1 hp,Ze]
  by_cases q:0≤unZ (c.1.getD n (0,0)).2 p
  ·rw[Zd q,Zg (by omega) (by omega),Zg (by omega) (by omega)]
   refine⟨_,rfl,⟨n+1,by simp,by omega,?_⟩,by (try dsimp only)<;>omega,rfl⟩
   dsimp only
   conv=>rhs;unfold ZdJ
   rw[if_pos q]
   omega
  ·rw[Zc q,Zg (by omega) (by omega)]
   refine⟨_,rfl,⟨n+1,by simp,by omega,?_⟩,by (try dsimp only)<;>omega,rfl⟩
   dsimp only
   conv=>rhs;unfold ZdJ
   rw[if_neg q]
   omega
 ·right
  have:n=c.1.length:=by omega
  rw[Zc (by omega),this]
theorem ZB0 {c:List (Int×Int)×Int} {p:List Int} {v:List Bool} (hc:Zw c=true) (hp:OkP p) (ha:agP p v):∀n,n≤c.1.length→Zsh c.1 v n≤ZdJ c.1 p n∧∀i,i<n→0≤unZ (c.1.getD i (0,0)).2 p→Zcz v (c.1.getD i (0,0)).2=false→Zsh c.1 v n+(c.1.getD i (0,0)).1≤ZdJ c.1 p n
 |0,_=>⟨XaD _,fun i hi=>by omega⟩
 |n+1,hn=>by
  obtain⟨i1,i2⟩:=ZB0 hc hp ha n (by omega)
  obtain⟨l1,l2,l3⟩:=(ZcX hc).2 n (by omega)
  obtain⟨u1,u2⟩:=ZLa l1 hp ha
  have e1:ZdJ c.1 p (n+1)=ZdJ c.1 p n+(if 0≤unZ (c.1.getD n (0,0)).2 p then(c.1.getD n (0,0)).1 else 0):=rfl
  have e2:Zsh c.1 v (n+1)=Zsh c.1 v n+(if Zcz v (c.1.getD n (0,0)).2=true then(c.1.getD n (0,0)).1 else 0):=rfl
  have hle:(if Zcz v (c.1.getD n (0,0)).2=true then(c.1.getD n (0,0)).1 else 0)≤(if 0≤unZ (c.1.getD n (0,0)).2 p then(c.1.getD n (0,0)).1 else 0):=by
   by_cases q:0≤unZ (c.1.getD n (0,0)).2 p
   ·rw[if_pos q]
    split<;>omega
   ·rw[if_neg q,u1 (by omega),if_neg (by decide)]
    omega
  refine⟨by omega,fun i hi h1 h2=>?_⟩
  rcases Xah i n with h3|h3
  ·have:=i2 i h3 h1 h2
   omega
  ·have:i=n:=by omega
   subst this
   rw[e1,e2,if_pos h1,h2,if_neg (by decide)]
   omega
theorem ZCr (v:List Bool) (c:List (Int×Int)×Int):Zb2 v c=true↔c.2≤Zsh c.1 v c.1.length:=by
 unfold Zb2
 rw[Xai,←ZG8 c.1 v c.1.length (Nat.le_refl _),Xav]
theorem ZFk {c:List (Int×Int)×Int} {p:List Int} {v:List Bool} (hc:Zw c=true) (hp:OkP p) (ha:agP p v) (h:ZdJ c.1 p c.1.length - c.2<0):¬Zb2 v c=true:=by
 rw[ZCr]
 have:=(ZB0 hc hp ha c.1.length (Nat.le_refl _)).1
 omega
theorem Zte {c:List (Int×Int)×Int} {p:List Int} (hc:Zw c=true) (hl:c.1.length≤1048576) (hp:OkP p):∃o,ZcH c p=some o∧o.length≤1048576∧∀l∈o,Zbt l=true∧unZ l p=0∧∀v,agP p v→Zb2 v c=true→Zcz v l=true:=by
 obtain⟨c1,c2⟩:=ZcX hc
 unfold ZcH
 rw[ZjI hc hl hp,Ze]
 refine Zis (f:=ZcQ c p (ZdJ c.1 p c.1.length - c.2)) (fun s:Int×List Int=>∃n:Nat,s.1=n∧n≤c.1.length∧s.2.length≤n∧∀l∈s.2,Zbt l=true∧unZ l p=0∧∀v,agP p v→Zb2 v c=true→Zcz v l=true) (fun s=>c.1.length - s.1.toNat) (fun o=>o.length≤1048576∧∀l∈o,Zbt l=true∧unZ l p=0∧∀v,agP p v→Zb2 v c=true→Zcz v l=true) ?_ _ ⟨0,rfl,Nat.zero_le _,Nat.le_refl _,fun l h=>absurd h XaJ⟩
 rintro⟨s,o⟩ ⟨n,hs,hn,ho,hall⟩
 dsimp only at hs ho hall ⊢
 subst hs
 unfold ZcQ
 dsimp only
 rcases Xah n c.1.length with h1|h1
 ·left
  obtain⟨l1,l2,l3⟩:=c2 n h1
  rw[Zd (by omega),Zb ⟨by omega,by omega⟩,Xaa,Zqo l1 hp,Ze]
  by_cases q:unZ (c.1.getD n (0,0)).2 p=0
  ·rw[Zu q]
   by_cases q2:ZdJ c.1 p c.1.length - c.2<(c.1.getD n (0,0)).1
   ·rw[Zd q2,Zb (by simp[Zp];omega),Zg (by omega) (by omega)]
    refine⟨_,rfl,⟨n+1,by simp,by omega,by simp;omega,fun l h=>?_⟩,by (try dsimp only)<;>omega⟩
    rcases List.mem_append.1 h with h|h
    ·exact hall l h
    ·rw[Xaj]at h
     subst h
     refine⟨l1,q,fun v ha he=>?_⟩
     cases hb:Zcz v (c.1.getD n (0,0)).2 with
     |true=>rfl
     |false=>
      have:=(ZB0 hc hp ha c.1.length (Nat.le_refl _)).2 n h1 (by omega) hb
      have:=(ZCr v c).1 he
      omega
   ·rw[Zc q2,Zg (by omega) (by omega)]
    exact⟨_,rfl,⟨n+1,by simp,by omega,by (try dsimp only)<;>omega,hall⟩,by (try dsimp only)<;>omega⟩
  ·rw[Zs q,Zg (by omega) (by omega)]
   exact⟨_,rfl,⟨n+1,by simp,by omega,by (try dsimp only)<;>omega,hall⟩,by (try dsimp only)<;>omega⟩
 ·right
  rw[Zc (by omega)]
  exact⟨_,rfl,by omega,hall⟩
def Zm5 (l:Int) (p:List Int):List Int:=if 0<l then p.set (l - 1).toNat 1 else p.set (0 - l - 1).toNat (-1)
def zcN (p:List Int):Nat→Nat
 |0=>0
 |n+1=>zcN p n+(if p.getD n 0=0 then 1 else 0)
theorem ZCh {p:List Int} {j:Nat} {x:Int} (hj:j<p.length) (hx:x≠0):∀n,zcN (p.set j x) n+(if j<n∧p.getD j 0=0 then 1 else 0)=zcN p n
 |0=>by simp[zcN]
 |n+1=>by
  have ih:=ZCh hj hx n
  have e1:zcN (p.set j x) (n+1)=zcN (p.set j x) n+(if (p.set j x).getD n 0=0 then 1 else 0):=rfl
  have e2:zcN p (n+1)=zcN p n+(if p.getD n 0=0 then 1 else 0):=rfl
  rw[e1,e2]
  by_cases q:j=n
  ·subst q
   have hA:(if (p.set j x).getD j 0=0 then 1 else 0)=0:=if_neg (by rw[Zcp hj];exact hx)
   have hB:(if j<j∧p.getD j 0=0 then 1 else 0)=0:=if_neg (fun h=>absurd h.1 (by omega))
   rw[hB]at ih
   by_cases q2:p.getD j 0=0
   ·have hC:(if j<j+1∧p.getD j 0=0 then 1 else 0)=1:=if_pos ⟨by omega,q2⟩
    rw[hA,hC,if_pos q2]
    omega
   ·have hC:(if j<j+1∧p.getD j 0=0 then 1 else 0)=0:=if_neg (fun h=>q2 h.2)
    rw[hA,hC,if_neg q2]
    omega
  ·rw[ZU q]
   by_cases q2:j<n∧p.getD j 0=0
   ·have hC:(if j<n+1∧p.getD j 0=0 then 1 else 0)=1:=if_pos ⟨by omega,q2.2⟩
    rw[if_pos q2]at ih
    rw[hC]
    omega
   ·have hC:(if j<n+1∧p.getD j 0=0 then 1 else 0)=0:=if_neg (fun h=>q2 ⟨by omega,h.2⟩)
    rw[if_neg q2]at ih
    rw[hC]
    omega
theorem ZK8 {l:Int} {p:List Int} (hl:Zbt l=true) (hp:OkP p):OkP (Zm5 l p)∧(∀v,agP p v→Zcz v l=true→agP (Zm5 l p) v)∧zcN (Zm5 l p) 12≤zcN p 12∧(unZ l p=0→zcN (Zm5 l p) 12+1=zcN p 12)∧(∀j,(Zm5 l p).getD j 0=0→p.getD j 0=0)∧∀j,(Zm5 l p).getD j 0=if (j:Int)+1=vof l then(if 0<l then 1 else -1)else p.getD j 0:=by
 have h:=ZP.1 hl
 obtain⟨h12,hv⟩:=hp
 unfold Zm5 unZ
 by_cases q:0<l
 ·rw[if_pos q,if_neg (show ¬l<0 by omega)]
  have hj:(l - 1).toNat<p.length:=by omega
  have hz:=ZCh (p:=p) (x:=1) hj (by decide) 12
  have hg:∀j,(p.set (l - 1).toNat 1).getD j 0=if (j:Int)+1=vof l then 1 else p.getD j 0:=fun j=>by
   have:vof l=l:=by unfold vof;omega
   rw[this]
   by_cases e:(l - 1).toNat=j
   ·rw[←e,Zcp hj,if_pos (by omega)]
   ·rw[ZU e,if_neg (by omega)]
  refine⟨⟨by rw[Xap];exact h12,fun j=>?_⟩,fun v ha hb j hne=>?_,?_,fun h0=>?_,fun j h0=>?_,fun j=>by rw[if_pos q];exact hg j⟩
  ·rw[hg]
   split
   ·exact Or.inr (Or.inl rfl)
   ·exact hv j
  ·rw[hg]at hne ⊢
   split
   ·rename_i e
    rw[if_pos e]at hne
    unfold Zcz at hb
    rw[beq_iff_eq,Xae q,show (vof l - 1).toNat=j by omega]at hb
    rw[hb]
    rfl
   ·rename_i e
    rw[if_neg e]at hne
    exact ha j hne
  ·split at hz<;>omega
  ·rw[if_pos ⟨by omega,h0⟩]at hz
   exact hz
  ·rw[hg]at h0
   split at h0
   ·omega
   ·exact h0
 ·rw[if_neg q,if_pos (show l<0 by omega)]
  have hj:(0 - l - 1).toNat<p.length:=by omega
  have hz:=ZCh (p:=p) (x:=-1) hj (by decide) 12
  have hg:∀j,(p.set (0 - l - 1).toNat (-1)).getD j 0=if (j:Int)+1=vof l then -1 else p.getD j 0:=fun j=>by
   have:vof l=0 - l:=by unfold vof;omega
   rw[this]
   by_cases e:(0 - l - 1).toNat=j
   ·rw[←e,Zcp hj,if_pos (by omega)]
   ·rw[ZU e,if_neg (by omega)]
  refine⟨⟨by rw[Xap];exact h12,fun j=>?_⟩,fun v ha hb j hne=>?_,?_,fun h0=>?_,fun j h0=>?_,fun j=>by rw[if_neg q];exact hg j⟩
  ·rw[hg]
   split
   ·exact Or.inr (Or.inr rfl)
   ·exact hv j
  ·rw[hg]at hne ⊢
   split
   ·rename_i e
    rw[if_pos e]at hne
    unfold Zcz at hb
    rw[beq_iff_eq,decide_eq_false q,show (vof l - 1).toNat=j by omega]at hb
    rw[hb]
    rfl
   ·rename_i e
    rw[if_neg e]at hne
    exact ha j hne
  ·split at hz<;>omega
  ·rw[if_pos ⟨by omega,by omega⟩]at hz
   exact hz
  ·rw[hg]at h0
   split at h0
   ·omega
   ·exact h0
end Go.AE.Y
namespace Go.AE.Y
open Go Go.AE
set_option maxHeartbeats 400000
abbrev ZZ:=List (Int×Int)×Int
def Zr6 (c:ZZ):ZlR:=(true,c.2,c.1)
def noC:ZlR:=(false,0,[])
def Zqu (c:ZZ) (k:Int):ZZ:=(c.1.map (fun t=>(t.1*k,t.2)),c.2*k)
def upI (n k:Int):Int:=(n+k - 1) / k
def ZrO (c:ZZ) (k:Int):ZZ:=(c.1.map (fun t=>(upI t.1 k,t.2)),upI c.2 k)
def Zsb (c:ZZ):ZZ:=(if 0<c.2 then c.1.map (fun t=>(min t.1 c.2,t.2))else[],c.2)
def ZeX (c:List (Int×Int)) (x:Int):Int:=((c.filter (fun t=>decide (vof t.2=x))).map (fun t=>t.1)).sum
def ZxX (c:ZZ) (x:Int):ZZ:=(c.1.filter (fun t=>!decide (vof t.2=x)),max 0 (c.2 - ZeX c.1 x))
def ZrH (a b:ZZ):ZlR:=bif Zw a&&Zw b then ZbX (ZbY (a.1++b.1) (a.2+b.2)).2 (ZbY (a.1++b.1) (a.2+b.2)).1 else noC
def Zd1 (c:ZZ):ZlR:=bif Zw c then Zr6 c else noC
def Zr2 (c:ZZ) (k:Int):ZlR:=bif Zw c&&(decide (1≤k)&&decide (k≤1000))then Zd1 (Zqu c k)else noC
def ZrN (c:ZZ) (k:Int):ZlR:=bif Zw c&&(decide (1≤k)&&decide (k≤1000))then Zd1 (ZrO c k)else noC
def Zxo (c:ZZ):ZlR:=bif Zw c then Zr6 (Zsb c)else noC
def Ztw (c:ZZ) (x:Int):ZlR:=bif Zw c&&(decide (1≤x)&&decide (x≤12))then Zr6 (ZxX c x)else noC
def axB (l:Int):ZlR:=bif Zbt l then Zr6 ([(1,l)],0)else noC
def ofR (r:ZlR):ZZ:=(r.2.2,r.2.1)
theorem ZoQ {c:ZZ} (h:Zw c=true):∀t∈c.1,okS t∧1≤t.1:=fun t ht=>by
 obtain⟨i,hi,rfl⟩:=Xaq.1 ht
 obtain⟨l1,l2,l3⟩:=(ZcX h).2 i hi
 have e:c.1.getD i (0,0)=c.1[i]:=by rw[Xab,Xac hi];rfl
 rw[e]at l1 l2 l3
 exact⟨⟨⟨by omega,l3⟩,l1⟩,l2⟩
theorem Zz6 {a b:ZZ} (ha:Zw a=true) (hb:Zw b=true):∀t∈a.1++b.1,okS t:=fun t ht=>by
 rcases List.mem_append.1 ht with h|h
 ·exact(ZoQ ha t h).1
 ·exact(ZoQ hb t h).1
theorem Zy0 {net:List Int} {b:Int} (h:(ZbX net b).1=true):ofR (ZbX net b)=(ZbH net 12,max 0 (ZW net b 12))∧Zw (ofR (ZbX net b))=true:=by
 unfold ZbX at h ⊢
 cases q:Zw (ZbH net 12,max 0 (ZW net b 12))with
 |true=>rw[ctt];exact⟨rfl,q⟩
 |false=>rw[q,cff]at h;cases h
theorem ZCL {c:ZZ} (h:(Zd1 c).1=true):ofR (Zd1 c)=c∧Zw (ofR (Zd1 c))=true:=by
 unfold Zd1 at h ⊢
 cases q:Zw c with
 |true=>rw[ctt];exact⟨rfl,q⟩
 |false=>rw[q,cff]at h;cases h
theorem Zd4 (v:List Bool) (t:Int×Int) (l:List (Int×Int)):ZcB v (t::l)=(bif Zcz v t.2 then t.1 else 0)+ZcB v l:=by
 have:=Zvu v [t] l
 rw[Zzf]at this
 exact this
theorem Zvv (v:List Bool):ZcB v []=0:=rfl
theorem ZoR {v:List Bool} {c:ZZ}:Zb2 v c=true↔c.2≤ZcB v c.1:=decide_eq_true_iff
theorem ZtZ {v:List Bool}:∀{l:List (Int×Int)},(∀t∈l,1≤t.1)→0≤ZcB v l
 |[],_=>XaD _
 |t::l,h=>by
  rw[Zd4]
  have:=ZtZ (v:=v) (l:=l) (fun x hx=>h x (Xau _ hx))
  have:=h t XaB
  cases Zcz v t.2 with
  |true=>rw[ctt];omega
  |false=>rw[cff];omega
theorem ZIW {c:ZZ} {k:Int} {v:List Bool} (hk:1≤k) (h:Zb2 v c=true):Zb2 v (Zqu c k)=true:=by
 rw[ZoR]at h ⊢
 have e:∀l:List (Int×Int),ZcB v (l.map (fun t=>(t.1*k,t.2)))=ZcB v l*k:=by
  intro l
  induction l with
  |nil=>rw[List.map_nil,Zvv,Int.zero_mul]
  |cons t l ih=>
   rw[XaR,Zd4,Zd4,ih,Int.add_mul]
   cases Zcz v t.2 with
   |true=>rw[ctt,ctt]
   |false=>rw[cff,cff,Int.zero_mul]
 show c.2*k≤ZcB v (c.1.map (fun t=>(t.1*k,t.2)))
 rw[e]
 exact Int.mul_le_mul_of_nonneg_right h (by omega)
theorem ZJn {n m k:Int} (hk:1≤k) (h:n≤m*k):upI n k≤m:=by
 unfold upI
 have:(n+k - 1) / k<m+1:=Int.ediv_lt_of_lt_mul (by omega) (by rw[Int.add_mul];omega)
 omega
theorem ZIO {n k:Int} (hk:1≤k):n≤upI n k*k:=by
 unfold upI
 have h1:=Int.emod_add_mul_ediv (n+k - 1) k
 have h2:=Int.emod_lt_of_pos (n+k - 1) (show 0<k by omega)
 rw[Int.mul_comm]at h1
 omega
theorem ZIE {c:ZZ} {k:Int} {v:List Bool} (hk:1≤k) (h:Zb2 v c=true):Zb2 v (ZrO c k)=true:=by
 rw[ZoR]at h ⊢
 have e:∀l:List (Int×Int),ZcB v l≤ZcB v (l.map (fun t=>(upI t.1 k,t.2)))*k:=by
  intro l
  induction l with
  |nil=>rw[List.map_nil,Zvv,Int.zero_mul];exact XaD _
  |cons t l ih=>
   rw[XaR,Zd4,Zd4,Int.add_mul]
   have:=ZIO (n:=t.1) hk
   dsimp only
   cases Zcz v t.2 with
   |true=>rw[ctt,ctt];omega
   |false=>rw[cff,cff,Int.zero_mul];omega
 have h2:=e c.1
 show upI c.2 k≤ZcB v (c.1.map (fun t=>(upI t.1 k,t.2)))
 exact ZJn hk (by omega)
theorem ZG5 {v:List Bool} {b:Int} (hb:0<b):∀l:List (Int×Int),(∀t∈l,1≤t.1)→min b (ZcB v l)≤ZcB v (l.map (fun t=>(min t.1 b,t.2)))
 |[],_=>by rw[List.map_nil,Zvv];omega
 |t::l,h=>by
  have ih:=ZG5 (v:=v) hb l (fun x hx=>h x (Xau _ hx))
  have hp:=ZtZ (v:=v) (l:=l) (fun x hx=>h x (Xau _ hx))
  have:=h t XaB
  rw[XaR,Zd4,Zd4]
  dsimp only
  cases Zcz v t.2 with
  |true=>rw[ctt,ctt];omega
  |false=>rw[cff,cff];omega
theorem ZI7 {c:ZZ} {v:List Bool} (hc:Zw c=true) (h:Zb2 v c=true):Zb2 v (Zsb c)=true:=by
 rw[ZoR]at h ⊢
 unfold Zsb
 dsimp only
 by_cases q:0<c.2
 ·rw[if_pos q]
  have:=ZG5 (v:=v) q c.1 (fun t ht=>(ZoQ hc t ht).2)
  omega
 ·rw[if_neg q,Zvv]
  omega
theorem ZFE {v:List Bool} {x:Int}:∀l:List (Int×Int),(∀t∈l,1≤t.1)→ZcB v l≤ZcB v (l.filter (fun t=>!decide (vof t.2=x)))+ZeX l x∧0≤ZcB v (l.filter (fun t=>!decide (vof t.2=x)))
 |[],_=>by unfold ZeX;exact⟨XaD _,XaD _⟩
 |t::l,h=>by
  obtain⟨i1,i2⟩:=ZFE (v:=v) (x:=x) l (fun y hy=>h y (Xau _ hy))
  have:=h t XaB
  unfold ZeX at i1 ⊢
  by_cases q:vof t.2=x
  ·rw[Xbb (by rw[Xae q];decide),Xbc (p:=fun t:Int×Int=>decide (vof t.2=x)) (Xae q),XaR,XbK,Zd4]
   refine⟨?_,i2⟩
   cases Zcz v t.2 with
   |true=>rw[ctt];omega
   |false=>rw[cff];omega
  ·rw[Xbc (by rw[decide_eq_false q];rfl),Xbb (p:=fun t:Int×Int=>decide (vof t.2=x)) (by rw[Xai];exact q),Zd4,Zd4]
   cases Zcz v t.2 with
   |true=>rw[ctt];omega
   |false=>rw[cff];omega
theorem ZIp {c:ZZ} {x:Int} {v:List Bool} (hc:Zw c=true) (h:Zb2 v c=true):Zb2 v (ZxX c x)=true:=by
 rw[ZoR]at h ⊢
 obtain⟨w1,w2⟩:=ZFE (v:=v) (x:=x) c.1 (fun t ht=>(ZoQ hc t ht).2)
 show max 0 (c.2 - ZeX c.1 x)≤ZcB v (c.1.filter (fun t=>!decide (vof t.2=x)))
 omega
theorem ZIv {a b:ZZ} {v:List Bool} (ha:Zw a=true) (hb:Zw b=true) (h1:Zb2 v a=true) (h2:Zb2 v b=true) (hr:(ZrH a b).1=true):Zb2 v (ofR (ZrH a b))=true:=by
 unfold ZrH at hr ⊢
 rw[ha,hb,Xag,ctt]at hr ⊢
 rw[(Zy0 hr).1,ZI0 (Zz6 ha hb),Xai,Zvu]
 rw[ZoR]at h1 h2
 omega
theorem ZKa {l:Int} {v:List Bool}:Zb2 v ([(1,l)],0)=true:=by
 rw[ZoR]
 show (0:Int)≤ZcB v [(1,l)]
 rw[Zzf]
 cases Zcz v l with
 |true=>rw[ctt];exact Int.one_nonneg
 |false=>rw[cff];exact XaD _
end Go.AE.Y
namespace Go.AE.Y
open Go Go.AE
set_option maxHeartbeats 400000
def ZxV (L:ZD) (p:List Int):Prop:=∀c∈L,0≤ZdJ c.1 p c.1.length - c.2
theorem ZFc {c:List (Int×Int)×Int} {o5 r9:List Int} (hp:OkP o5) (hr:r9.length≤1048576) (h9:∀l∈r9,Zbt l=true∧unZ l o5=0∧∀v,agP o5 v→Zb2 v c=true→Zcz v l=true) (m4:Bool) {i3:Int} (hi:0≤i3∧i3≤2000000) :
  ∃md out,loop (Zdk i3 r9) (m4,(0:Int),o5)=some (.inl (md,i3+1,out))∧OkP out∧(∀v,agP o5 v→Zb2 v c=true→agP out v)∧(∀j,out.getD j 0=0→o5.getD j 0=0)∧((md=m4∧out=o5)∨(md=true∧zcN out 12<zcN o5 12)):=by
 have key:=Zis (f:=Zdk i3 r9) (fun s:Bool×Int×List Int=>∃n:Nat,s.2.1=n∧n≤r9.length∧OkP s.2.2∧(∀v,agP o5 v→Zb2 v c=true→agP s.2.2 v)∧(∀j,s.2.2.getD j 0=0→o5.getD j 0=0)∧((n=0∧s.1=m4∧s.2.2=o5)∨(s.1=true∧zcN s.2.2 12<zcN o5 12))) (fun s=>r9.length - s.2.1.toNat)
  (fun r=>∃md out,r = .inl (md,i3+1,out)∧OkP out∧(∀v,agP o5 v→Zb2 v c=true→agP out v)∧(∀j,out.getD j 0=0→o5.getD j 0=0)∧((md=m4∧out=o5)∨(md=true∧zcN out 12<zcN o5 12))) ?_ (m4,(0:Int),o5) ⟨0,rfl,Nat.zero_le _,hp,fun v h _=>h,fun j h=>h,Or.inl ⟨rfl,rfl,rfl⟩⟩
 ·obtain⟨r,e,md,out,rfl,h⟩:=key
  exact⟨md,out,e,h⟩
 rintro⟨md,s,o⟩ ⟨n,hs,hn,ho,ha,hz,hc⟩
 dsimp only at hs ho ha hz hc ⊢
 subst hs
 unfold Zdk
 dsimp only
 rcases Xah n r9.length with h1|h1
 ·left
  obtain⟨l1,l2,l3⟩:=h9 _ (ZB (l:=r9) (i:=n) (d:=0) h1)
  have hl:=ZP.1 l1
  obtain⟨s1,s2,s3,s4,s5,_⟩:=ZK8 l1 ho
  have ho12:=ho.1
  have hz0:zcN (Zm5 (r9.getD n 0) o) 12<zcN o5 12:=by
   rcases hc with⟨h0,_,h2⟩|⟨_,h2⟩
   ·subst h2
    have:=s4 l2
    omega
   ·omega
  have inv:∃n':Nat,((n:Int)+1)=n'∧n'≤r9.length∧OkP (Zm5 (r9.getD n 0) o)∧(∀v,agP o5 v→Zb2 v c=true→agP (Zm5 (r9.getD n 0) o) v)∧(∀j,(Zm5 (r9.getD n 0) o).getD j 0=0→o5.getD j 0=0)∧((n'=0∧true=m4∧Zm5 (r9.getD n 0) o=o5)∨(true=true∧zcN (Zm5 (r9.getD n 0) o) 12<zcN o5 12)):=
   ⟨n+1,by simp,by omega,s1,fun v h1 h2=>s2 v (ha v h1 h2) (l3 v h1 h2),fun j h=>hz j (s5 j h),Or.inr ⟨rfl,hz0⟩⟩
  rw[Zd (by omega),Zb ⟨by omega,by omega⟩,Xaa]
  refine⟨(true,(n:Int)+1,Zm5 (r9.getD n 0) o),?_,inv,by (try dsimp only)<;>omega⟩
  unfold Zm5
  by_cases q:0<r9.getD n 0
  ·rw[Zd q,if_pos q,Zg (by omega) (by omega),Zb ⟨by omega,by omega⟩,Zg (by omega) (by omega)]
  ·rw[Zc q,if_neg q,Zg (by omega) (by omega),Zg (by omega) (by omega),Zb ⟨by omega,by omega⟩,Zg (by omega) (by omega)]
 ·right
  rw[Zc (by omega),Zg (by omega) (by omega)]
  refine⟨_,rfl,md,o,rfl,ho,ha,hz,?_⟩
  rcases hc with⟨_,h2⟩|h2
  ·exact Or.inl h2
  ·exact Or.inr h2
def Two (L:ZD) (o3 out:List Int):Prop:=OkP out∧(∀v,agP o3 v→Zvo L v→agP out v)∧∀j,out.getD j 0=0→o3.getD j 0=0
theorem ZFb {L:ZD} {o3:List Int} (hL:Zeu L) (hl:L.length≤1048576) (hp:OkP o3) :
  ∃r,loop (Zci L) (false,(0:Int),o3)=some r∧((∃md out,r = .inl (md,out)∧Two L o3 out∧((md=false∧out=o3∧ZxV L o3)∨(md=true∧zcN out 12<zcN o3 12)))∨(∃i out,r = .inr (i,out)∧0≤i∧Two L o3 out∧∀v,agP o3 v→¬Zvo L v)):=by
 refine Zis (f:=Zci L) (fun s:Bool×Int×List Int=>∃n:Nat,s.2.1=n∧n≤L.length∧Two L o3 s.2.2∧((s.1=false∧s.2.2=o3∧∀k,k<n→0≤ZdJ (L.getD k ([],0)).1 o3 (L.getD k ([],0)).1.length - (L.getD k ([],0)).2)∨(s.1=true∧zcN s.2.2 12<zcN o3 12))) (fun s=>L.length - s.2.1.toNat) _ ?_ _ ⟨0,rfl,Nat.zero_le _,⟨hp,fun v h _=>h,fun j h=>h⟩,Or.inl ⟨rfl,rfl,fun k hk=>by omega⟩⟩
 rintro⟨md,s,o⟩ ⟨n,hs,hn,⟨t1,t2,t3⟩,hc⟩
 dsimp only at hs t1 t2 t3 hc ⊢
 subst hs
 unfold Zci
 dsimp only
 rcases Xah n L.length with h1|h1
 ·have hmem:=ZB (l:=L) (i:=n) (d:=([],0)) h1
  obtain⟨g1,g2⟩:=hL _ hmem
  rw[Zd (by omega),Zb ⟨by omega,by omega⟩,Xaa,ZjI g1 g2 t1,Ze]
  by_cases q:ZdJ (L.getD n ([],0)).1 o (L.getD n ([],0)).1.length - (L.getD n ([],0)).2<0
  ·right
   rw[Zd q]
   exact⟨_,rfl,Or.inr ⟨n,o,rfl,by omega,⟨t1,t2,t3⟩,fun v ha hs=>ZFk g1 t1 (t2 v ha hs) q (hs _ hmem)⟩⟩
  ·left
   obtain⟨r9,e9,k1,k2⟩:=Zte g1 g2 t1
   obtain⟨md',out,e3,u1,u2,u3,u4⟩:=ZFc t1 k1 k2 md (i3:=(n:Int)) ⟨by omega,by omega⟩
   rw[Zc q,e9,Ze,e3]
   refine⟨_,rfl,⟨n+1,by simp,by omega,⟨u1,fun v ha hs=>u2 v (t2 v ha hs) (hs _ hmem),fun j h=>t3 j (u3 j h)⟩,?_⟩,by (try dsimp only)<;>omega⟩
   dsimp only
   rcases u4 with⟨rfl,rfl⟩|⟨rfl,hz⟩
   ·rcases hc with⟨c1,c2,c3⟩|c
    ·refine Or.inl ⟨c1,c2,fun k hk=>?_⟩
     rcases Xah k n with h2|h2
     ·exact c3 k h2
     ·rw[show k=n by omega,←c2];omega
    ·exact Or.inr c
   ·refine Or.inr ⟨rfl,?_⟩
    rcases hc with⟨c1,c2,c3⟩|c
    ·rw[←c2];exact hz
    ·have:=c.2;omega
 ·right
  have hnn:n=L.length:=by omega
  rw[Zc (by omega)]
  refine⟨_,rfl,Or.inl ⟨md,o,rfl,⟨t1,t2,t3⟩,?_⟩⟩
  rcases hc with⟨c1,c2,c3⟩|c
  ·refine Or.inl ⟨c1,c2,fun x hx=>?_⟩
   obtain⟨k,hk,rfl⟩:=Xaq.1 hx
   have:=c3 k (by omega)
   rwa [Xab,Xac hk]at this
  ·exact Or.inr c
theorem ZCk {s:List Int} (h:s.length≤1048576):Zcb s=some s:=by
 unfold Zcb
 refine Zxc (fun e=>by rw[e]) ?_
 rw[Zb (by simp only[Xak,Zp];omega),Xao]
theorem ZqH {L:ZD} {p:List Int} (hL:Zeu L) (hl:L.length≤1048576) (hp:OkP p) :
  ∃r,Zde L p=some r∧Two L p r.2∧((r.1 = -1∧ZxV L r.2)∨(0≤r.1∧∀v,agP p v→¬Zvo L v)):=by
 unfold Zde
 rw[ZCk (by have:=hp.1;omega),Ze]
 refine Zis (f:=Zd2 L) (fun s:Bool×List Int=>Two L p s.2∧(s.1=false→ZxV L s.2)) (fun s=>bif s.1 then 2*zcN s.2 12+1 else 0) (fun r=>Two L p r.2∧((r.1 = -1∧ZxV L r.2)∨(0≤r.1∧∀v,agP p v→¬Zvo L v))) ?_ _ ⟨⟨hp,fun v h _=>h,fun j h=>h⟩,fun h=>by cases h⟩
 rintro⟨md,o⟩ ⟨⟨t1,t2,t3⟩,hk⟩
 dsimp only at t1 t2 t3 hk ⊢
 unfold Zd2
 dsimp only
 cases md with
 |false=>
  right
  rw[cff]
  exact⟨_,rfl,⟨t1,t2,t3⟩,Or.inl ⟨rfl,hk rfl⟩⟩
 |true=>
  rw[ctt]
  obtain⟨r,e,h|h⟩:=ZFb hL hl t1
  ·obtain⟨md',out,rfl,⟨u1,u2,u3⟩,hc⟩:=h
   left
   rw[e]
   refine⟨_,rfl,⟨⟨u1,fun v ha hs=>u2 v (t2 v ha hs) hs,fun j h=>t3 j (u3 j h)⟩,?_⟩,?_⟩
   ·dsimp only
    intro hf
    rcases hc with⟨_,c2,c3⟩|⟨c1,_⟩
    ·rw[c2];exact c3
    ·rw[c1]at hf;cases hf
   ·dsimp only
    rw[ctt]
    rcases hc with⟨c1,_,_⟩|⟨c1,c2⟩
    ·rw[c1,cff];omega
    ·rw[c1,ctt];omega
  ·obtain⟨i,out,rfl,h0,⟨u1,u2,u3⟩,hc⟩:=h
   right
   rw[e]
   exact⟨_,rfl,⟨u1,fun v ha hs=>u2 v (t2 v ha hs) hs,fun j h=>t3 j (u3 j h)⟩,Or.inr ⟨h0,fun v ha hs=>hc v (t2 v ha hs) hs⟩⟩
theorem ZKK (j:Nat):(List.replicate 12 (0:Int)).getD j 0=0:=by
 rw[Xab]
 rcases Xah j 12 with h|h
 ·rw[XaW h];rfl
 ·rw[Xat (by rw[XaC];exact h)];rfl
abbrev VR:=Bool×Int×Bool×List Bool×ZD×List Z3
structure Ext (L:ZD) (S:List Z3) (L':ZD) (S':List Z3):Prop where
 good:Zeu L'
 len:L'.length+S.length=L.length+S'.length
 up:S.length≤S'.length
 top:S'.length≤1000
 sound:∀v,Zvo L v→Zvo L' v
 back:∀v,Zvo L' v→Zvo L v
theorem Ext.refl {L:ZD} {S:List Z3} (h:Zeu L) (hs:S.length≤1000):Ext L S L S:=⟨h,by omega,Nat.le_refl _,hs,fun _ h=>h,fun _ h=>h⟩
theorem Ext.trans {L L' L'':ZD} {S S' S'':List Z3} (a:Ext L S L' S') (b:Ext L' S' L'' S''):Ext L S L'' S'':=
 ⟨b.good,by have:=a.len;have:=b.len;omega,XbN a.up b.up,b.top,fun v h=>b.sound v (a.sound v h),fun v h=>a.back v (b.back v h)⟩
end Go.AE.Y
namespace Go.AE.Y
open Go Go.AE
theorem Zr9 {S R:Type} (I:S→Prop) {f g:S→Option (S⊕R)} (h:∀s,I s→f s=g s) (hI:∀s s',I s→g s=some (.inl s')→I s'):∀(n:Nat) (s:S),I s→Zdj f n s=Zdj g n s
 |0,_,_=>rfl
 |n+1,s,hs=>by
  unfold Zdj
  rw[h s hs]
  cases hg:g s with
  |none=>rfl
  |some a=>
   cases a with
   |inr r=>rfl
   |inl s'=>exact Zr9 I h hI n s' (hI s s' hs hg)
theorem Zvb {S R:Type} (I:S→Prop) {f g:S→Option (S⊕R)} (h:∀s,I s→f s=g s) (hI:∀s s',I s→g s=some (.inl s')→I s') {s:S} (hs:I s):loop f s=loop g s:=by
 cases hg:loop g s with
 |some r=>
  obtain⟨n,hn⟩:=Zmq hg
  exact Zun (n:=n) (by rw[Zr9 I h hI n s hs,hn])
 |none=>
  cases hf:loop f s with
  |none=>rfl
  |some r=>
   obtain⟨n,hn⟩:=Zmq hf
   rw[Zr9 I h hI n s hs]at hn
   rw[Zun hn]at hg
   exact absurd hg (by simp)
end Go.AE.Y
namespace Go.AE.Y
open Go Go.AE
set_option maxHeartbeats 400000
def subP (p q:List Int):Prop:=∀j,p.getD j 0≠0→q.getD j 0=p.getD j 0
theorem subP.refl (p:List Int):subP p p:=fun _ _=>rfl
theorem subP.trans {p q r:List Int} (a:subP p q) (b:subP q r):subP p r:=fun j h=>by
 have h1:=a j h
 rw[←h1]at h ⊢
 exact b j h
def ZMn (c:List (Int×Int)×Int) (q:List Int):Prop:=0≤ZdJ c.1 q c.1.length - c.2∧∀i,i<c.1.length→unZ (c.1.getD i (0,0)).2 q=0→(c.1.getD i (0,0)).1≤ZdJ c.1 q c.1.length - c.2
def ZMo (L:ZD) (q:List Int):Prop:=∀c∈L,ZMn c q
end Go.AE.Y
namespace Go.AE.Y
open Go Go.AE
set_option maxHeartbeats 400000
theorem ZvO {l:Int} {p:List Int} (hl:Zbt l=true) (hp:OkP p):Zlg p l=some (unZ l p):=by
 have h:=ZP.1 hl
 obtain⟨h12,hv⟩:=hp
 unfold Zlg unZ
 by_cases q:0<l
 ·rw[Zd q,if_neg (by omega),Zg (by omega) (by omega),Zb ⟨by omega,by omega⟩]
 ·have:=hv (0 - l - 1).toNat
  rw[Zc q,if_pos (by omega),Zg (by omega) (by omega),Zg (by omega) (by omega),Zb ⟨by omega,by omega⟩,Zg (by omega) (by omega)]
theorem ZvN {c:List (Int×Int)×Int} {p:List Int} (hc:Zw c=true) (hl:c.1.length≤1048576) (hp:OkP p):Zlf c p=some (ZdJ c.1 p c.1.length - c.2):=by
 obtain⟨c1,c2⟩:=ZcX hc
 unfold Zlf
 rw[Zg (by omega) (by omega)]
 refine ZH (f:=Zkx c p) (fun s:Int×Int=>∃n:Nat,s.2=n∧n≤c.1.length∧s.1=ZdJ c.1 p n - c.2) (fun s=>c.1.length - s.2.toNat) (fun _=>ZdJ c.1 p c.1.length - c.2) ?_ _ ⟨0,rfl,Nat.zero_le _,by show 0 - c.2=0 - c.2;rfl⟩
 rintro⟨o,s⟩ ⟨n,hs,hn,ho⟩
 dsimp only at hs ho ⊢
 subst hs
 subst ho
 have hb:=Zvq hc p n hn
 unfold Zkx
 dsimp only
 rcases Xah n c.1.length with h1|h1
 ·left
  obtain⟨l1,l2,l3⟩:=c2 n h1
  rw[Zd (by omega),Zb ⟨by omega,by omega⟩,Xaa,ZvO l1 hp,Ze]
  by_cases q:0≤unZ (c.1.getD n (0,0)).2 p
  ·rw[Zd q,Zb ⟨by omega,by omega⟩,Zg (by omega) (by omega),Zg (by omega) (by omega)]
   refine⟨_,rfl,⟨n+1,by simp,by omega,?_⟩,by (try dsimp only)<;>omega,rfl⟩
   dsimp only
   conv=>rhs;unfold ZdJ
   rw[if_pos q]
   omega
  ·rw[Zc q,Zg (by omega) (by omega)]
   refine⟨_,rfl,⟨n+1,by simp,by omega,?_⟩,by (try dsimp only)<;>omega,rfl⟩
   dsimp only
   conv=>rhs;unfold ZdJ
   rw[if_neg q]
   omega
 ·right
  have:n=c.1.length:=by omega
  rw[Zc (by omega),this]
abbrev SR:=Int×Int×List Bool×ZD×List Z3
def ZMm (S:List Z3):Prop:=∀s∈S,s.2.2.2.1.length≤12
structure SeaOk (L:ZD) (S:List Z3) (fuel:Int) (L':ZD) (S':List Z3) (f':Int):Prop where
 fu:0≤f'∧f'≤fuel
 good:Zeu L'
 len:L'.length+S.length=L.length+S'.length
 top:S'.length≤1000
 few:ZMm S'
theorem SeaOk.trans {L L' L'':ZD} {S S' S'':List Z3} {f f' f'':Int} (a:SeaOk L S f L' S' f') (b:SeaOk L' S' f' L'' S'' f''):SeaOk L S f L'' S'' f'':=
 ⟨⟨b.fu.1,by have:=a.fu;have:=b.fu;omega⟩,b.good,by have:=a.len;have:=b.len;omega,b.top,b.few⟩
end Go.AE.Y
namespace Go.AE.Y
open Go Go.AE
theorem ZwB (a:ZD) (h:a.length≤1048576):ZbU a=some a:=by
 unfold ZbU
 refine Zxc (fun e=>by rw[e]) ?_
 rw[Zb (by simp only[Xak,Zp];omega),Xao]
end Go.AE.Y
namespace Go.AE.Y
open Go Go.AE
set_option maxHeartbeats 400000
theorem Zut {α β:Type} {p:Prop} [Decidable p] {m:Option α} {f:α→Option β}:(rq p m).bind f=rq p (m.bind f):=by
 unfold rq
 split<;>rfl
theorem ZLA {α:Type} {p:Prop} [Decidable p] {m:Option α} (h:¬p):rq p m=none:=if_neg h
theorem Zy7 {α:Type} {p:Prop} [Decidable p] {m m':Option α} (h:p→m=m'):rq p m=rq p m':=by
 unfold rq
 split
 ·exact h ‹_›
 ·rfl
theorem ZEN {c:List (Int×Int)×Int} {p:List Int} (hc:Zw c=true) (hl:c.1.length≤1048576) (hp:OkP p) (h0:0≤ZdJ c.1 p c.1.length - c.2):ZlH c p=ZcH c p:=by
 unfold ZlH ZcH
 rw[ZvN hc hl hp,ZjI hc hl hp,Ze,Ze]
 refine Zvb (fun _=>True) ?_ (fun _ _ _ _=>trivial) trivial
 rintro⟨i,o⟩ -
 unfold Zl6 ZcQ
 dsimp only
 by_cases q:i<(c.1.length:Int)
 ·rw[Zd q,Zd q,Zd h0]
  refine Zy7 fun hi=>?_
  have l1:=((ZcX hc).2 i.toNat (by omega)).1
  rw[ZvO l1 hp,Zqo l1 hp,Ze,Ze]
  by_cases z:unZ (c.1.getD i.toNat (0,0)).2 p=0
  ·rw[Zu z,Zu z,Zb hi]
   by_cases y:ZdJ c.1 p c.1.length - c.2<(c.1.getD i.toNat (0,0)).1
   ·rw[Zd y,Zd y,Zb hi]
   ·rw[Zc y,Zc y]
  ·rw[Zs z,Zs z]
 ·rw[Zc q,Zc q]
theorem ZH7 (i:Int) (r:List Int) (s:Bool×Int×List Int):ZgK i r s=Zdk i r s:=by
 obtain⟨m,k,o⟩:=s
 unfold ZgK Zdk Zqz
 dsimp only
 by_cases q:k<(r.length:Int)
 ·rw[Zd q,Zd q]
  refine Zy7 fun hi=>?_
  by_cases z:0<r.getD k.toNat 0
  ·rw[Zd z,Zd z,Zut,Zut,Ze]
  ·rw[Zc z,Zc z,Zut,Zut,Zut,Ze]
 ·rw[Zc q,Zc q]
theorem ZH6 {L:ZD} (hL:Zeu L) {s:Bool×Int×List Int} (hp:OkP s.2.2):ZgJ L s=Zci L s:=by
 obtain⟨m,i,o⟩:=s
 dsimp only at hp
 unfold ZgJ Zci
 dsimp only
 by_cases q:i<(L.length:Int)
 ·rw[Zd q,Zd q]
  refine Zy7 fun hi=>?_
  obtain⟨g1,g2⟩:=hL _ (ZB (l:=L) (i:=i.toNat) (d:=([],0)) (by omega))
  rw[ZvN g1 g2 hp,ZjI g1 g2 hp,Ze,Ze]
  by_cases z:ZdJ (L.getD i.toNat ([],0)).1 o (L.getD i.toNat ([],0)).1.length - (L.getD i.toNat ([],0)).2<0
  ·rw[Zd z,Zd z]
  ·rw[Zc z,Zc z,Zb hi,ZEN g1 g2 hp (by omega)]
   congr 1
   funext r
   exact congrArg (fun f=>loop f (m,(0:Int),o)) (funext fun s=>ZH7 i r s)
 ·rw[Zc q,Zc q]
theorem ZH5 {L:ZD} (hL:Zeu L) (hl:L.length≤1048576) {s s':Bool×Int×List Int} (hp:OkP s.2.2) (h:Zci L s=some (.inl s')):OkP s'.2.2:=by
 obtain⟨m,i,o⟩:=s
 dsimp only at hp
 unfold Zci at h
 dsimp only at h
 by_cases q:i<(L.length:Int)
 ·rw[Zd q]at h
  by_cases hi:0≤i∧i<(L.length:Int)
  ·rw[Zb hi]at h
   obtain⟨g1,g2⟩:=hL _ (ZB (l:=L) (i:=i.toNat) (d:=([],0)) (by omega))
   rw[ZjI g1 g2 hp,Ze]at h
   by_cases z:ZdJ (L.getD i.toNat ([],0)).1 o (L.getD i.toNat ([],0)).1.length - (L.getD i.toNat ([],0)).2<0
   ·rw[Zd z]at h
    cases h
   ·obtain⟨r9,e9,k1,k2⟩:=Zte g1 g2 hp
    obtain⟨md,out,e3,u1,_⟩:=ZFc hp k1 k2 m (i3:=i) ⟨by omega,by omega⟩
    rw[Zc z,e9,Ze,e3]at h
    cases h
    exact u1
  ·rw[ZLA hi]at h
   cases h
 ·rw[Zc q]at h
  cases h
theorem ZBL {L:ZD} {p:List Int} (hL:Zeu L) (hl:L.length≤1048576) (hp:OkP p):Zgr L p=Zde L p:=by
 unfold Zgr Zde
 rw[ZCk (by have:=hp.1;omega),Ze]
 refine Zvb (fun s:Bool×List Int=>OkP s.2) ?_ ?_ hp
 ·rintro⟨m,o⟩ ho
  dsimp only at ho
  unfold Zj9 Zd2
  dsimp only
  cases m with
  |false=>rw[cff,cff]
  |true=>
   rw[ctt,ctt]
   exact Zvb (fun s:Bool×Int×List Int=>OkP s.2.2) (fun s hs=>ZH6 hL hs) (fun s s' hs h=>ZH5 hL hl hs h) ho
 ·rintro⟨m,o⟩ s' ho h
  dsimp only at ho
  unfold Zd2 at h
  dsimp only at h
  cases m with
  |false=>rw[cff]at h;cases h
  |true=>
   rw[ctt]at h
   obtain⟨r,e,h2|h2⟩:=ZFb hL hl ho
   ·obtain⟨md,out,rfl,⟨u1,_⟩,_⟩:=h2
    rw[e]at h
    cases h
    exact u1
   ·obtain⟨i,out,rfl,_⟩:=h2
    rw[e]at h
    cases h
end Go.AE.Y
namespace Go.AE.Y
open Go Go.AE
set_option maxHeartbeats 400000
end Go.AE.Y
namespace Go.AE.Y
open Go Go.AE
set_option maxHeartbeats 400000
def Zjo (c:List (Int×Int)×Int):Int:=(c.1.map (fun t=>t.1)).sum
def ZmZ (c:List (Int×Int)×Int):List (Int×Int)×Int:=(c.1.map (fun t=>(t.1,0 - t.2)),max 0 (Zjo c - c.2+1))
def ZL4 (L:ZD):Prop:=∀q,OkP q→¬ZMo L q
def ZMt (c:List (Int×Int)×Int):Z3:=(7,(0,(0,c)))
inductive RupExt (L:ZD) (S:List Z3):ZD→List Z3→Prop where
 |refl:RupExt L S L S
 |snoc {L':ZD} {S':List Z3} {c:List (Int×Int)×Int}:RupExt L S L' S'→Zw c=true→c.1.length≤12→ZL4 (L'++[ZmZ c])→RupExt L S (L'++[c]) (S'++[ZMt c])
theorem RupExt.trans {L L' L'':ZD} {S S' S'':List Z3} (a:RupExt L S L' S') (b:RupExt L' S' L'' S''):RupExt L S L'' S'':=by
 induction b with
 |refl=>exact a
 |snoc _ h1 h2 h3 ih=>exact ih.snoc h1 h2 h3
end Go.AE.Y
namespace Go.AE.Y
open Go Go.AE
set_option maxHeartbeats 400000
theorem ZGZ {v:List Bool}:∀l:List (Int×Int),(∀t∈l,t.2≠0)→ZcB v (l.map (fun t=>(t.1,0 - t.2)))+ZcB v l=(l.map (fun t=>t.1)).sum
 |[],_=>rfl
 |t::l,h=>by
  have ih:=ZGZ (v:=v) l (fun x hx=>h x (Xau _ hx))
  have h0:=h t XaB
  rw[XaR,XaR,XbK,Zd4,Zd4]
  dsimp only
  rw[ZIR h0]
  cases Zcz v t.2 with
  |true=>rw[ctt,Xa2,cff];omega
  |false=>rw[cff,Xa7,ctt];omega
theorem ZLm {c:ZZ} (h:Zw c=true):∀t∈c.1,t.2≠0:=fun t ht=>(ZP.1 (ZoQ h t ht).1.2).1
theorem ZKm {c:ZZ} {v:List Bool} (h:Zw c=true):Zb2 v (ZmZ c) = !Zb2 v c:=by
 have h1:=ZGZ (v:=v) c.1 (ZLm h)
 have h2:0≤ZcB v (c.1.map (fun t=>(t.1,0 - t.2))):=ZtZ (fun t ht=>by
  obtain⟨x,hx,rfl⟩:=XaL.1 ht
  exact(ZoQ h x hx).2)
 unfold Zb2 ZmZ Zjo
 dsimp only
 rw[Xbx,Xbe,Xai,decide_eq_false_iff_not]
 omega
theorem ZB1 {c:ZZ} (h:Zw c=true):0≤Zjo c∧Zjo c≤1000*c.1.length:=by
 have key:∀l:List (Int×Int),(∀t∈l,okS t∧1≤t.1)→0≤(l.map (fun t=>t.1)).sum∧(l.map (fun t=>t.1)).sum≤1000*l.length:=by
  intro l
  induction l with
  |nil=>intro _;exact⟨XaD _,XaD _⟩
  |cons t l ih=>
   intro ht
   obtain⟨h1,h2⟩:=ih (fun x hx=>ht x (Xau _ hx))
   obtain⟨⟨h3,_⟩,h4⟩:=ht t XaB
   rw[XaR,XbK,Xal]
   omega
 exact key c.1 (ZoQ h)
theorem ZzE {c:ZZ} (h:Zw c=true):c.1.length≤12:=by
 have hc:=h
 unfold Zw at h
 simp only[Xaf,Xai,Xan,XaF]at h
 have key:∀i,i<c.1.length→(i:Int)+1≤vof (c.1.getD i (0,0)).2:=by
  intro i
  induction i with
  |zero=>
   intro hi
   have:=Zg3 ((ZcX hc).2 0 hi).1
   omega
  |succ i ih=>
   intro hi
   have h1:=ih (by omega)
   have h2:=h.1 (i+1) hi
   unfold Zek at h2
   simp only[Xaf,Bool.or_eq_true,Xai,beq_iff_eq,XbL]at h2
   have h3:=h2.2.2
   omega
 rcases Xah 12 c.1.length with q|q
 ·have h1:=key 12 q
  have h2:=Zg3 ((ZcX hc).2 12 q).1
  omega
 ·exact q
theorem ZGY {c:ZZ} (h:Zw c=true):Zw (ZmZ c)=true:=by
 have ht:=ZB1 h
 have h12:=ZzE h
 have hb:=(ZcX h).1
 unfold Zw at h ⊢
 simp only[Xaf,Xai,Xan,XaF]at h ⊢
 refine⟨fun i hi=>?_,by show 0≤max 0 (Zjo c - c.2+1);omega,by show max 0 (Zjo c - c.2+1)≤20000;omega⟩
 have hi':i<c.1.length:=by
  have:(ZmZ c).1.length=c.1.length:=Xas ..
  omega
 have e:∀j,j<c.1.length→(ZmZ c).1.getD j (0,0)=((c.1.getD j (0,0)).1,0 - (c.1.getD j (0,0)).2):=fun j hj=>ZrP c.1 (fun t=>(t.1,0 - t.2)) j (0,0) (0,0) hj
 have h1:=h.1 i hi'
 unfold Zek at h1 ⊢
 rw[e i hi']
 have hv:∀x:Int,vof (0 - x)=vof x:=fun x=>by unfold vof;omega
 have hl:∀x:Int,Zbt (0 - x)=Zbt x:=fun x=>by
  rw[Xbx,ZP,ZP]
  omega
 simp only[hv,hl]
 by_cases q:i=0
 ·subst q
  exact h1
 ·rw[e (i - 1) (by omega)]
  simp only[hv]
  exact h1
def ZxH:List Int:=List.replicate 12 0
theorem ZCj:OkP ZxH:=⟨rfl,fun j=>Or.inl (ZKK j)⟩
noncomputable def Zsa (L:ZD) (c:ZZ):Bool:=decide (0≤((Zde (L++[ZmZ c]) ZxH).getD (-1,[])).1)
theorem ZyN {L:ZD} {c:ZZ} (hL:Zeu L) (hc:Zw c=true):Zeu (L++[ZmZ c]):=fun x hx=>by
 rcases List.mem_append.1 hx with h|h
 ·exact hL x h
 ·rw[Xaj]at h
  rw[h]
  have h12:=ZzE (ZGY hc)
  exact⟨ZGY hc,by omega⟩
theorem ZI5 {L:ZD} {c:ZZ} (hL:Zeu L) (hl:L.length≤1000000) (hc:Zw c=true):∃out,Zde (L++[ZmZ c]) ZxH=some out∧Zsa L c=decide (0≤out.1):=by
 obtain⟨r,e,_⟩:=ZqH (ZyN hL hc) (by rw[Xam,XaG];omega) ZCj
 refine⟨r,e,?_⟩
 unfold Zsa
 rw[e]
 rfl
theorem ZI6 {L:ZD} {c:ZZ} {v:List Bool} (hL:Zeu L) (hl:L.length≤1000000) (hc:Zw c=true) (h:Zsa L c=true) (hv:Zvo L v):Zb2 v c=true:=by
 obtain⟨r,e,_,hr⟩:=ZqH (ZyN hL hc) (by rw[Xam,XaG];omega) ZCj
 unfold Zsa at h
 rw[e]at h
 have h:0≤r.1:=of_decide_eq_true h
 rcases hr with hr|hr
 ·omega
 ·have hno:=hr.2 v (fun j hj=>absurd (ZKK j) hj)
  cases q:Zb2 v c with
  |true=>rfl
  |false=>
   exfalso
   refine hno (fun x hx=>?_)
   rcases List.mem_append.1 hx with h1|h1
   ·exact hv x h1
   ·rw[Xaj]at h1
    rw[h1,ZKm hc,q]
    rfl
end Go.AE.Y
namespace Go.AE.Y
open Go Go.AE
set_option maxHeartbeats 400000
abbrev DbT:=ZD×List Bool
def ZiR (d:DbT) (i:Int):ZZ:=d.1.getD i.toNat ([],0)
def ZdH (d:DbT) (i:Int):Bool:=(decide (0≤i)&&decide (i<d.1.length)) && !(d.2.getD i.toNat false)
def Zpa (d:DbT):Nat→ZD
 |0=>[]
 |n+1=>Zpa d n++(bif d.2.getD n false then[]else[d.1.getD n ([],0)])
def ZlB (d:DbT):ZD:=Zpa d d.1.length
def Zz3 (s:Z3):Bool:=decide (s.2.2.2.1=[])&&decide (s.2.2.2.2=0)
def Ziu (s:Z3):Bool:=if s.1=1∨s.1=2∨s.1=3∨s.1=5 then Zz3 s else if s.1=4∨s.1=6∨s.1=8 then Zz3 s&&decide (s.2.2.1=0)else if s.1=7 then decide (s.2.1=0)&&decide (s.2.2.1=0)else false
noncomputable def Zco (d:DbT) (s:Z3):ZlR:=
 if s.1=6 then axB s.2.1
 else if s.1=7 then(bif Zw s.2.2.2&&Zsa (ZlB d) s.2.2.2 then Zr6 s.2.2.2 else noC)
 else bif ZdH d s.2.1 then
  (if s.1=1 then(bif ZdH d s.2.2.1 then ZrH (ZiR d s.2.1) (ZiR d s.2.2.1)else noC)
  else if s.1=2 then Zr2 (ZiR d s.2.1) s.2.2.1
  else if s.1=3 then ZrN (ZiR d s.2.1) s.2.2.1
  else if s.1=4 then Zxo (ZiR d s.2.1)
  else Ztw (ZiR d s.2.1) s.2.2.1)
 else noC
noncomputable def ZfR (d:DbT) (s:Z3):Option DbT:=
 bif Ziu s then
  (if s.1=8 then(bif ZdH d s.2.1 then some (d.1,d.2.set s.2.1.toNat true)else none)
  else(bif (Zco d s).1 then some (d.1++[ofR (Zco d s)],d.2++[false])else none))
 else none
noncomputable def ZdI:DbT→List Z3→Option DbT
 |d,[]=>some d
 |d,s::r=>(ZfR d s).bind fun d'=>ZdI d' r
def ZdF (l:ZD):DbT:=(l,List.replicate l.length false)
theorem Zw3 (d:DbT):∀n,n≤d.1.length→∀c∈Zpa d n,∃i,i<n∧d.1.getD i ([],0)=c
 |0,_=>fun c hc=>absurd hc XaJ
 |n+1,hn=>fun c hc=>by
  unfold Zpa at hc
  rcases List.mem_append.1 hc with h|h
  ·obtain⟨i,hi,e⟩:=Zw3 d n (by omega) c h
   exact⟨i,by omega,e⟩
  ·cases hg:d.2.getD n false with
   |true=>rw[hg,ctt]at h;exact absurd h XaJ
   |false=>rw[hg,cff,Xaj]at h;exact⟨n,by omega,h.symm⟩
theorem ZpV (d:DbT):∀n,(Zpa d n).length≤n
 |0=>Nat.le_refl _
 |n+1=>by
  have:=ZpV d n
  unfold Zpa
  rw[Xam]
  cases d.2.getD n false with
  |true=>rw[ctt,Xak];omega
  |false=>rw[cff,XaG];omega
theorem Zw4 {d:DbT} (h:Zeu d.1):Zeu (ZlB d):=fun c hc=>by
 obtain⟨i,hi,rfl⟩:=Zw3 d d.1.length (Nat.le_refl _) c hc
 exact h _ (ZB hi)
theorem ZmU {d:DbT} {i:Int} (h:ZdH d i=true):0≤i∧i.toNat<d.1.length∧ZiR d i∈d.1:=by
 unfold ZdH at h
 simp only[Xaf,Xai]at h
 have:i.toNat<d.1.length:=by omega
 exact⟨h.1.1,this,ZB this⟩
theorem ZK5 {c:ZZ} {k:Int} (h:(Zr2 c k).1=true):Zw c=true∧1≤k∧ofR (Zr2 c k)=Zqu c k∧Zw (ofR (Zr2 c k))=true:=by
 unfold Zr2 at h ⊢
 cases q:Zw c&&(decide (1≤k)&&decide (k≤1000))with
 |false=>rw[q,cff]at h;cases h
 |true=>
  rw[q,ctt]at h
  rw[ctt]
  simp only[Xaf,Xai]at q
  exact⟨q.1,q.2.1,ZCL h⟩
theorem ZKU {c:ZZ} {k:Int} (h:(ZrN c k).1=true):Zw c=true∧1≤k∧ofR (ZrN c k)=ZrO c k∧Zw (ofR (ZrN c k))=true:=by
 unfold ZrN at h ⊢
 cases q:Zw c&&(decide (1≤k)&&decide (k≤1000))with
 |false=>rw[q,cff]at h;cases h
 |true=>
  rw[q,ctt]at h
  rw[ctt]
  simp only[Xaf,Xai]at q
  exact⟨q.1,q.2.1,ZCL h⟩
theorem ZKe {c:ZZ}:Zw c=true↔(∀i,i<c.1.length→Zbt (c.1.getD i (0,0)).2=true∧1≤(c.1.getD i (0,0)).1∧(c.1.getD i (0,0)).1≤1000)∧(c.1.Pairwise (fun x y=>vof x.2<vof y.2))∧0≤c.2∧c.2≤20000:=by
 constructor
 ·intro h
  obtain⟨h1,h2⟩:=ZcX h
  refine⟨h2,?_,h1⟩
  unfold Zw at h
  simp only[Xaf,Xai,Xan,XaF]at h
  have step:∀i,i+1<c.1.length→vof (c.1.getD i (0,0)).2<vof (c.1.getD (i+1) (0,0)).2:=fun i hi=>by
   have h3:=h.1 (i+1) hi
   unfold Zek at h3
   simp only[Xaf,Bool.or_eq_true,Xai,beq_iff_eq,XbL]at h3
   have:=h3.2.2
   omega
  have far:∀k i,i+k+1<c.1.length→vof (c.1.getD i (0,0)).2<vof (c.1.getD (i+k+1) (0,0)).2:=by
   intro k
   induction k with
   |zero=>exact fun i hi=>step i hi
   |succ k ih=>
    intro i hi
    have a:=ih i (by omega)
    have b:=step (i+k+1) (by omega)
    rw[show i+(k+1)+1=i+k+1+1 by omega]
    omega
  rw[Xa3]
  intro i j hi hj hij
  have:=far (j - i - 1) i (by omega)
  rw[show i+(j - i - 1)+1=j by omega]at this
  rwa [Xab,Xab,Xac hi,Xac hj]at this
 ·rintro⟨h1,h2,h3,h4⟩
  unfold Zw
  simp only[Xaf,Xai,Xan,XaF]
  refine⟨fun i hi=>?_,h3,h4⟩
  obtain⟨a,b,e⟩:=h1 i hi
  unfold Zek
  simp only[Xaf,Bool.or_eq_true,Xai,beq_iff_eq]
  refine⟨a,⟨b,e⟩,?_⟩
  by_cases q:i=0
  ·exact Or.inl q
  ·right
   have:=Xa3.1 h2 (i - 1) i (by omega) hi (by omega)
   rwa [Xab,Xab,Xac hi,Xac (show i - 1<c.1.length by omega)]
theorem Zf7 {c:ZZ}:Zw c=true↔(∀t∈c.1,Zbt t.2=true∧1≤t.1∧t.1≤1000)∧(c.1.Pairwise (fun x y=>vof x.2<vof y.2))∧0≤c.2∧c.2≤20000:=by
 rw[ZKe]
 refine and_congr_left (fun _=>⟨fun h t ht=>?_,fun h i hi=>h _ (ZB hi)⟩)
 obtain⟨i,hi,rfl⟩:=Xaq.1 ht
 have:=h i hi
 rwa [Xab,Xac hi]at this
theorem ZKv {c:ZZ} (h:Zw c=true):Zw (Zsb c)=true:=by
 obtain⟨h1,h2,h3,h4⟩:=Zf7.1 h
 rw[Zf7]
 unfold Zsb
 by_cases q:0<c.2
 ·rw[if_pos q]
  refine⟨fun t ht=>?_,List.pairwise_map.2 (h2.imp (fun hab=>hab)),h3,h4⟩
  obtain⟨x,hx,rfl⟩:=XaL.1 ht
  have:=h1 x hx
  dsimp only
  exact⟨this.1,by omega,by omega⟩
 ·rw[if_neg q]
  exact⟨fun t ht=>absurd ht XaJ,List.Pairwise.nil,h3,h4⟩
theorem ZEk {l:List (Int×Int)} {x:Int} (h:∀t∈l,1≤t.1):0≤ZeX l x:=by
 unfold ZeX
 induction l with
 |nil=>exact XaD _
 |cons t l ih=>
  have i1:=ih (fun y hy=>h y (Xau _ hy))
  have:=h t XaB
  by_cases q:vof t.2=x
  ·rw[Xbc (p:=fun t:Int×Int=>decide (vof t.2=x)) (Xae q),XaR,XbK]
   omega
  ·rw[Xbb (p:=fun t:Int×Int=>decide (vof t.2=x)) (by rw[Xai];exact q)]
   exact i1
theorem ZJs {c:ZZ} {x:Int} (h:Zw c=true):Zw (ZxX c x)=true:=by
 obtain⟨h1,h2,h3,h4⟩:=Zf7.1 h
 have:=ZEk (x:=x) (fun t ht=>(h1 t ht).2.1)
 rw[Zf7]
 unfold ZxX
 exact⟨fun t ht=>h1 t (XaZ.1 ht).1,h2.filter _,by dsimp only;omega,by dsimp only;omega⟩
theorem ZKS {l:Int} (h:Zbt l=true):Zw ([(1,l)],0)=true:=by
 rw[Zf7]
 refine⟨fun t ht=>?_,Xbr _ _,XaD _,by show (0:Int)≤20000;decide⟩
 rw[Xaj]at ht
 subst ht
 exact⟨h,by show (1:Int)≤1;decide,by show (1:Int)≤1000;decide⟩
def ZAa (s:Z3) (k:Nat):Prop:=if s.1=7 then True else if s.1=6 then False else(k:Int)=s.2.1∨(s.1=1∧(k:Int)=s.2.2.1)
theorem ZIC {d:DbT} {s:Z3} (hd:Zeu d.1) (hl:d.1.length≤1000000) (h:(Zco d s).1=true):Zw (ofR (Zco d s))=true∧∀v,(∀k,k<d.1.length→ZAa s k→Zb2 v (d.1.getD k ([],0))=true)→Zb2 v (ofR (Zco d s))=true:=by
 unfold Zco at h ⊢
 by_cases k6:s.1=6
 ·rw[if_pos k6]at h ⊢
  unfold axB at h ⊢
  cases q:Zbt s.2.1 with
  |false=>rw[q,cff]at h;cases h
  |true=>rw[ctt];exact⟨ZKS q,fun v _=>ZKa⟩
 rw[if_neg k6]at h ⊢
 by_cases k7:s.1=7
 ·rw[if_pos k7]at h ⊢
  cases q:Zw s.2.2.2&&Zsa (ZlB d) s.2.2.2 with
  |false=>rw[q,cff]at h;cases h
  |true=>
   rw[ctt]
   rw[Xaf]at q
   refine⟨q.1,fun v hv=>ZI6 (Zw4 hd) (by have:=ZpV d d.1.length;unfold ZlB;omega) q.1 q.2 (fun c hc=>?_)⟩
   obtain⟨i,hi,rfl⟩:=Zw3 d d.1.length (Nat.le_refl _) c hc
   exact hv i hi (by unfold ZAa;rw[if_pos k7];trivial)
 rw[if_neg k7]at h ⊢
 have hr:∀k,ZAa s k↔((k:Int)=s.2.1∨(s.1=1∧(k:Int)=s.2.2.1)):=fun k=>by
  unfold ZAa
  rw[if_neg k7,if_neg k6]
 cases qa:ZdH d s.2.1 with
 |false=>rw[qa,cff]at h;cases h
 |true=>
  rw[qa,ctt]at h
  rw[ctt]
  obtain⟨a0,a1,a2⟩:=ZmU qa
  have ca:=(hd _ a2).1
  have ea:∀v,(∀k,k<d.1.length→ZAa s k→Zb2 v (d.1.getD k ([],0))=true)→Zb2 v (ZiR d s.2.1)=true:=fun v hv=>hv s.2.1.toNat a1 ((hr _).2 (Or.inl (by omega)))
  by_cases k1:s.1=1
  ·rw[if_pos k1]at h ⊢
   cases qb:ZdH d s.2.2.1 with
   |false=>rw[qb,cff]at h;cases h
   |true=>
    rw[qb,ctt]at h
    rw[ctt]
    obtain⟨b0,b1,b2⟩:=ZmU qb
    have cb:=(hd _ b2).1
    refine⟨?_,fun v hv=>ZIv ca cb (ea v hv) (hv s.2.2.1.toNat b1 ((hr _).2 (Or.inr ⟨k1,by omega⟩))) h⟩
    unfold ZrH at h ⊢
    rw[ca,cb,Xag,ctt]at h ⊢
    exact(Zy0 h).2
  rw[if_neg k1]at h ⊢
  by_cases k2:s.1=2
  ·rw[if_pos k2]at h ⊢
   obtain⟨m1,m2,m3,m4⟩:=ZK5 h
   exact⟨m4,fun v hv=>by rw[m3];exact ZIW m2 (ea v hv)⟩
  rw[if_neg k2]at h ⊢
  by_cases k3:s.1=3
  ·rw[if_pos k3]at h ⊢
   obtain⟨m1,m2,m3,m4⟩:=ZKU h
   exact⟨m4,fun v hv=>by rw[m3];exact ZIE m2 (ea v hv)⟩
  rw[if_neg k3]at h ⊢
  by_cases k4:s.1=4
  ·rw[if_pos k4]
   unfold Zxo
   rw[ca,ctt]
   exact⟨ZKv ca,fun v hv=>ZI7 ca (ea v hv)⟩
  rw[if_neg k4]at h ⊢
  unfold Ztw at h ⊢
  cases q:Zw (ZiR d s.2.1)&&(decide (1≤s.2.2.1)&&decide (s.2.2.1≤12))with
  |false=>rw[q,cff]at h;cases h
  |true=>rw[ctt];exact⟨ZJs ca,fun v hv=>ZIp ca (ea v hv)⟩
end Go.AE.Y
namespace Go.AE.Y
open Go Go.AE
set_option maxHeartbeats 400000
def ZuM (m:Zt) (i:Nat) (c:Int) (n:Nat):List (Int×Int):=(List.range n).map (fun (k:Nat)=>(c*(k:Int),Zcu m i k))
def Zg0 (m:Zt) (r:ZE):Nat→List (Int×Int)
 |0=>[]
 |n+1=>Zg0 m r n++ZuM m (r.2.1.getD n 0).toNat (r.2.2.1.getD n 0) (ZfN m (r.2.1.getD n 0).toNat)
def Zj8 (m:Zt) (r:ZE):Int×List Int:=ZbY (Zg0 m r r.2.1.length) r.2.2.2.1
def ZtR (m:Zt) (r:ZE):ZZ:=ofR (ZbX (Zj8 m r).2 (Zj8 m r).1)
structure Zdz (m:Zt) (r:ZE):Prop where
 vars:∀i,i<r.2.1.length→0≤r.2.1.getD i 0∧(r.2.1.getD i 0).toNat<m.1.length
 nodup:r.2.1.Nodup
 pos:1≤r.2.1.length
 lin:r.1=1→r.2.2.1.length=r.2.1.length∧(∀i,-9≤r.2.2.1.getD i 0∧r.2.2.1.getD i 0≤9) ∧ -1000≤r.2.2.2.1∧r.2.2.2.1≤1000
 two:r.1=4→r.2.1.length=2
 kind:r.1=1∨r.1=2∨r.1=3∨r.1=4
theorem ZGb {l:List Int} {n:Int} (h:ZnJ l n=true):l.Nodup∧∀i,i<l.length→0≤l.getD i 0∧l.getD i 0≤n - 1:=by
 unfold ZnJ at h
 rw[Xan]at h
 have h1:∀i,i<l.length→(0≤l.getD i 0∧l.getD i 0≤n - 1)∧∀x∈l.take i,l.getD i 0≠x:=fun i hi=>by
  have:=h i (XaF.2 hi)
  unfold Zlu at this
  simp only[Xaf,Xai,Xbe,XaV,beq_iff_eq]at this
  exact this
 refine⟨?_,fun i hi=>(h1 i hi).1⟩
 unfold List.Nodup
 rw[Xa3]
 intro i j hi hj hij e
 have h2:=(h1 j hj).2 l[i] (Xaq.2 ⟨i,by rw[Xay];omega,by rw[Xbo]⟩)
 rw[Xab,Xac hj]at h2
 exact h2 e.symm
theorem Zrl {m:Zt} {r:ZE} (hm:ZF m=true) (hr:r∈m.2):Zdz m r:=by
 have hm':=hm
 unfold ZF at hm
 simp only[Xaf,Xai,Xan]at hm
 have h:=hm.2.2.2.2 r hr
 unfold Zex at h
 simp only[Xaf,Xai]at h
 obtain⟨h1,h2,h3,h4⟩:=h
 obtain⟨n1,n2⟩:=ZGb h1
 have hk:r.1=1∧ZyV r=true∨r.1=2∨r.1=3∨(r.1=4∧r.2.1.length=2):=by
  unfold ZfK at h4
  by_cases k1:r.1=1
  ·rw[Zu k1]at h4
   exact Or.inl ⟨k1,h4⟩
  rw[Zs k1]at h4
  by_cases k3:r.1=3
  ·exact Or.inr (Or.inr (Or.inl k3))
  rw[Zs k3]at h4
  by_cases k4:r.1=4
  ·rw[Zu k4,Xai]at h4
   exact Or.inr (Or.inr (Or.inr ⟨k4,h4⟩))
  rw[Zs k4,beq_iff_eq]at h4
  exact Or.inr (Or.inl h4)
 refine⟨fun i hi=>by have:=n2 i hi;omega,n1,h2,fun k1=>?_,fun k4=>?_,?_⟩
 ·rcases hk with⟨_,hl⟩|k|k|⟨k,_⟩
  ·unfold ZyV at hl
   simp only[Xaf,Xai,Xan]at hl
   refine⟨by omega,fun i=>?_,hl.2.1.1,hl.2.1.2⟩
   rcases Xah i r.2.2.1.length with q|q
   ·have:=hl.2.2 _ (ZB (l:=r.2.2.1) (i:=i) (d:=0) q)
    unfold Zo2 at this
    simp only[Xaf,Xai]at this
    exact this.2
   ·rw[Xab,Xat q]
    decide
  ·omega
  ·omega
  ·omega
 ·rcases hk with⟨k,_⟩|k|k|⟨_,k⟩
  ·omega
  ·omega
  ·omega
  ·exact k
 ·rcases hk with⟨k,_⟩|k|k|⟨k,_⟩
  ·exact Or.inl k
  ·exact Or.inr (Or.inl k)
  ·exact Or.inr (Or.inr (Or.inl k))
  ·exact Or.inr (Or.inr (Or.inr k))
theorem Zgw {m:Zt} {r:ZE} (hm:ZF m=true) (h:Zdz m r):r.2.1.length≤5:=by
 have h5:m.1.length≤5:=by
  unfold ZF at hm
  simp only[Xaf,Xai]at hm
  exact hm.1.2
 have hs:=ZFy (f:=fun _=>1) (n:=m.1.length) (r.2.1.map Int.toNat) (Ztn (fun a ha b hb e=>by
  obtain⟨i,hi,ei⟩:=Xaq.1 ha
  obtain⟨j,hj,ej⟩:=Xaq.1 hb
  have h1:=(h.vars i hi).1
  have h2:=(h.vars j hj).1
  rw[Xab,Xac hi]at h1
  rw[Xab,Xac hj]at h2
  have h1:0≤r.2.1[i]:=h1
  have h2:0≤r.2.1[j]:=h2
  omega) h.nodup) (fun x hx=>by
  obtain⟨c,hc,rfl⟩:=XaL.1 hx
  obtain⟨i,hi,rfl⟩:=Xaq.1 hc
  have:=(h.vars i hi).2
  rwa [Xab,Xac hi]at this)
 have h1:∀l:List Nat,(l.map (fun _=>(1:Int))).sum=l.length:=by
  intro l
  induction l with
  |nil=>rfl
  |cons a l ih=>rw[XaR,XbK,ih,Xal];omega
 have h2:∀n:Nat,ZeA (fun _=>1) n=n:=by
  intro n
  induction n with
  |zero=>rfl
  |succ n ih=>unfold ZeA;rw[ih];omega
 have h3:=Zzg (g:=fun i=>if i∈r.2.1.map Int.toNat then 1 else 0) (h:=fun _=>1) m.1.length (fun i _=>by split<;>omega)
 rw[h1,Xas]at hs
 rw[h2]at h3
 omega
theorem ZKs {l x:List Int} {i:Nat} (h:i<l.length):(Zc0 l x).getD i 0=x.getD (l.getD i 0).toNat 0:=by
 unfold Zc0
 rw[ZrP (d:=0) (h:=h)]
theorem ZoY {m:Zt} (hm:ZF m=true) {i:Nat} (hi:i<m.1.length):1≤ZfN m i∧ZfN m i≤4:=by
 have:=ZeS hm hi
 unfold ZfN
 omega
theorem Zz2 {a k:Int} (ha : -9≤a∧a≤9) (hk:0≤k∧k≤3) : -27≤a*k∧a*k≤27:=by
 have:k=0∨k=1∨k=2∨k=3:=by omega
 rcases this with rfl|rfl|rfl|rfl<;>omega
theorem Zum {m:Zt} {r:ZE} (hm:ZF m=true) (ho:Zdz m r) (k1:r.1=1):∀n,n≤r.2.1.length→(Zg0 m r n).length≤4*n∧∀t∈Zg0 m r n,okS t ∧ -27≤t.1∧t.1≤27
 |0,_=>⟨Nat.le_refl _,fun t ht=>absurd ht XaJ⟩
 |n+1,hn=>by
  obtain⟨i1,i2⟩:=Zum hm ho k1 n (by omega)
  obtain⟨v0,vi⟩:=ho.vars n (by omega)
  have hs:=ZoY hm vi
  obtain⟨_,hc,_⟩:=ho.lin k1
  unfold Zg0
  refine⟨?_,fun t ht=>?_⟩
  ·unfold ZuM
   rw[Xam,Xas,XaK]
   omega
  ·rcases List.mem_append.1 ht with h|h
   ·exact i2 t h
   ·obtain⟨k,hk,rfl⟩:=XaL.1 h
    have hk:=XaF.1 hk
    have hkv:=(Zoa hm vi).1 hk
    have hb:=Zz2 (hc n) (k:=(k:Int)) ⟨by omega,by omega⟩
    exact⟨⟨by (try dsimp only)<;>omega,(ZLc hm vi hkv).1⟩,hb⟩
theorem Zq7 {ts:List (Int×Int)} {b:Int} (h:∀t∈ts,okS t ∧ -27≤t.1∧t.1≤27):∀n:Nat,n≤ts.length→(ZbY (ts.take n) b).2.length=13∧(b - 27*n≤(ZbY (ts.take n) b).1∧(ZbY (ts.take n) b).1≤b+27*n)∧∀j,-27*(n:Int)≤(ZbY (ts.take n) b).2.getD j 0∧(ZbY (ts.take n) b).2.getD j 0≤27*(n:Int)
 |0,_=>by
  rw[XaQ]
  refine⟨rfl,⟨by show b - _≤b;omega,by show b≤b+_;omega⟩,fun j=>?_⟩
  show _≤(List.replicate 13 (0:Int)).getD j 0∧(List.replicate 13 (0:Int)).getD j 0≤_
  rw[ZDT]
  omega
 |n+1,hn=>by
  obtain⟨i1,i3,i4⟩:=Zq7 h n (by omega)
  obtain⟨⟨_,o2⟩,o3⟩:=h _ (ZB (l:=ts) (i:=n) (d:=(0,0)) (by omega))
  have hl:=ZP.1 o2
  rw[Zk8 (by omega)]
  generalize ZbY (ts.take n) b=s at i1 i3 i4
  generalize ts.getD n (0,0)=t at o3 hl
  unfold ZjQ
  by_cases q:t.2<0
  ·rw[if_pos q]
   dsimp only
   refine⟨by rw[Xap];exact i1,⟨by omega,by omega⟩,fun j=>?_⟩
   have hj:=i4 j
   have hv:=i4 (0 - t.2).toNat
   rw[ZhA]
   split<;>omega
  ·rw[if_neg q]
   dsimp only
   refine⟨by rw[Xap];exact i1,⟨by omega,by omega⟩,fun j=>?_⟩
   have hj:=i4 j
   have hv:=i4 t.2.toNat
   rw[ZhA]
   split<;>omega
theorem Zy6 {net:List Int}:∀n,n≤12→(∀j,-1000≤net.getD j 0∧net.getD j 0≤1000)→(∀t∈ZbH net n,(Zbt t.2=true∧1≤t.1∧t.1≤1000)∧vof t.2≤n)∧(ZbH net n).Pairwise (fun x y=>vof x.2<vof y.2)
 |0,_,_=>⟨fun t ht=>absurd ht XaJ,List.Pairwise.nil⟩
 |n+1,hn,hb=>by
  obtain⟨i1,i2⟩:=Zy6 n (by omega) hb
  have hbn:=hb (n+1)
  unfold ZbH
  have one:∀t∈(if 0<net.getD (n+1) 0 then[(net.getD (n+1) 0,((n+1:Nat):Int))]else if net.getD (n+1) 0<0 then[(0 - net.getD (n+1) 0,0 - ((n+1:Nat):Int))]else[]),(Zbt t.2=true∧1≤t.1∧t.1≤1000)∧vof t.2=((n+1:Nat):Int):=fun t ht=>by
   split at ht
   ·rw[Xaj]at ht
    subst ht
    exact⟨⟨ZP.2 ⟨by (try dsimp only)<;>omega,by (try dsimp only)<;>omega,by (try dsimp only)<;>omega⟩,by (try dsimp only)<;>omega,by (try dsimp only)<;>omega⟩,by unfold vof;(try dsimp only)<;>omega⟩
   ·split at ht
    ·rw[Xaj]at ht
     subst ht
     exact⟨⟨ZP.2 ⟨by (try dsimp only)<;>omega,by (try dsimp only)<;>omega,by (try dsimp only)<;>omega⟩,by (try dsimp only)<;>omega,by (try dsimp only)<;>omega⟩,by unfold vof;(try dsimp only)<;>omega⟩
    ·exact absurd ht XaJ
  refine⟨fun t ht=>?_,List.pairwise_append.2 ⟨i2,?_,fun x hx y hy=>?_⟩⟩
  ·rcases List.mem_append.1 ht with h|h
   ·have:=i1 t h
    exact⟨this.1,by omega⟩
   ·have:=one t h
    exact⟨this.1,by omega⟩
  ·split
   ·exact Xbr _ _
   ·split
    ·exact Xbr _ _
    ·exact List.Pairwise.nil
  ·have:=(i1 x hx).2
   have:=(one y hy).2
   omega
theorem ZKl {m:Zt} {r:ZE} (hm:ZF m=true) (ho:Zdz m r) (k1:r.1=1):(ZbX (Zj8 m r).2 (Zj8 m r).1).1=true:=by
 have h5:=Zgw hm ho
 obtain⟨l1,l2⟩:=Zum hm ho k1 r.2.1.length (Nat.le_refl _)
 obtain⟨_,_,b1,b2⟩:=ho.lin k1
 obtain⟨n1,n2,n3⟩:=Zq7 (b:=r.2.2.2.1) l2 (Zg0 m r r.2.1.length).length (Nat.le_refl _)
 rw[Xav]at n1 n2 n3
 have hb:∀j,-1000≤(Zj8 m r).2.getD j 0∧(Zj8 m r).2.getD j 0≤1000:=fun j=>by
  have:=n3 j
  unfold Zj8
  omega
 have hb2 : -2000≤(Zj8 m r).1∧(Zj8 m r).1≤2000:=by
  unfold Zj8
  omega
 obtain⟨p1,p2⟩:=Zy6 (net:=(Zj8 m r).2) 12 (Nat.le_refl _) hb
 have hneg:=Zmr (net:=(Zj8 m r).2) (b:=(Zj8 m r).1) (K:=1000) (by omega) (fun j=>by have:=hb j;omega) 12
 have hc:Zw (ZbH (Zj8 m r).2 12,max 0 (ZW (Zj8 m r).2 (Zj8 m r).1 12))=true:=Zf7.2 ⟨fun t ht=>(p1 t ht).1,p2,by (try dsimp only)<;>omega,by (try dsimp only)<;>omega⟩
 unfold ZbX
 rw[hc,ctt]
def ZfD (m:Zt) (r:ZE) (k:Nat):List Int:=(r.2.1.filter (fun c=>decide ((k:Int)≤m.1.getD c.toNat 0))).map (fun c=>Zcu m c.toNat k)
def Zoc (l:List Int):List Int:=l.mergeSort (fun a b=>decide (a≤b))
def ZxJ (m:Zt) (r:ZE):ZD:=(List.range 4).flatMap (fun k=>if 1<(ZfD m r k).length then[ZmD (Zoc (ZfD m r k))]else[])
theorem Zsi {m:Zt} {r:ZE} (ho:Zdz m r) {c:Int} (hc:c∈r.2.1):0≤c∧c.toNat<m.1.length:=by
 obtain⟨i,hi,rfl⟩:=Xaq.1 hc
 have:=ho.vars i hi
 rwa [Xab,Xac hi]at this
theorem ZEp {m:Zt} {r:ZE} (hm:ZF m=true) (ho:Zdz m r) {k:Nat}:(ZfD m r k).Nodup∧∀y∈ZfD m r k,∃c,c∈r.2.1∧(k:Int)≤m.1.getD c.toNat 0∧y=Zcu m c.toNat k:=by
 refine⟨Ztn (fun a ha b hb e=>?_) (ho.nodup.filter _),fun y hy=>?_⟩
 ·obtain⟨a1,a2⟩:=XaZ.1 ha
  obtain⟨b1,b2⟩:=XaZ.1 hb
  obtain⟨a3,a4⟩:=Zsi ho a1
  obtain⟨b3,b4⟩:=Zsi ho b1
  have:=(ZB2 hm a4 (of_decide_eq_true a2) b4 (of_decide_eq_true b2) e).1
  omega
 ·obtain⟨c,hc,rfl⟩:=XaL.1 hy
  obtain⟨c1,c2⟩:=XaZ.1 hc
  exact⟨c,c1,of_decide_eq_true c2,rfl⟩
end Go.AE.Y
namespace Go.AE.Y
open Go Go.AE
set_option maxHeartbeats 400000
theorem ZK9 (l:List Int):∀a:Int,l.foldl (fun a n=>a+(n+1)) a=a+(l.map (fun n=>n+1)).sum:=by
 induction l with
 |nil=>intro a;exact(Int.add_zero a).symm
 |cons x l ih=>
  intro a
  rw[Xbf,ih,XaR,XbK]
  omega
theorem ZEf {m:Zt}:∀n,n≤m.1.length→Zbm m n=ZeA (fun i=>m.1.getD i 0+1) n
 |0,_=>rfl
 |n+1,h=>by
  rw[Zg9 (by omega),ZEf n (by omega)]
  rfl
def smM (m:Zt) (r:ZE):Zt:=(r.2.1.map (fun c=>m.1.getD c.toNat 0),[])
theorem ZFl {m:Zt} {r:ZE} (hm:ZF m=true) (ho:Zdz m r):ZF (smM m r)=true:=by
 have h5:=Zgw hm ho
 have hs:Zl7 (smM m r).1≤12:=by
  have h12:=(ZkJ hm m.1.length (Nat.le_refl _)).2
  rw[ZEf _ (Nat.le_refl _)]at h12
  have e:Zl7 (smM m r).1=((r.2.1.map Int.toNat).map (fun i=>m.1.getD i 0+1)).sum:=by
   unfold Zl7 smM
   rw[ZK9,Int.zero_add,XbP,XbP]
   rfl
  rw[e,ZFy (n:=m.1.length) _ (Ztn (fun a ha b hb h=>by
   have:=(Zsi ho ha).1
   have:=(Zsi ho hb).1
   omega) ho.nodup) (fun x hx=>by
   obtain⟨c,hc,rfl⟩:=XaL.1 hx
   exact(Zsi ho hc).2)]
  refine Int.le_trans (Zzg _ (fun i hi=>?_)) h12
  have:=ZeS hm hi
  split<;>omega
 unfold ZF
 simp only[Xaf,Xai,Xan]
 refine⟨⟨?_,?_⟩,?_,?_,hs,fun r hr=>absurd hr XaJ⟩
 ·show 1≤(r.2.1.map _).length
  rw[Xas];exact ho.pos
 ·show (r.2.1.map _).length≤5
  rw[Xas];exact h5
 ·show ([]:List ZE).length≤8
  exact Nat.zero_le _
 ·intro x hx
  obtain⟨c,hc,rfl⟩:=XaL.1 hx
  have:=ZeS hm (Zsi ho hc).2
  unfold Zc3
  rw[Xaf,Xai,Xai]
  omega
def ZlC (m:Zt) (r:ZE) (vals:List Int):List Int:=(List.range r.2.1.length).map (fun i=>0 - Zcu m (r.2.1.getD i 0).toNat (vals.getD i 0).toNat)
def ZqU (m:Zt) (r:ZE):ZD:=((ZtE (smM m r) (Zoo (smM m r))).filter (fun vals=>!holdsB r vals)).map (fun vals=>Zmz (ZlC m r vals))
theorem ZLB {m:Zt} {r:ZE} {i:Nat} (h:i<r.2.1.length):(smM m r).1.getD i 0=m.1.getD (r.2.1.getD i 0).toNat 0:=by
 unfold smM
 rw[ZrP (d:=0) (h:=h)]
theorem ZyX {m:Zt} {r:ZE} {vals:List Int} (hm:ZF m=true) (ho:Zdz m r) (hv:ZR (smM m r) vals=true):ZcF (ZlC m r vals)=true∧∀i,i<r.2.1.length→0≤vals.getD i 0∧vals.getD i 0≤m.1.getD (r.2.1.getD i 0).toNat 0:=by
 obtain⟨v1,v2⟩:=Zs7 hv
 have hlen2:(smM m r).1.length=r.2.1.length:=Xas ..
 have hr:∀i,i<r.2.1.length→0≤vals.getD i 0∧vals.getD i 0≤m.1.getD (r.2.1.getD i 0).toNat 0:=fun i hi=>by
  have:=v2 i (by omega)
  rwa [ZLB hi]at this
 have hneg:∀y∈ZlC m r vals,-12≤y∧y ≤ -1:=fun y hy=>by
  obtain⟨i,hi,rfl⟩:=XaL.1 hy
  have hi:=XaF.1 hi
  have:=hr i hi
  have:=Zdy hm (ho.vars i hi).2 (k:=(vals.getD i 0).toNat) (by omega)
  omega
 refine⟨?_,hr⟩
 unfold ZcF
 rw[Xaf,Xan,Xan]
 refine⟨fun y hy=>ZP.2 (by have:=hneg y hy;omega),fun y hy=>?_⟩
 rw[Xbe,XaV]
 intro z hz e
 have:=hneg y hy
 have:=hneg z hz
 have:=beq_iff_eq.1 e
 omega
def Zpe (m:Zt) (r:ZE):ZD:=if r.1=1 then[ZtR m r]else if r.1=2 then ZxJ m r else ZqU m r
def Zdq (m:Zt):ZD:=(List.range m.1.length).flatMap (Zo1 m)++m.2.flatMap (Zpe m)
def ZBe (m:Zt):Bool×ZD:=bif ZF m&&decide ((Zdq m).length≤400)then(true,Zdq m)else(false,[])
end Go.AE.Y
namespace Go.AE.Y
open Go Go.AE
set_option maxHeartbeats 400000
theorem Zvj {n i:Nat} (h:i<n):(List.range n).getD i 0=i:=by
 rw[Xab,Xac (by rw[XaK];exact h),List.getElem_range]
 rfl
theorem Zz7 (vs:List Int):vs.map (fun x=>((1:Int),0 - x))=Zi2 (Zxa vs):=by
 unfold Zi2 Zxa
 rw[XbP]
 rfl
theorem ZqG {vs:List Int} (hl:vs.length≤1000) (hv:∀x∈vs,-1000≤x∧x≤1000):Zij vs=some ((ZmD vs).2,(ZmD vs).1):=by
 unfold Zij
 rw[Zg (by omega) (by omega)]
 show _=some ((vs.length:Int) - 1,Zi2 (Zxa vs))
 rw[←Zz7]
 refine ZbW (f:=Zfo vs) vs 0 (fun x=>((1:Int),0 - x)) [] (fun o=>((vs.length:Int) - 1,o)) (fun i out hi ho=>?_) ?_
 ·have:=hv _ (ZB (l:=vs) (i:=i) (d:=0) hi)
  have ho:out.length=i:=by rw[ho];simp
  unfold Zfo
  dsimp only
  rw[Zd (by omega),Zb ⟨by omega,by omega⟩,Xaa,Zg (by omega) (by omega),Zb (by simp only[Zp,Xal,Xak];omega),Zg (by omega) (by omega)]
 ·unfold Zfo
  dsimp only
  rw[Zc (by omega)]
theorem Zuw {vs:List Int} (hl:vs.length≤1000) (hv:∀x∈vs,-1000≤x∧x≤1000):Zmt vs=some ((ZmD vs).2,(ZmD vs).1):=by
 unfold Zmt
 rw[Zg (by omega) (by omega)]
 show _=some ((vs.length:Int) - 1,Zi2 (Zxa vs))
 rw[←Zz7]
 refine ZbW (f:=ZiA vs) vs 0 (fun x=>((1:Int),0 - x)) [] (fun o=>((vs.length:Int) - 1,o)) (fun i out hi ho=>?_) ?_
 ·have:=hv _ (ZB (l:=vs) (i:=i) (d:=0) hi)
  have ho:out.length=i:=by rw[ho];simp
  unfold ZiA
  dsimp only
  rw[Zd (by omega),Zb ⟨by omega,by omega⟩,Xaa,Zg (by omega) (by omega),Zb (by simp only[Zp,Xal,Xak];omega),Zg (by omega) (by omega)]
 ·unfold ZiA
  dsimp only
  rw[Zc (by omega)]
theorem Zzl {m:Zt} (hm:ZF m=true) {i:Nat} (hi:i<m.1.length):∀x∈ZeC m i,1≤x∧x≤12:=fun x hx=>by
 obtain⟨k,hk,rfl⟩:=XaL.1 hx
 have:=Zdy hm hi ((Zoa hm hi).1 (XaF.1 hk))
 omega
theorem ZxU {m:Zt} (hm:ZF m=true) {i:Nat} (hi:i<m.1.length):(ZfN m i:Int)=m.1.getD i 0+1:=by
 have:=(ZoY hm hi).1
 unfold ZfN at this ⊢
 omega
theorem ZBj {m:Zt} (hm:ZF m=true) {i:Nat} (hi:i<m.1.length):ZhS m i=some (ZeC m i):=by
 have hz:=ZxU hm hi
 have h4:=ZoY hm hi
 unfold ZhS
 rw[Zb ⟨by omega,by omega⟩,Xaa,Zg (by omega) (by omega)]
 refine ZbW (f:=ZdT m i) (List.range (ZfN m i)) 0 (Zcu m i) [] (fun o=>o) (fun k out hk ho=>?_) ?_
 ·rw[XaK]at hk
  have ho:out.length=k:=by rw[ho];simp
  unfold ZdT
  dsimp only
  rw[Xaa,Zd (by omega),Zhf hm hi (by omega),Ze,Zb (by simp only[Zp,Xal,Xak];omega),Zg (by omega) (by omega),Zvj hk]
  rfl
 ·rw[XaK]
  unfold ZdT
  dsimp only
  rw[Xaa,Zc (by omega)]
theorem Zs8 {l:List Int} (h:ZcF l=true) (hl:l.length≤40):Zrf l=(true,(Zmz l).2,(Zmz l).1):=by
 unfold Zrf
 rw[Xae hl,h]
 rfl
theorem ZBW {m:Zt} (hm:ZF m=true) {i:Nat} (hi:i<m.1.length):Zpk m i=some (Zo1 m i):=by
 have hz:=ZxU hm hi
 have h4:=ZoY hm hi
 obtain⟨v1,_,_,_,v5⟩:=Zzm hm hi
 have hin:=Zzl hm hi
 have hfin:Ziy (ZeC m i)=some (Zo1 m i):=by
  unfold Ziy
  rw[Zsf _ (by omega),Ze,Zs8 v1 (by omega),Zuw (by omega) (fun x hx=>by have:=hin x hx;omega),Ze]
  unfold Zo1
  generalize Zmz (ZeC m i)=a
  generalize ZmD (ZeC m i)=b
  rfl
 unfold Zpk
 have:=ZbW (f:=Ziz m i) (List.range (ZfN m i)) 0 (Zcu m i) [] (fun o=>Zo1 m i) (fun k out hk ho=>?_) ?_
 ·exact this
 ·rw[XaK]at hk
  have ho:out.length=k:=by rw[ho];simp
  unfold Ziz
  dsimp only
  rw[Zb ⟨by omega,by omega⟩,Xaa,Zd (by omega),ZjM hm hi (by omega),Ze,Zb (by simp only[Zp,Xal,Xak];omega),Zg (by omega) (by omega),Zvj hk]
  rfl
 ·rw[XaK]
  unfold Ziz
  dsimp only
  rw[Zb ⟨by omega,by omega⟩,Xaa,Zc (by omega),Xao]
  show up (Ziy (ZeC m i))=_
  rw[hfin]
  rfl
theorem ZlE {m:Zt} {r:ZE} (hm:ZF m=true) (ho:Zdz m r) {i:Nat} (hi:i<r.2.1.length):(0≤r.2.1.getD i 0∧(r.2.1.getD i 0).toNat<m.1.length)∧(ZfN m (r.2.1.getD i 0).toNat:Int)=m.1.getD (r.2.1.getD i 0).toNat 0+1∧ZfN m (r.2.1.getD i 0).toNat≤4∧r.2.1.length≤5:=by
 have h:=ho.vars i hi
 exact⟨h,ZxU hm h.2,(ZoY hm h.2).2,Zgw hm ho⟩
theorem ZGh {m:Zt} {r:ZE} (hm:ZF m=true) (ho:Zdz m r) (k1:r.1=1):ZbD m r=some [ZtR m r]:=by
 obtain⟨l1,l2,l3,l4⟩:=ho.lin k1
 have h5:=Zgw hm ho
 have hfin:ZdS r (Zg0 m r r.2.1.length)=some [ZtR m r]:=by
  obtain⟨c1,c2⟩:=Zum hm ho k1 r.2.1.length (Nat.le_refl _)
  unfold ZdS
  rw[Ztf (fun t ht=>(c2 t ht).1) (by omega) ⟨by omega,by omega⟩,Ze]
  unfold ZtR Zj8
  generalize ZbX _ _=q
  rfl
 unfold ZbD
 rw[Zu k1]
 refine ZH (fun s:Int×List (Int×Int)=>∃i:Nat,s.1=i∧i≤r.2.1.length∧s.2=Zg0 m r i) (fun s=>r.2.1.length - s.1.toNat) (fun _=>[ZtR m r]) ?_ _ ⟨0,rfl,Nat.zero_le _,rfl⟩
 rintro⟨s,out⟩ ⟨i,hi1,hi,ho'⟩
 dsimp only at hi1 ho'
 subst hi1
 unfold Zgb
 dsimp only
 rcases Xah i r.2.1.length with q|q
 ·left
  obtain⟨⟨a0,a1⟩,a2,a3,_⟩:=ZlE hm ho q
  have hc:=l2 i
  obtain⟨c1,_⟩:=Zum hm ho k1 i hi
  rw[Zd (by omega),Zb ⟨by omega,by omega⟩,Xaa,Zb ⟨by omega,by omega⟩,Zg (by omega) (by omega)]
  have hl:loop (Zcs m r i) ((0:Int),out)=some (Sum.inl ((i:Int)+1,Zg0 m r (i+1)):(Int×List (Int×Int))⊕(List ZZ)):=by
   have:=ZbW (f:=Zcs m r i) (List.range (ZfN m (r.2.1.getD i 0).toNat)) 0 (fun (k:Nat)=>(r.2.2.1.getD i 0*(k:Int),Zcu m (r.2.1.getD i 0).toNat k)) out (fun o=>Sum.inl ((i:Int)+1,o)) (fun k o hk hko=>?_) ?_
   ·rw[this,ho']
    rfl
   ·rw[XaK]at hk
    have hko:o.length≤40:=by rw[hko,ho'];omega
    have hb:=Zz2 (a:=r.2.2.1.getD i 0) (k:=k) hc ⟨by omega,by omega⟩
    have eb:=Zhf hm a1 (k:=k) (by omega)
    rw[show (((r.2.1.getD i 0).toNat:Nat):Int)=r.2.1.getD i 0 by omega]at eb
    unfold Zcs
    dsimp only
    rw[Xaa,Zd (by omega),Zb ⟨by omega,by omega⟩,Zg (by omega) (by omega),eb,Ze,Zb (by simp only[Zp,Xal,Xak];omega),Zg (by omega) (by omega),Zvj hk]
    rfl
   ·rw[XaK]
    unfold Zcs
    dsimp only
    rw[Xaa,Zc (by omega),Zg (by omega) (by omega)]
  rw[hl]
  exact⟨_,rfl,⟨i+1,by simp,by omega,rfl⟩,by (try dsimp only)<;>omega,rfl⟩
 ·right
  have:i=r.2.1.length:=by omega
  subst this
  rw[Zc (by omega),ho',hfin]
  rfl
theorem ZyH {s:Int×List Int} {t:Int×Int} (h:0<t.2):ZjQ s t=(s.1,s.2.set t.2.toNat (s.2.getD t.2.toNat 0+t.1)):=by
 unfold ZjQ
 rw[if_neg (by omega)]
theorem ZEY {b:Int} {j:Nat}:∀(ts:List (Int×Int)) (s:Int×List Int),(∀t∈ts,0<t.2∧t.2.toNat≠j)→(ts.foldl ZjQ s).2.getD j 0=s.2.getD j 0
 |[],_,_=>rfl
 |t::ts,s,h=>by
  rw[Xbf,ZEY (b:=b) ts (ZjQ s t) (fun x hx=>h x (Xau _ hx))]
  obtain⟨h1,h2⟩:=h t XaB
  rw[ZyH h1]
  exact ZU h2
theorem ZG0:∀(ts:List (Int×Int)) (s:Int×List Int),(∀t∈ts,0<t.2)→(ts.foldl ZjQ s).1=s.1
 |[],_,_=>rfl
 |t::ts,s,h=>by
  rw[Xbf,ZG0 ts (ZjQ s t) (fun x hx=>h x (Xau _ hx))]
  rw[ZyH (h t XaB)]
theorem ZKd (m:Zt) (i:Nat) (c:Int) (n:Nat):ZuM m i c (n+1)=ZuM m i c n++[(c*(n:Int),Zcu m i n)]:=by
 unfold ZuM
 rw[Xbv,Xa9]
 rfl
theorem ZyW {m:Zt} {r:ZE} {t:Int×Int}:∀n,t∈Zg0 m r n→∃i k,i<n∧k<ZfN m (r.2.1.getD i 0).toNat∧t.2=Zcu m (r.2.1.getD i 0).toNat k
 |0,h=>absurd h XaJ
 |n+1,h=>by
  rcases List.mem_append.1 h with q|q
  ·obtain⟨i,k,h1,h2,h3⟩:=ZyW n q
   exact⟨i,k,by omega,h2,h3⟩
  ·obtain⟨k,hk,rfl⟩:=XaL.1 q
   exact⟨n,k,by omega,XaF.1 hk,rfl⟩
theorem ZFf {m:Zt} {r:ZE} (ho:Zdz m r) {i j:Nat} (hi:i<r.2.1.length) (hj:j<r.2.1.length) (h:(r.2.1.getD i 0).toNat=(r.2.1.getD j 0).toNat):i=j:=by
 have h1:=(ho.vars i hi).1
 have h2:=(ho.vars j hj).1
 have e:r.2.1.getD i 0=r.2.1.getD j 0:=by omega
 rw[Xab,Xab,Xac hi,Xac hj]at e
 exact(List.getElem_inj ho.nodup).1 e
theorem ZK1 {m:Zt} {r:ZE} (hm:ZF m=true) (ho:Zdz m r) {i k:Nat} (hi:i<r.2.1.length) (hk:k<ZfN m (r.2.1.getD i 0).toNat):∀t∈Zg0 m r i++ZuM m (r.2.1.getD i 0).toNat (r.2.2.1.getD i 0) k,0<t.2∧t.2.toNat≠(Zcu m (r.2.1.getD i 0).toNat k).toNat:=fun t ht=>by
 have hv:=(ho.vars i hi).2
 have hk':=(Zoa hm hv).1 hk
 have r1:=Zdy hm hv hk'
 rcases List.mem_append.1 ht with q|q
 ·obtain⟨i',k',h1,h2,h3⟩:=ZyW i q
  have hv':=(ho.vars i' (by omega)).2
  have h2':=(Zoa hm hv').1 h2
  have r2:=Zdy hm hv' h2'
  rw[h3]
  refine⟨by omega,fun e=>?_⟩
  have:=(ZB2 hm hv' h2' hv hk' (by omega)).1
  have:=ZFf ho (by omega) hi this
  omega
 ·obtain⟨k',h1,rfl⟩:=XaL.1 q
  have h1:=XaF.1 h1
  have h2':=(Zoa hm hv).1 (show k'<ZfN m (r.2.1.getD i 0).toNat by omega)
  have r2:=Zdy hm hv h2'
  dsimp only
  refine⟨by omega,fun e=>?_⟩
  have:=(ZB2 hm hv h2' hv hk' (by omega)).2
  omega
theorem ZKn {m:Zt} {r:ZE} (hm:ZF m=true) (ho:Zdz m r) {b:Int} {i k:Nat} (hi:i<r.2.1.length) (hk:k<ZfN m (r.2.1.getD i 0).toNat) :
  (ZbY (Zg0 m r i++ZuM m (r.2.1.getD i 0).toNat (r.2.2.1.getD i 0) (k+1)) b).2=(ZbY (Zg0 m r i++ZuM m (r.2.1.getD i 0).toNat (r.2.2.1.getD i 0) k) b).2.set (Zcu m (r.2.1.getD i 0).toNat k).toNat (r.2.2.1.getD i 0*(k:Int)):=by
 have hn:=ZK1 hm ho hi hk
 have hv:=(ho.vars i hi).2
 have r1:=Zdy hm hv ((Zoa hm hv).1 hk)
 have h0:=ZEY (b:=b) _ (b,List.replicate 13 0) hn
 rw[ZDT]at h0
 rw[ZKd,←XaH]
 unfold ZbY
 rw[Xa5]
 show (ZjQ _ (r.2.2.1.getD i 0*(k:Int),Zcu m (r.2.1.getD i 0).toNat k)).2=_
 rw[ZyH (show 0<Zcu m (r.2.1.getD i 0).toNat k by omega)]
 dsimp only
 rw[h0,Int.zero_add]
theorem ZGF {m:Zt} {r:ZE} (hm:ZF m=true) (ho:Zdz m r) (k1:r.1=1):ZmJ m r=some [ZtR m r]:=by
 obtain⟨l1,l2,l3,l4⟩:=ho.lin k1
 have h5:=Zgw hm ho
 obtain⟨c1,c2⟩:=Zum hm ho k1 r.2.1.length (Nat.le_refl _)
 have hpos:∀t∈Zg0 m r r.2.1.length,0<t.2:=fun t ht=>by
  obtain⟨i,k,h1,h2,h3⟩:=ZyW _ ht
  have hv:=(ho.vars i h1).2
  have:=Zdy hm hv ((Zoa hm hv).1 h2)
  omega
 have hfin:Zji r (ZbY (Zg0 m r r.2.1.length) r.2.2.2.1).2=some [ZtR m r]:=by
  obtain⟨n1,_,n3⟩:=Zq7 (b:=r.2.2.2.1) c2 (Zg0 m r r.2.1.length).length (Nat.le_refl _)
  rw[Xav]at n1 n3
  unfold Zji
  rw[Zsg n1 (fun j=>by have:=n3 j;omega) ⟨by omega,by omega⟩,Ze]
  unfold ZtR Zj8
  have e:(ZbY (Zg0 m r r.2.1.length) r.2.2.2.1).1=r.2.2.2.1:=ZG0 _ _ hpos
  rw[e]
  generalize ZbX _ _=q
  rfl
 unfold ZmJ
 rw[Zb ⟨by omega,by simp only[Zp];omega,rfl⟩]
 refine ZH (fun s:Int×List Int=>∃i:Nat,s.1=i∧i≤r.2.1.length∧s.2=(ZbY (Zg0 m r i) r.2.2.2.1).2) (fun s=>r.2.1.length - s.1.toNat) (fun _=>[ZtR m r]) ?_ _ ⟨0,rfl,Nat.zero_le _,rfl⟩
 rintro⟨s,net⟩ ⟨i,hi1,hi,ho'⟩
 dsimp only at hi1 ho'
 subst hi1
 unfold Zm8
 dsimp only
 rcases Xah i r.2.1.length with q|q
 ·left
  obtain⟨⟨a0,a1⟩,a2,a3,_⟩:=ZlE hm ho q
  have hc:=l2 i
  rw[Zd (by omega)]
  have hl:loop (Zjj m r i) ((0:Int),net)=some (Sum.inl ((i:Int)+1,(ZbY (Zg0 m r (i+1)) r.2.2.2.1).2):(Int×List Int)⊕(List ZZ)):=by
   refine ZH (fun s:Int×List Int=>∃k:Nat,s.1=k∧k≤ZfN m (r.2.1.getD i 0).toNat∧s.2.length=13∧s.2=(ZbY (Zg0 m r i++ZuM m (r.2.1.getD i 0).toNat (r.2.2.1.getD i 0) k) r.2.2.2.1).2) (fun s=>ZfN m (r.2.1.getD i 0).toNat - s.1.toNat) (fun _=>_) ?_ _ ⟨0,rfl,Nat.zero_le _,?_,?_⟩
   ·rintro⟨s,net2⟩ ⟨k,hk1,hk,hlen,hnet⟩
    dsimp only at hk1 hlen hnet
    subst hk1
    unfold Zjj
    dsimp only
    rw[Zb ⟨by omega,by omega⟩,Xaa,Zb ⟨by omega,by omega⟩]
    rcases Xah k (ZfN m (r.2.1.getD i 0).toNat)with q2|q2
    ·left
     have hb:=Zz2 (a:=r.2.2.1.getD i 0) (k:=k) hc ⟨by omega,by omega⟩
     have eb:=ZjM hm a1 (k:=k) (by omega)
     rw[show (((r.2.1.getD i 0).toNat:Nat):Int)=r.2.1.getD i 0 by omega]at eb
     have rm:=Zdy hm a1 ((Zoa hm a1).1 q2)
     have ev:(1:Int)+k+Zbm m (r.2.1.getD i 0).toNat=Zcu m (r.2.1.getD i 0).toNat k:=rfl
     rw[ev]at eb
     rw[Zd (by omega),Zb ⟨by omega,by omega⟩,eb,Ze,Zb ⟨by omega,by omega⟩,Zg (by omega) (by omega),Zb ⟨by omega,by omega⟩,Zg (by omega) (by omega)]
     exact⟨_,rfl,⟨k+1,by simp,by omega,by dsimp only;rw[Xap];exact hlen,by dsimp only;rw[hnet,ZKn hm ho q q2]⟩,by (try dsimp only)<;>omega,rfl⟩
    ·right
     have:k=ZfN m (r.2.1.getD i 0).toNat:=by omega
     subst this
     rw[Zc (by omega),Zg (by omega) (by omega),hnet]
     rfl
   ·obtain⟨c1,c2⟩:=Zum hm ho k1 i hi
    have:=(Zq7 (b:=r.2.2.2.1) c2 (Zg0 m r i).length (Nat.le_refl _)).1
    rw[Xav]at this
    dsimp only
    rw[ho',this]
   ·dsimp only
    rw[ho']
    show _=(ZbY (Zg0 m r i++[]) r.2.2.2.1).2
    rw[Xar]
  rw[hl]
  exact⟨_,rfl,⟨i+1,by simp,by omega,rfl⟩,by (try dsimp only)<;>omega,rfl⟩
 ·right
  have:i=r.2.1.length:=by omega
  subst this
  rw[Zc (by omega),ho',hfin]
  rfl
end Go.AE.Y
namespace Go.AE.Y
open Go Go.AE
set_option maxHeartbeats 400000
theorem Zz0 {β R:Type} {f:Int×List β→Option ((Int×List β)⊕R)} (n:Nat) (p:Nat→Bool) (g:Nat→β) (fin:R)
  (h:∀(i:Nat) (out:List β),i<n→out.length≤n→f ((i:Int),out)=some (.inl ((i:Int)+1,bif p i then out++[g i]else out)))
  (hn:f ((n:Int),((List.range n).filter p).map g)=some (.inr fin)):loop f ((0:Int),[])=some fin:=by
 refine ZH (fun s:Int×List β=>∃i:Nat,s.1=i∧i≤n∧s.2=((List.range i).filter p).map g) (fun s=>n - s.1.toNat) (fun _=>fin) ?_ _ ⟨0,rfl,Nat.zero_le _,rfl⟩
 rintro⟨i,out⟩ ⟨j,hj,hl,ho⟩
 dsimp only at hj ho
 subst hj
 rcases Xah j n with q|q
 ·left
  have hlen:out.length≤n:=by
   rw[ho,Xas]
   have:=Xby p (List.range j)
   rw[XaK]at this
   omega
  rw[h j out q hlen]
  refine⟨_,rfl,⟨j+1,by simp,by omega,?_⟩,by (try dsimp only)<;>omega,rfl⟩
  dsimp only
  rw[Xbv,List.filter_append,Xa9,ho]
  cases hp:p j with
  |true=>rw[ctt,Xbc hp];rfl
  |false=>rw[cff,Xbb (by rw[hp];decide)];exact(Xar _).symm
 ·right
  have:j=n:=by omega
  rw[ho,this]
  exact hn
theorem ZGR {α β:Type} (l:List α) (d:α) (p:α→Bool) (g:α→β):(l.filter p).map g=((List.range l.length).filter (fun i=>p (l.getD i d))).map (fun i=>g (l.getD i d)):=by
 have e:(List.range l.length).map (fun i=>l.getD i d)=l:=by
  refine XbG (by rw[Xas,XaK]) (fun i h1 h2=>?_)
  rw[XbS,List.getElem_range,Xab,Xac h2]
  rfl
 have:=List.filter_map (f:=fun i=>l.getD i d) (p:=p) (l:=List.range l.length)
 rw[e]at this
 rw[this,XbP]
 rfl
theorem ZDA {l l':List Int} (h:l.Pairwise (· ≤ ·)) (h':l'.Pairwise (· ≤ ·)) (hp:l.Perm l'):l=l':=
 List.Perm.eq_of_pairwise (le:=fun x y=>x≤y) (fun _ _ _ _ h1 h2=>Int.le_antisymm h1 h2) h h' hp
theorem ZCF (l:List Int):(Zoc l).Pairwise (· ≤ ·):=ZFo l (fun x=>x)
theorem ZlF (l:List Int):(Zoc l).Perm l:=List.mergeSort_perm l _
theorem ZKw {l:List Int} (h:l.length≤4000000000):ZDU l=some (Zoc l):=if_pos h
theorem ZJf {l:List Int} {k:Nat} (h:k+1<l.length):((l.set (k+1) (l.getD k 0)).set k (l.getD (k+1) 0)).Perm l:=by
 have:=List.set_set_perm (i:=k+1) (j:=k) h (show k<l.length by omega)
 rw[Xab,Xab,Xac h,Xac (show k<l.length by omega)]
 exact this
theorem ZLk {l:List Int} (h:∀a b,a<b→b<l.length→l.getD a 0≤l.getD b 0):l.Pairwise (· ≤ ·):=by
 rw[Xa3]
 intro i j hi hj hij
 have:=h i j hij hj
 rwa [Xab,Xab,Xac hi,Xac hj]at this
theorem ZBY {l:List Int} (hn:l.length≤1000) {i:Nat} (hi:i<l.length) {o:List Int} (hp:o.Perm l) (hs:∀a b,a<b→b<i→o.getD a 0≤o.getD b 0) :
  ∃r:(Int×List Int)⊕List Int,loop (Zjl i) ((i:Int),o)=some r∧∃o':List Int,r=Sum.inl ((i:Int)+1,o')∧o'.Perm l∧∀a b,a<b→b<i+1→o'.getD a 0≤o'.getD b 0:=by
 refine Zis (fun s:Int×List Int=>∃k:Nat,s.1=k∧k≤i∧s.2.Perm l∧∀a b,a<b→b≤i→b≠k→s.2.getD a 0≤s.2.getD b 0) (fun s=>s.1.toNat) (fun r:(Int×List Int)⊕List Int=>∃o':List Int,r=Sum.inl ((i:Int)+1,o')∧o'.Perm l∧∀a b,a<b→b<i+1→o'.getD a 0≤o'.getD b 0) ?_ _ ⟨i,rfl,Nat.le_refl _,hp,fun a b h1 h2 h3=>hs a b h1 (by omega)⟩
 rintro⟨s,o⟩ ⟨k,hk1,hk,hp,hs⟩
 dsimp only at hk1 hp hs
 subst hk1
 have hl:=hp.length_eq
 unfold Zjl
 dsimp only
 cases k with
 |zero=>
  right
  rw[Zc (by omega),Zg (by omega) (by omega)]
  exact⟨_,rfl,o,rfl,hp,fun a b h1 h2=>hs a b h1 (by omega) (by omega)⟩
 |succ k=>
  rw[Zd (by omega),Zb ⟨by omega,by omega⟩,Zg (by omega) (by omega),Zb ⟨by omega,by omega⟩,show (((k+1:Nat):Int) - 1).toNat=k by omega,Xaa]
  by_cases q:o.getD (k+1) 0<o.getD k 0
  ·left
   rw[Zd q,Zb ⟨by omega,by omega⟩,Zg (by omega) (by omega),Zb ⟨by omega,by omega⟩,Zb ⟨by omega,by omega⟩,Zg (by omega) (by omega),Zb ⟨by omega,by rw[Xap];omega⟩,Zg (by omega) (by omega)]
   have hget:∀j,((o.set (k+1) (o.getD k 0)).set k (o.getD (k+1) 0)).getD j 0=if j=k then o.getD (k+1) 0 else if j=k+1 then o.getD k 0 else o.getD j 0:=fun j=>by
    by_cases e:j=k
    ·rw[if_pos e,e,Zcp (by rw[Xap];omega)]
    ·rw[if_neg e,ZU (by omega)]
     by_cases e2:j=k+1
     ·rw[if_pos e2,e2,Zcp (by omega)]
     ·rw[if_neg e2,ZU (by omega)]
   refine⟨_,rfl,⟨k,by omega,by omega,(ZJf (by omega)).trans hp,fun a b h1 h2 h3=>?_⟩,by dsimp only;omega⟩
   dsimp only
   rw[hget a,hget b,if_neg h3]
   by_cases eb:b=k+1
   ·rw[if_pos eb]
    by_cases ea:a=k
    ·rw[if_pos ea];omega
    ·rw[if_neg ea,if_neg (by omega)]
     exact hs a k (by omega) (by omega) (by omega)
   ·rw[if_neg eb]
    by_cases ea:a=k
    ·rw[if_pos ea]
     exact hs (k+1) b (by omega) h2 eb
    ·rw[if_neg ea]
     by_cases ea2:a=k+1
     ·rw[if_pos ea2]
      exact hs k b (by omega) h2 eb
     ·rw[if_neg ea2]
      exact hs a b h1 h2 eb
  ·right
   rw[Zc q,Zg (by omega) (by omega)]
   refine⟨_,rfl,o,rfl,hp,fun a b h1 h2=>?_⟩
   by_cases e:b=k+1
   ·subst e
    by_cases e2:a=k
    ·rw[e2];omega
    ·have:=hs a k (by omega) (by omega) (by omega)
     omega
   ·exact hs a b h1 (by omega) e
theorem Zzd {l:List Int} (hn:l.length≤1000):ZmK l=some (Zoc l):=by
 unfold ZmK
 rw[Zb (by simp only[Zp,Xak];omega),Xao]
 have:=Zis (f:=Zjk) (fun s:Int×List Int=>∃i:Nat,s.1=i∧i≤l.length∧s.2.Perm l∧∀a b,a<b→b<i→s.2.getD a 0≤s.2.getD b 0) (fun s=>l.length - s.1.toNat) (fun r=>r=Zoc l) ?_ ((0:Int),l) ⟨0,rfl,Nat.zero_le _,List.Perm.refl _,fun a b h1 h2=>by omega⟩
 ·obtain⟨r,e,h⟩:=this
  rw[e,h]
 rintro⟨s,o⟩ ⟨i,hi1,hi,hp,hs⟩
 dsimp only at hi1 hp hs
 subst hi1
 have hl:=hp.length_eq
 unfold Zjk
 dsimp only
 rcases Xah i l.length with q|q
 ·left
  obtain⟨r,e,o',e2,h3,h4⟩:=ZBY hn q hp hs
  rw[Zd (by omega),e,e2]
  exact⟨_,rfl,⟨i+1,by simp,by omega,h3,h4⟩,by dsimp only;omega⟩
 ·right
  rw[Zc (by omega)]
  refine⟨_,rfl,?_⟩
  exact ZDA (ZLk (fun a b h1 h2=>hs a b h1 (by omega))) (ZCF l) (hp.trans (ZlF l).symm)
theorem ZuU {m:Zt} {r:ZE} (hm:ZF m=true) (ho:Zdz m r) (k:Nat):(∀y∈ZfD m r k,1≤y∧y≤12)∧(ZfD m r k).length≤5:=by
 refine⟨fun y hy=>?_,?_⟩
 ·obtain⟨c,c1,c2,rfl⟩:=(ZEp hm ho).2 y hy
  have:=Zdy hm (Zsi ho c1).2 c2
  omega
 ·unfold ZfD
  rw[Xas]
  have:=Xby (fun c:Int=>decide ((k:Int)≤m.1.getD c.toNat 0)) r.2.1
  have:=Zgw hm ho
  omega
def ZiS (m:Zt) (r:ZE) (k:Nat):ZD:=if 1<(ZfD m r k).length then[ZmD (Zoc (ZfD m r k))]else[]
theorem ZEo {m:Zt} {r:ZE} (hm:ZF m=true) (ho:Zdz m r) (k:Nat):(∀x∈Zoc (ZfD m r k),-1000≤x∧x≤1000)∧(Zoc (ZfD m r k)).length≤1000:=by
 obtain⟨h1,h2⟩:=ZuU hm ho k
 refine⟨fun x hx=>?_,?_⟩
 ·have:=h1 x ((ZlF _).mem_iff.1 hx)
  omega
 ·rw[(ZlF _).length_eq];omega
theorem ZuT (m:Zt) (r:ZE) (k:Nat):(List.range (k+1)).flatMap (ZiS m r)=(List.range k).flatMap (ZiS m r)++ZiS m r k:=by
 rw[Xbv,List.flatMap_append,List.flatMap_cons,XbJ,Xar]
theorem Zs9 (m:Zt) (r:ZE):∀k,((List.range k).flatMap (ZiS m r)).length≤k
 |0=>Nat.le_refl _
 |k+1=>by
  have:=Zs9 m r k
  have h2:(ZiS m r k).length≤1:=by
   unfold ZiS
   split
   ·exact Nat.le_refl _
   ·exact Nat.zero_le _
  rw[ZuT,Xam]
  omega
theorem ZEG {m:Zt} {r:ZE} (hm:ZF m=true) (ho:Zdz m r) (k2:r.1=2):ZbD m r=some (ZxJ m r):=by
 have h5:=Zgw hm ho
 unfold ZbD
 rw[Zs (by omega),Zu k2]
 refine ZH (fun s:Int×ZD=>∃k:Nat,s.1=k∧k≤4∧s.2=(List.range k).flatMap (ZiS m r)) (fun s=>4 - s.1.toNat) (fun _=>ZxJ m r) ?_ _ ⟨0,rfl,by omega,rfl⟩
 rintro⟨s,out⟩ ⟨k,hk1,hk,hout⟩
 dsimp only at hk1 hout
 subst hk1
 have hol:out.length≤k:=by rw[hout];exact Zs9 m r k
 unfold Zgc
 dsimp only
 rcases Xah k 4 with q|q
 ·left
  have hin:=ZuU hm ho k
  obtain⟨d1,d2⟩:=ZEo hm ho k
  have hj:Zc5 k out (ZfD m r k)=some (Sum.inl ((k:Int)+1,(List.range (k+1)).flatMap (ZiS m r))):=by
   unfold Zc5
   rw[ZuT,←hout]
   unfold ZiS
   by_cases q2:1<(ZfD m r k).length
   ·rw[if_pos q2,Zd (by omega),ZKw (by omega),Ze,ZqG d2 d1,Ze,Zb (by simp only[Zp,Xal,Xak];omega),Zg (by omega) (by omega)]
   ·rw[if_neg q2,Zc (by omega),Zg (by omega) (by omega),Xar]
  have hl:loop (Zc7 m r k out) ((0:Int),[])=some (Sum.inl ((k:Int)+1,(List.range (k+1)).flatMap (ZiS m r)):(Int×ZD)⊕ZD):=by
   refine Zz0 r.2.1.length (fun i=>decide ((k:Int)≤m.1.getD (r.2.1.getD i 0).toNat 0)) (fun i=>Zcu m (r.2.1.getD i 0).toNat k) _ (fun i o hi ho2=>?_) ?_
   ·obtain⟨⟨a0,a1⟩,a2,a3,_⟩:=ZlE hm ho hi
    have eb:=Zhf hm a1 (k:=k) (by omega)
    rw[show (((r.2.1.getD i 0).toNat:Nat):Int)=r.2.1.getD i 0 by omega,show (1:Int)+k+Zbm m (r.2.1.getD i 0).toNat=Zcu m (r.2.1.getD i 0).toNat k from rfl]at eb
    unfold Zc7
    dsimp only
    rw[Zd (by omega),Zb ⟨by omega,by omega⟩,Xaa,Zb ⟨by omega,by omega⟩]
    by_cases q3:(k:Int)≤m.1.getD (r.2.1.getD i 0).toNat 0
    ·rw[Zd q3,eb,Ze,Zb (by simp only[Zp,Xal,Xak];omega),Zg (by omega) (by omega),Xae q3]
     rfl
    ·rw[Zc q3,Zg (by omega) (by omega),decide_eq_false q3]
     rfl
   ·have e:=ZGR r.2.1 0 (fun c=>decide ((k:Int)≤m.1.getD c.toNat 0)) (fun c=>Zcu m c.toNat k)
    rw[←e]
    unfold Zc7
    dsimp only
    rw[Zc (by omega)]
    show up (Zc5 k out (ZfD m r k))=_
    rw[hj]
    rfl
  rw[Zd (by omega),hl]
  exact⟨_,rfl,⟨k+1,by simp,by omega,rfl⟩,by (try dsimp only)<;>omega,rfl⟩
 ·right
  have:k=4:=by omega
  rw[Zc (by omega),hout,this]
  rfl
theorem ZFr {m:Zt} {r:ZE} (hm:ZF m=true) (ho:Zdz m r):Zjf m r=some (ZxJ m r):=by
 have h5:=Zgw hm ho
 unfold Zjf
 refine ZH (fun s:Int×ZD=>∃k:Nat,s.1=k∧k≤4∧s.2=(List.range k).flatMap (ZiS m r)) (fun s=>4 - s.1.toNat) (fun _=>ZxJ m r) ?_ _ ⟨0,rfl,by omega,rfl⟩
 rintro⟨s,out⟩ ⟨k,hk1,hk,hout⟩
 dsimp only at hk1 hout
 subst hk1
 have hol:out.length≤k:=by rw[hout];exact Zs9 m r k
 unfold Zka
 dsimp only
 rcases Xah k 4 with q|q
 ·left
  have hin:=ZuU hm ho k
  obtain⟨d1,d2⟩:=ZEo hm ho k
  have hj:Zei k out (ZfD m r k)=some (Sum.inl ((k:Int)+1,(List.range (k+1)).flatMap (ZiS m r))):=by
   unfold Zei
   rw[ZuT,←hout]
   unfold ZiS
   by_cases q2:1<(ZfD m r k).length
   ·rw[if_pos q2,Zd (by omega),Zzd (by omega),Ze,Zuw d2 d1,Ze,Zb (by simp only[Zp,Xal,Xak];omega),Zg (by omega) (by omega)]
   ·rw[if_neg q2,Zc (by omega),Zg (by omega) (by omega),Xar]
  have hl:loop (Zej m r k out) ((0:Int),[])=some (Sum.inl ((k:Int)+1,(List.range (k+1)).flatMap (ZiS m r)):(Int×ZD)⊕ZD):=by
   refine Zz0 r.2.1.length (fun i=>decide ((k:Int)≤m.1.getD (r.2.1.getD i 0).toNat 0)) (fun i=>Zcu m (r.2.1.getD i 0).toNat k) _ (fun i o hi ho2=>?_) ?_
   ·obtain⟨⟨a0,a1⟩,a2,a3,_⟩:=ZlE hm ho hi
    have eb:=ZjM hm a1 (k:=k) (by omega)
    rw[show (((r.2.1.getD i 0).toNat:Nat):Int)=r.2.1.getD i 0 by omega,show (1:Int)+k+Zbm m (r.2.1.getD i 0).toNat=Zcu m (r.2.1.getD i 0).toNat k from rfl]at eb
    unfold Zej
    dsimp only
    rw[Zd (by omega),Zb ⟨by omega,by omega⟩,Xaa,Zb ⟨by omega,by omega⟩]
    by_cases q3:(k:Int)≤m.1.getD (r.2.1.getD i 0).toNat 0
    ·rw[Zd q3,Zb ⟨by omega,by omega⟩,eb,Ze,Zb (by simp only[Zp,Xal,Xak];omega),Zg (by omega) (by omega),Xae q3]
     rfl
    ·rw[Zc q3,Zg (by omega) (by omega),decide_eq_false q3]
     rfl
   ·have e:=ZGR r.2.1 0 (fun c=>decide ((k:Int)≤m.1.getD c.toNat 0)) (fun c=>Zcu m c.toNat k)
    rw[←e]
    unfold Zej
    dsimp only
    rw[Zc (by omega)]
    show up (Zei k out (ZfD m r k))=_
    rw[hj]
    rfl
  rw[Zd (by omega),hl]
  exact⟨_,rfl,⟨k+1,by simp,by omega,rfl⟩,by (try dsimp only)<;>omega,rfl⟩
 ·right
  have:k=4:=by omega
  rw[Zc (by omega),hout,this]
  rfl
end Go.AE.Y
namespace Go.AE.Y
open Go Go.AE
set_option maxHeartbeats 400000
structure ZuI (m:Zt) (r:ZE) (vals:List Int) (i:Nat) (x:List Int):Prop where
 len:x.length=m.1.length
 dig:∀j,j<m.1.length→0≤x.getD j 0∧x.getD j 0≤m.1.getD j 0
 same:∀j,j<i→x.getD (r.2.1.getD j 0).toNat 0=vals.getD j 0
theorem ZCu {m:Zt} (hm:ZF m=true) (r:ZE) (vals:List Int):ZuI m r vals 0 (List.replicate m.1.length 0):=by
 have h:=Zs7 (Zrc hm)
 exact⟨h.1,fun j hj=>h.2 j (by rw[h.1];exact hj),fun j hj=>absurd hj (Nat.not_lt_zero _)⟩
theorem ZCt {m:Zt} {r:ZE} {vals x:List Int} (ho:Zdz m r) (hv:∀i,i<r.2.1.length→0≤vals.getD i 0∧vals.getD i 0≤m.1.getD (r.2.1.getD i 0).toNat 0) {i:Nat} (hi:i<r.2.1.length) (h:ZuI m r vals i x):ZuI m r vals (i+1) (x.set (r.2.1.getD i 0).toNat (vals.getD i 0)):=by
 have hc:=(ho.vars i hi).2
 refine⟨by rw[Xap];exact h.len,fun j hj=>?_,fun j hj=>?_⟩
 ·by_cases e:j=(r.2.1.getD i 0).toNat
  ·rw[e,Zcp (by rw[h.len];exact hc)]
   exact hv i hi
  ·rw[ZU (by omega)]
   exact h.dig j hj
 ·by_cases e:j=i
  ·rw[e,Zcp (by rw[h.len];exact hc)]
  ·rw[ZU (fun q=>e (ZFf ho (by omega) hi q.symm))]
   exact h.same j (by omega)
theorem ZCs {m:Zt} {r:ZE} {vals x:List Int} (hl:vals.length=r.2.1.length) (h:ZuI m r vals r.2.1.length x):ZR m x=true∧Zc0 r.2.1 x=vals:=by
 refine⟨?_,ZwM (by unfold Zc0;rw[Xas,hl]) (fun i hi=>?_)⟩
 ·unfold ZR cellAt
  simp only[Xaf,Xai,Xan,XaF]
  exact⟨h.len,fun i hi=>h.dig i (by have:=h.len;omega)⟩
 ·have hi':i<r.2.1.length:=by unfold Zc0 at hi;rwa [Xas]at hi
  rw[ZKs hi']
  exact h.same i hi'
theorem ZGV {m:Zt} {r:ZE} {vals:List Int} (hm:ZF m=true) (ho:Zdz m r) (hv:∀i,i<r.2.1.length→0≤vals.getD i 0∧vals.getD i 0≤m.1.getD (r.2.1.getD i 0).toNat 0):∀i,i≤r.2.1.length→∃x,ZuI m r vals i x
 |0,_=>⟨_,ZCu hm r vals⟩
 |i+1,hi=>by
  obtain⟨x,hx⟩:=ZGV hm ho hv i (by omega)
  exact⟨_,ZCt ho hv (by omega) hx⟩
theorem Ztk (m:Zt) (r:ZE) (vals:List Int):(ZlC m r vals).length=r.2.1.length:=by
 unfold ZlC
 rw[Xas,XaK]
def ZzK (m:Zt) (r:ZE) (l:List (List Int)):ZD:=(l.filter (fun vals=>!holdsB r vals)).map (fun vals=>Zmz (ZlC m r vals))
def ZfS (m:Zt) (r:ZE) (vals:List Int):ZD:=bif holdsB r vals then[]else[Zmz (ZlC m r vals)]
theorem ZqV (m:Zt) (r:ZE) (v:List Int) (l:List (List Int)):ZzK m r (v::l)=ZfS m r v++ZzK m r l:=by
 unfold ZzK ZfS
 cases h:holdsB r v with
 |true=>rw[Xbb (by rw[h];decide),ctt,Xao]
 |false=>rw[Xbc (by rw[h];rfl),cff];rfl
theorem ZyO {m:Zt} {r:ZE} (hm:ZF m=true) (hs:ZcG r) (hr:r∈m.2) {vals:List Int} (hv:ZR (smM m r) vals=true) {out:ZD} (hout:out.length≤100000) :
  ZcY r m vals out=some (true,out++ZfS m r vals):=by
 have ho:=Zrl hm hr
 have h5:=Zgw hm ho
 obtain⟨l1,l2⟩:=ZyX hm ho hv
 have hvl:vals.length=r.2.1.length:=by
  have:=(Zs7 hv).1
  unfold smM at this
  rwa [Xas]at this
 obtain⟨x,hx⟩:=ZGV hm ho l2 r.2.1.length (Nat.le_refl _)
 obtain⟨x1,x2⟩:=ZCs hvl hx
 have hrb:=Zq6 hm r hr
 have hok:=Zy5 hm hs x1 hrb
 rw[x2]at hok
 unfold ZcY ZfS
 rw[ZpS hs (Zvl hrb).2.2 hok,Ze]
 cases holdsB r vals with
 |true=>rw[cnt,ctt,Xar]
 |false=>
  rw[cnf,cff]
  have hfin:ZbR out (ZlC m r vals)=some (true,out++[Zmz (ZlC m r vals)]):=by
   unfold ZbR
   rw[ZrR _ (by rw[Ztk];omega),Ze,Zs8 l1 (by rw[Ztk];omega),Zb (by simp only[Zp,Xal,Xak];omega)]
  have:=ZbW (f:=ZbS r m vals out) (List.range r.2.1.length) 0 (fun i=>0 - Zcu m (r.2.1.getD i 0).toNat (vals.getD i 0).toNat) [] (fun _=>(true,out++[Zmz (ZlC m r vals)])) (fun i o hi ho2=>?_) ?_
  ·exact this
  ·rw[XaK]at hi
   have ho2:o.length=i:=by rw[ho2];simp
   obtain⟨⟨a0,a1⟩,a2,a3,_⟩:=ZlE hm ho hi
   have hvi:=l2 i hi
   have eb:=Zhf hm a1 (k:=(vals.getD i 0).toNat) (by omega)
   rw[show (((r.2.1.getD i 0).toNat:Nat):Int)=r.2.1.getD i 0 by omega,show (1:Int)+((vals.getD i 0).toNat:Nat)+Zbm m (r.2.1.getD i 0).toNat=Zcu m (r.2.1.getD i 0).toNat (vals.getD i 0).toNat from rfl,show (((vals.getD i 0).toNat:Nat):Int)=vals.getD i 0 by omega]at eb
   have rm:=Zdy hm a1 (k:=(vals.getD i 0).toNat) (by omega)
   unfold ZbS
   dsimp only
   rw[Zd (by omega),Zb ⟨by omega,by omega⟩,Zb ⟨by omega,by omega⟩,Xaa,eb,Ze,Zg (by omega) (by omega),Zb (by simp only[Zp,Xal,Xak];omega),Zg (by omega) (by omega),Zvj hi]
  ·rw[XaK,Xao]
   unfold ZbS
   dsimp only
   rw[Zc (by omega)]
   show up (ZbR out (ZlC m r vals))=_
   rw[hfin]
   rfl
theorem ZG7 (m:Zt) (r:ZE):(smM m r).1.length=r.2.1.length:=Xas ..
theorem ZEH {m:Zt} {r:ZE} (hm:ZF m=true) (hs:ZcG r) (hr:r∈m.2) (h1:r.1≠1) (h2:r.1≠2):ZbD m r=some (ZqU m r):=by
 have ho:=Zrl hm hr
 have h5:=Zgw hm ho
 have hsm:=ZFl hm ho
 have hz:ZR (smM m r) (Zoo (smM m r))=true:=Zrc hsm
 have hlen:=ZG7 m r
 have hfin:Zc6 m r (smM m r).1=some (ZqU m r):=by
  unfold Zc6
  rw[Zb ⟨by omega,by simp only[Zp];omega,rfl⟩,Xaa]
  have key:ZbP (smM m r).1 (List.replicate (smM m r).1.length 0) r m=some (ZqU m r):=by
   unfold ZbP
   rw[ZIs (by rw[XaC];omega),Ze]
   refine(ZH (f:=Zby (smM m r).1 r m) (fun s:List Int×ZD=>ZR (smM m r) s.1=true∧s.2.length+muF s.1≤2000) (fun s=>muF s.1) (fun s=>s.2++ZzK m r (ZtE (smM m r) s.1)) ?_ _ ⟨hz,by unfold muF;simp;omega⟩).trans (by rw[Xao];rfl)
   rintro⟨x,out⟩ ⟨hx,hb⟩
   dsimp only at hx hb ⊢
   obtain⟨x1,x2⟩:=ZeJ hx
   have hp:=(Zr1 hsm hx).1
   have hst:(ZfS m r x).length≤1:=by
    unfold ZfS
    cases holdsB r x with
    |true=>exact Nat.zero_le _
    |false=>exact Nat.le_refl _
   unfold Zby
   dsimp only
   rw[ZyO hm hs hr hx (by omega),Ze,ctt,Zg (by omega) (by omega),ZKp (X:=(List Int×ZD)⊕ZD) hsm hx (fun y=>.inl (y,out++ZfS m r x)) (.inr (out++ZfS m r x)) (f:=Zcf (smM m r).1 (true,out++ZfS m r x)) (g:=Zbx (true,out++ZfS m r x)) (fun i y=>rfl) (fun i y=>rfl),ZyI hsm hx]
   cases hq:(Zbz (smM m r) x).1 with
   |true=>
    left
    have hmu:=Zuo hsm hx hq
    refine⟨_,rfl,⟨Znj hx,by dsimp only;rw[Xam];omega⟩,hmu,?_⟩
    dsimp only
    rw[ctt,ZqV,XaH]
   |false=>
    right
    rw[cff,cff,ZqV]
    show some (Sum.inr (out++ZfS m r x))=some (Sum.inr (out++(ZfS m r x++[])))
    rw[Xar]
  rw[key,Ze]
 unfold ZbD
 rw[Zs h1,Zs h2]
 have:=ZbW (f:=Zc8 m r) r.2.1 0 (fun c=>m.1.getD c.toNat 0) [] (fun _=>ZqU m r) (fun i o hi ho2=>?_) ?_
 ·exact this
 ·have ho2:o.length=i:=by rw[ho2];simp
  have hv:=ho.vars i hi
  unfold Zc8
  dsimp only
  rw[Zd (by omega),Zb ⟨by omega,by omega⟩,Xaa,Zb ⟨by omega,by omega⟩,Zb (by simp only[Zp,Xal,Xak];omega),Zg (by omega) (by omega)]
 ·rw[Xao]
  unfold Zc8
  dsimp only
  rw[Zc (by omega)]
  show up (Zc6 m r (smM m r).1)=_
  rw[hfin]
  rfl
theorem ZFs {m:Zt} {r:ZE} (hm:ZF m=true) (hs:ZcG r) (hr:r∈m.2):ZmI m r=some (ZqU m r):=by
 have ho:=Zrl hm hr
 have h5:=Zgw hm ho
 have hsm:=ZFl hm ho
 have hz:ZR (smM m r) (Zoo (smM m r))=true:=Zrc hsm
 have hlen:=ZG7 m r
 have hrb:=Zq6 hm r hr
 obtain⟨m1,m2,m3⟩:=Zfi hm
 have hsame:(((smM m r).1,[]):Zt)=smM m r:=rfl
 have hfin:Zgs m r (smM m r).1=some (ZqU m r):=by
  unfold Zgs
  rw[Zb ⟨by omega,by simp only[Zp];omega,rfl⟩,Xaa]
  refine(ZH (f:=Zjg m r (smM m r).1) (fun s:Bool×ZD×List Int=>ZR (smM m r) s.2.2=true∧(s.1=true→s.2.1.length+muF s.2.2≤2000)) (fun s=>bif s.1 then 1+muF s.2.2 else 0) (fun s=>s.2.1++bif s.1 then ZzK m r (ZtE (smM m r) s.2.2)else[]) ?_ (true,[],List.replicate r.2.1.length 0) ⟨by rw[←hlen];exact hz,fun _=>by unfold muF;simp;omega⟩).trans (by rw[←hlen];rfl)
  rintro⟨go,out,x⟩ ⟨hx,hb⟩
  dsimp only at hx hb ⊢
  obtain⟨x1,x2⟩:=ZeJ hx
  have hvl:x.length=r.2.1.length:=by omega
  have hp:=(Zr1 hsm hx).1
  obtain⟨l1,l2⟩:=ZyX hm ho hx
  unfold Zjg
  dsimp only
  cases go with
  |false=>
   right
   rw[cff,cff,Xar]
  |true=>
   left
   have hb:=hb rfl
   have hnx:Zms (smM m r) x=some (Zbz (smM m r) x):=ZBS hsm hx
   have hj3:∀o:ZD,Zgu (smM m r).1 x o=some (Sum.inl ((Zbz (smM m r) x).1,o,(Zbz (smM m r) x).2)):=fun o=>by
    unfold Zgu
    rw[hsame,hnx,Ze]
   have hj2:∀y,ZuI m r x r.2.1.length y→Zgt r (smM m r).1 out x (y,ZlC m r x)=some (Sum.inl ((Zbz (smM m r) x).1,out++ZfS m r x,(Zbz (smM m r) x).2)):=fun y hy=>by
    obtain⟨y1,y2⟩:=ZCs hvl hy
    unfold Zgt ZfS
    dsimp only
    rw[Ztq hm hs y1 hrb,Ze,y2]
    cases holdsB r x with
    |true=>rw[cnt,ctt,Xar,hj3]
    |false=>rw[cnf,cff,Zsf _ (by rw[Ztk];omega),Ze,Zs8 l1 (by rw[Ztk];omega),Zb (by simp only[Zp,Xal,Xak];omega),hj3]
   have hl:loop (Zjh m r (smM m r).1 out x) ((0:Int),List.replicate m.1.length 0,[])=some (Sum.inl ((Zbz (smM m r) x).1,out++ZfS m r x,(Zbz (smM m r) x).2):(Bool×ZD×List Int)⊕ZD):=by
    refine ZH (fun s:Int×List Int×List Int=>∃i:Nat,s.1=i∧i≤r.2.1.length∧ZuI m r x i s.2.1∧s.2.2=(List.range i).map (fun i=>0 - Zcu m (r.2.1.getD i 0).toNat (x.getD i 0).toNat)) (fun s=>r.2.1.length - s.1.toNat) (fun _=>_) ?_ _ ⟨0,rfl,Nat.zero_le _,ZCu hm r x,rfl⟩
    rintro⟨s,y,lits⟩ ⟨i,hi1,hi,hy,hlits⟩
    dsimp only at hi1 hy hlits
    subst hi1
    have hll:lits.length=i:=by rw[hlits,Xas,XaK]
    unfold Zjh
    dsimp only
    rcases Xah i r.2.1.length with q|q
    ·left
     obtain⟨⟨a0,a1⟩,a2,a3,_⟩:=ZlE hm ho q
     have hvi:=l2 i q
     have hyl:=hy.len
     have eb:=ZjM hm a1 (k:=(x.getD i 0).toNat) (by omega)
     rw[show (((r.2.1.getD i 0).toNat:Nat):Int)=r.2.1.getD i 0 by omega,show (1:Int)+((x.getD i 0).toNat:Nat)+Zbm m (r.2.1.getD i 0).toNat=Zcu m (r.2.1.getD i 0).toNat (x.getD i 0).toNat from rfl,show (((x.getD i 0).toNat:Nat):Int)=x.getD i 0 by omega]at eb
     have rm:=Zdy hm a1 (k:=(x.getD i 0).toNat) (by omega)
     rw[Zd (by omega),Zb ⟨by omega,by omega⟩,Zb ⟨by omega,by omega⟩,Xaa,Zb ⟨by omega,by omega⟩]
     unfold Zm7
     rw[Zb ⟨by omega,by omega⟩,Zb ⟨by omega,by omega⟩,Xaa,eb,Ze,Zg (by omega) (by omega),Zb (by simp only[Zp,Xal,Xak];omega),Zg (by omega) (by omega)]
     refine⟨_,rfl,⟨i+1,by simp,by omega,ZCt ho l2 q hy,?_⟩,by (try dsimp only)<;>omega,rfl⟩
     dsimp only
     rw[hlits,Xbv,Xa9]
     rfl
    ·right
     have:i=r.2.1.length:=by omega
     subst this
     rw[Zc (by omega),hlits]
     show up (Zgt r (smM m r).1 out x (y,ZlC m r x))=_
     rw[hj2 y hy]
     rfl
   rw[ctt,Zb ⟨by omega,by simp only[Zp];omega,rfl⟩,Xaa,hl]
   have hst:(ZfS m r x).length≤1:=by
    unfold ZfS
    cases holdsB r x with
    |true=>exact Nat.zero_le _
    |false=>exact Nat.le_refl _
   have has:=ZyI hsm hx
   cases hq:(Zbz (smM m r) x).1 with
   |true=>
    have hmu:=Zuo hsm hx hq
    rw[hq,ctt]at has
    refine⟨_,rfl,⟨Znj hx,fun _=>by dsimp only;rw[Xam];omega⟩,by show 1+muF (Zbz (smM m r) x).2<1+muF x;omega,?_⟩
    dsimp only
    rw[ctt,ctt,has,ZqV,XaH]
   |false=>
    rw[hq,cff]at has
    refine⟨_,rfl,⟨Znj hx,fun h=>by cases h⟩,by show 0<1+muF x;omega,?_⟩
    dsimp only
    rw[cff,ctt,has,ZqV,Xar]
    show out++ZfS m r x=out++(ZfS m r x++[])
    rw[Xar]
 unfold ZmI
 have:=ZbW (f:=Zgv m r) r.2.1 0 (fun c=>m.1.getD c.toNat 0) [] (fun _=>ZqU m r) (fun i o hi ho2=>?_) ?_
 ·exact this
 ·have ho2:o.length=i:=by rw[ho2];simp
  have hv:=ho.vars i hi
  unfold Zgv
  dsimp only
  rw[Zd (by omega),Zb ⟨by omega,by omega⟩,Xaa,Zb ⟨by omega,by omega⟩,Zb (by simp only[Zp,Xal,Xak];omega),Zg (by omega) (by omega)]
 ·rw[Xao]
  unfold Zgv
  dsimp only
  rw[Zc (by omega)]
  show up (Zgs m r (smM m r).1)=_
  rw[hfin]
  rfl
end Go.AE.Y
namespace Go.AE.Y
open Go Go.AE
set_option maxHeartbeats 400000
theorem ZG6 {m:Zt}:∀n x,(ZoX m n x).length≤n+1
 |0,_=>Nat.le_refl _
 |n+1,x=>by
  show (x::bif (Zbz m x).1 then ZoX m n (Zbz m x).2 else[]).length≤n+1+1
  rw[Xal]
  cases (Zbz m x).1 with
  |true=>have:=ZG6 (m:=m) n (Zbz m x).2;rw[ctt];omega
  |false=>rw[cff];exact Nat.succ_le_succ (Nat.zero_le _)
theorem Zxm {m:Zt} {r:ZE}:(Zpe m r).length≤1025:=by
 unfold Zpe
 split
 ·simp
 ·split
  ·have:=Zs9 m r 4
   have e:ZxJ m r=(List.range 4).flatMap (ZiS m r):=rfl
   rw[e]
   omega
  ·unfold ZqU
   rw[Xas]
   have:=Xby (fun vals=>!holdsB r vals) (ZtE (smM m r) (Zoo (smM m r)))
   have:=ZG6 (m:=smM m r) 1024 (Zoo (smM m r))
   unfold ZtE at *
   omega
theorem ZEL {m:Zt} {r:ZE} (hm:ZF m=true) (hs:ZcG r) (hr:r∈m.2):ZbD m r=some (Zpe m r):=by
 have ho:=Zrl hm hr
 unfold Zpe
 by_cases k1:r.1=1
 ·rw[if_pos k1];exact ZGh hm ho k1
 ·rw[if_neg k1]
  by_cases k2:r.1=2
  ·rw[if_pos k2];exact ZEG hm ho k2
  ·rw[if_neg k2];exact ZEH hm hs hr k1 k2
theorem ZFv {m:Zt} {r:ZE} (hm:ZF m=true) (hs:ZcG r) (hr:r∈m.2):Zpl m r=some (Zpe m r):=by
 have ho:=Zrl hm hr
 unfold Zpe Zpl
 by_cases k1:r.1=1
 ·rw[if_pos k1,Zu k1,ZGF hm ho k1,Ze]
 ·rw[if_neg k1,Zs k1]
  by_cases k2:r.1=2
  ·rw[if_pos k2,Zu k2,ZFr hm ho,Ze]
  ·rw[if_neg k2,Zs k2,ZFs hm hs hr,Ze]
def Zmo (m:Zt) (n:Nat):ZD:=(List.range n).flatMap (Zo1 m)
def Zla (m:Zt) (n:Nat):ZD:=Zmo m m.1.length++(m.2.take n).flatMap (Zpe m)
theorem ZtH (m:Zt) (n:Nat):Zmo m (n+1)=Zmo m n++Zo1 m n:=by
 unfold Zmo
 rw[Xbv,List.flatMap_append,List.flatMap_cons,XbJ,Xar]
theorem ZqQ (m:Zt):∀n,(Zmo m n).length=2*n
 |0=>rfl
 |n+1=>by
  rw[ZtH,Xam,ZqQ m n]
  show 2*n+2=_
  omega
theorem ZtU {m:Zt} {n:Nat} (h:n<m.2.length):Zla m (n+1)=Zla m n++Zpe m (m.2.getD n (0,[],[],0,[])):=by
 unfold Zla
 rw[ZIk (0,[],[],0,[]) h,List.flatMap_append,List.flatMap_cons,XbJ,Xar,XaH]
theorem Zvm {m:Zt}:∀n,n≤m.2.length→(Zla m n).length≤2*m.1.length+1025*n
 |0,_=>by
  unfold Zla
  rw[XaQ,XbJ,Xar,ZqQ]
  omega
 |n+1,h=>by
  have:=Zvm (m:=m) n (by omega)
  have:=Zxm (m:=m) (r:=m.2.getD n (0,[],[],0,[]))
  rw[ZtU (by omega),Xam]
  omega
theorem ZzH (m:Zt):Zdq m=Zla m m.2.length:=by
 unfold Zdq Zla Zmo
 rw[Xav]
theorem Zv5 (m:Zt) (h:Zds m):ZiW m=some (ZBe m):=by
 unfold ZiW ZBe
 rw[Zk1 m h,Ze]
 cases hm:ZF m with
 |false=>rw[cnf,Xad,cff]
 |true=>
  obtain⟨m1,m2,m3⟩:=Zfi hm
  rw[cnt,Xag]
  have h2:Zgz (Zdq m)=some (bif decide ((Zdq m).length≤400)then(true,Zdq m)else(false,[])):=by
   unfold Zgz
   by_cases q:(Zdq m).length≤400
   ·rw[Zc (by omega),Xae q,ctt]
   ·rw[Zd (by omega),decide_eq_false q,cff]
  have h1:Zgy m (Zmo m m.1.length)=some (bif decide ((Zdq m).length≤400)then(true,Zdq m)else(false,[])):=by
   unfold Zgy
   refine ZH (f:=ZgA m) (fun s:Int×ZD=>∃i:Nat,s.1=i∧i≤m.2.length∧s.2=Zla m i) (fun s=>m.2.length - s.1.toNat) (fun _=>_) ?_ _ ⟨0,rfl,Nat.zero_le _,by unfold Zla;rw[XaQ,XbJ,Xar]⟩
   rintro⟨s,out⟩ ⟨i,hi1,hi,ho⟩
   dsimp only at hi1 ho
   subst hi1
   unfold ZgA
   dsimp only
   rcases Xah i m.2.length with q|q
   ·left
    have hr:=ZB (l:=m.2) (i:=i) (d:=(0,[],[],0,[])) q
    have hl:=Zvm (m:=m) i hi
    have hl2:=Zxm (m:=m) (r:=m.2.getD i (0,[],[],0,[]))
    rw[Zd (by omega),Zb ⟨by omega,by omega⟩,Xaa,ZEL hm (h.2.2 _ hr) hr,Ze,Zb (by rw[ho];simp only[Zp];omega),Zg (by omega) (by omega)]
    exact⟨_,rfl,⟨i+1,by simp,by omega,by dsimp only;rw[ho,ZtU q]⟩,by (try dsimp only)<;>omega,rfl⟩
   ·right
    have:i=m.2.length:=by omega
    rw[Zc (by omega),ho,this,←ZzH,h2]
    rfl
  refine ZH (f:=ZgB m) (fun s:Int×ZD=>∃i:Nat,s.1=i∧i≤m.1.length∧s.2=Zmo m i) (fun s=>m.1.length - s.1.toNat) (fun _=>_) ?_ _ ⟨0,rfl,Nat.zero_le _,rfl⟩
  rintro⟨s,out⟩ ⟨i,hi1,hi,ho⟩
  dsimp only at hi1 ho
  subst hi1
  unfold ZgB
  dsimp only
  rcases Xah i m.1.length with q|q
  ·left
   obtain⟨v1,_,_,_,v5⟩:=Zzm hm q
   have hin:=Zzl hm q
   have hl:=ZqQ m i
   rw[Zd (by omega),ZBj hm q,Ze,ZrR _ (by omega),Ze,Zs8 v1 (by omega),ZqG (by omega) (fun x hx=>by have:=hin x hx;omega),Ze,Zb (by rw[ho];simp only[Zp,Xal,Xak];omega),Zg (by omega) (by omega)]
   refine⟨_,rfl,⟨i+1,by simp,by omega,?_⟩,by (try dsimp only)<;>omega,rfl⟩
   dsimp only
   rw[ho,ZtH]
   unfold Zo1
   generalize Zmz (ZeC m i)=a
   generalize ZmD (ZeC m i)=b
   rfl
  ·right
   have:i=m.1.length:=by omega
   rw[Zc (by omega),ho,this,h1]
   rfl
theorem Zwm (m:Zt) (h:Zds m):Zi9 m=some (ZBe m):=by
 unfold Zi9 ZBe
 rw[Zlc m h,Ze]
 cases hm:ZF m with
 |false=>rw[cnf,Xad,cff]
 |true=>
  obtain⟨m1,m2,m3⟩:=Zfi hm
  rw[cnt,Xag]
  have h2:ZgG (Zdq m)=some (bif decide ((Zdq m).length≤400)then(true,Zdq m)else(false,[])):=by
   unfold ZgG
   by_cases q:(Zdq m).length≤400
   ·rw[Zc (by omega),Xae q,ctt]
   ·rw[Zd (by omega),decide_eq_false q,cff]
  have h1:ZgF m (Zmo m m.1.length)=some (bif decide ((Zdq m).length≤400)then(true,Zdq m)else(false,[])):=by
   unfold ZgF
   refine ZH (f:=ZgH m) (fun s:Int×ZD=>∃i:Nat,s.1=i∧i≤m.2.length∧s.2=Zla m i) (fun s=>m.2.length - s.1.toNat) (fun _=>_) ?_ _ ⟨0,rfl,Nat.zero_le _,by unfold Zla;rw[XaQ,XbJ,Xar]⟩
   rintro⟨s,out⟩ ⟨i,hi1,hi,ho⟩
   dsimp only at hi1 ho
   subst hi1
   unfold ZgH
   dsimp only
   rcases Xah i m.2.length with q|q
   ·left
    have hr:=ZB (l:=m.2) (i:=i) (d:=(0,[],[],0,[])) q
    have hl:=Zvm (m:=m) i hi
    have hl2:=Zxm (m:=m) (r:=m.2.getD i (0,[],[],0,[]))
    rw[Zd (by omega),Zb ⟨by omega,by omega⟩,Xaa,ZFv hm (h.2.2 _ hr) hr,Ze,Zb (by rw[ho];simp only[Zp];omega),Zg (by omega) (by omega)]
    exact⟨_,rfl,⟨i+1,by simp,by omega,by dsimp only;rw[ho,ZtU q]⟩,by (try dsimp only)<;>omega,rfl⟩
   ·right
    have:i=m.2.length:=by omega
    rw[Zc (by omega),ho,this,←ZzH,h2]
    rfl
  refine ZH (f:=ZgI m) (fun s:Int×ZD=>∃i:Nat,s.1=i∧i≤m.1.length∧s.2=Zmo m i) (fun s=>m.1.length - s.1.toNat) (fun _=>_) ?_ _ ⟨0,rfl,Nat.zero_le _,rfl⟩
  rintro⟨s,out⟩ ⟨i,hi1,hi,ho⟩
  dsimp only at hi1 ho
  subst hi1
  unfold ZgI
  dsimp only
  rcases Xah i m.1.length with q|q
  ·left
   have hl:=ZqQ m i
   have hc:(Zo1 m i).length=2:=rfl
   rw[Zd (by omega),ZBW hm q,Ze,Zb (by rw[ho];simp only[Zp];omega),Zg (by omega) (by omega)]
   exact⟨_,rfl,⟨i+1,by simp,by omega,by dsimp only;rw[ho,ZtH]⟩,by (try dsimp only)<;>omega,rfl⟩
  ·right
   have:i=m.1.length:=by omega
   rw[Zc (by omega),ho,this,h1]
   rfl
end Go.AE.Y
namespace Go.AE.Y
open Go Go.AE
set_option maxHeartbeats 400000
theorem ZEl {l:List Int} (h:ZcF l=true):Zw (Zmz l)=true∧(Zmz l).1.length≤12:=by
 refine⟨ZIy (fun x hx=>(Zi0 h).1 x ((ZCz h x).1 hx)) (ZCx h),?_⟩
 show (Zi2 (ZfL l)).length≤12
 unfold Zi2
 rw[Xas]
 exact ZCy l
theorem ZEm {vs:List Int} (h1:∀x∈vs,1≤x∧x≤12) (h2:vs.Pairwise (· < ·)) (h3:1≤vs.length) (h4:vs.length≤12):Zw (ZmD vs)=true∧(ZmD vs).1.length≤12:=by
 have hm:∀t∈(ZmD vs).1,∃x∈vs,t=(1,0 - x):=fun t ht=>by
  have ht:t∈Zi2 (Zxa vs):=ht
  rw[←Zz7]at ht
  obtain⟨x,hx,e⟩:=XaL.1 ht
  exact⟨x,hx,e.symm⟩
 refine⟨Zf7.2 ⟨fun t ht=>?_,?_,?_,?_⟩,?_⟩
 ·obtain⟨x,hx,rfl⟩:=hm t ht
  have:=h1 x hx
  exact⟨ZP.2 (by (try dsimp only)<;>omega),by (try dsimp only)<;>omega,by (try dsimp only)<;>omega⟩
 ·show (Zi2 (Zxa vs)).Pairwise _
  rw[←Zz7,List.pairwise_map]
  refine h2.imp_of_mem (fun {a b} ha hb hab=>?_)
  have:=h1 a ha
  have:=h1 b hb
  unfold vof
  dsimp only
  omega
 ·show 0≤(vs.length:Int) - 1
  omega
 ·show (vs.length:Int) - 1≤20000
  omega
 ·show (Zi2 (Zxa vs)).length≤12
  rw[←Zz7,Xas]
  exact h4
theorem ZJq (m:Zt) (i:Nat):(ZeC m i).Pairwise (· < ·):=by
 unfold ZeC
 rw[List.pairwise_map]
 refine List.pairwise_lt_range.imp (fun h=>?_)
 unfold Zcu
 omega
theorem ZKx {l:List Int} (h:l.Nodup):(Zoc l).Pairwise (· < ·):=by
 have h1:=ZCF l
 have h2:(Zoc l).Nodup:=(ZlF l).nodup_iff.2 h
 exact(h1.and h2).imp (fun h=>by have:=h.1;have:=h.2;omega)
theorem ZKV {m:Zt} (hm:ZF m=true):∀c∈Zdq m,Zw c=true∧c.1.length≤12:=fun c hc=>by
 unfold Zdq at hc
 rcases List.mem_append.1 hc with q|q
 ·obtain⟨i,hi,hc⟩:=Xa0.1 q
  have hi:=XaF.1 hi
  obtain⟨v1,_,_,v4,v5⟩:=Zzm hm hi
  unfold Zo1 at hc
  rcases Xaz.1 hc with e|e
  ·rw[e];exact ZEl v1
  ·rw[Xaj.1 e]
   exact ZEm (Zzl hm hi) (ZJq m i) v4 (by omega)
 ·obtain⟨r,hr,hc⟩:=Xa0.1 q
  have ho:=Zrl hm hr
  unfold Zpe at hc
  by_cases k1:r.1=1
  ·rw[if_pos k1,Xaj]at hc
   rw[hc]
   obtain⟨e,h⟩:=Zy0 (ZKl hm ho k1)
   refine⟨h,?_⟩
   unfold ZtR
   rw[e]
   exact Zm3 _ 12
  ·rw[if_neg k1]at hc
   by_cases k2:r.1=2
   ·rw[if_pos k2]at hc
    obtain⟨k,hk,hc⟩:=Xa0.1 hc
    have hin:=ZuU hm ho k
    have hnd:=(ZEp hm ho (k:=k)).1
    by_cases q2:1<(ZfD m r k).length
    ·rw[if_pos q2,Xaj]at hc
     rw[hc]
     have hl:=(ZlF (ZfD m r k)).length_eq
     exact ZEm (fun x hx=>hin.1 x ((ZlF _).mem_iff.1 hx)) (ZKx hnd) (by omega) (by omega)
    ·rw[if_neg q2]at hc
     exact absurd hc XaJ
   ·rw[if_neg k2]at hc
    obtain⟨vals,hv,rfl⟩:=XaL.1 hc
    have hcell:=(ZK3 (ZFl hm ho)).1 (XaZ.1 hv).1
    exact ZEl (ZyX hm ho hcell).1
def obC (m:Zt) (c:List Int) (most:Int):ZZ:=(ZbH (ZdW m c m.1.length) 12,max 0 (ZW (ZdW m c m.1.length) (0 - most) 12))
theorem ZE1 {m:Zt} {c:List Int} {most:Int} (hm:ZF m=true) (hc:Zm0 m c=true) (hb : -1000≤most∧most≤1000):Zrd m c most=(true,(obC m c most).2,(obC m c most).1)∧Zw (obC m c most)=true∧(obC m c most).1.length≤12:=by
 obtain⟨c1,c2⟩:=Zz4 hc
 have hn:∀j,-1000≤(ZdW m c m.1.length).getD j 0∧(ZdW m c m.1.length).getD j 0≤1000:=fun j=>by
  have:=Zve hm c2 m.1.length (Nat.le_refl _) j
  omega
 obtain⟨p1,p2⟩:=Zy6 (net:=ZdW m c m.1.length) 12 (Nat.le_refl _) hn
 have hneg:=Zmr (net:=ZdW m c m.1.length) (b:=0 - most) (K:=1000) (by omega) (fun j=>by have:=hn j;omega) 12
 have hcon:Zw (ZbH (ZdW m c m.1.length) 12,max 0 (ZW (ZdW m c m.1.length) (0 - most) 12))=true:=Zf7.2 ⟨fun t ht=>(p1 t ht).1,p2,by (try dsimp only)<;>omega,by (try dsimp only)<;>omega⟩
 refine⟨?_,hcon,Zm3 _ 12⟩
 unfold Zrd
 rw[hm,hc,Xae hb.1,Xae hb.2,Bool.and_self,Bool.and_self,ctt]
 unfold ZbX
 rw[hcon,ctt]
 rfl
theorem Zxz {m:Zt} {c x:List Int} (hm:ZF m=true) (hc:Zm0 m c=true) (hx:ZR m x=true):(∀i,i<x.length → -27≤c.getD i 0*x.getD i 0∧c.getD i 0*x.getD i 0≤27)∧c.length=x.length∧x.length≤5∧1≤x.length∧∀n:Nat,n≤x.length → -27*(n:Int)≤Zct c x n∧Zct c x n≤27*n:=by
 obtain⟨c1,c2⟩:=Zz4 hc
 obtain⟨x1,x2⟩:=Zs7 hx
 obtain⟨m1,m2,_⟩:=Zfi hm
 have hb:∀i,i<x.length → -27≤c.getD i 0*x.getD i 0∧c.getD i 0*x.getD i 0≤27:=fun i hi=>by
  have h1:=x2 i hi
  have h2:=ZoY hm (i:=i) (by omega)
  have h3:=ZxU hm (i:=i) (by omega)
  exact Zz2 (c2 i) ⟨h1.1,by omega⟩
 refine⟨hb,by omega,by omega,by omega,fun n=>?_⟩
 induction n with
 |zero=>intro _;exact⟨XaD _,XaD _⟩
 |succ n ih=>
  intro hn
  have:=ih (by omega)
  have:=hb n (by omega)
  rw[Zll]
  omega
end Go.AE.Y
namespace Go.AE.Y
open Go Go.AE
set_option maxHeartbeats 400000
def conv (r:VR):SR:=(bif r.1 then 1 else bif r.2.2.1 then 0 else 2,r.2.1,r.2.2.2.1,r.2.2.2.2.1,r.2.2.2.2.2)
end Go.AE.Y
namespace Go.AE.Y
open Go Go.AE
set_option maxHeartbeats 400000
end Go.AE.Y
namespace Go.AE.Y
open Go Go.AE
set_option maxHeartbeats 400000
def Zr8 (m:Zt) (c best:List Int):ZD:=if best=[]then Zdq m else Zdq m++[obC m c (Zct c best best.length - 1)]
def ZHF (m:Zt) (best:List Int):Prop:=best=[]∨(ZR m best=true∧Ziw m best=true)
theorem ZFe {m:Zt} {c best:List Int} (hm:ZF m=true) (hc:Zm0 m c=true) (hl:(Zdq m).length<400) (hb:ZHF m best):Zob (Zr8 m c best)∧ZfM (Zr8 m c best)=true∧(best≠[] → -1000≤Zct c best best.length - 1∧Zct c best best.length - 1≤1000 ∧ -135≤Zct c best best.length∧Zct c best best.length≤135):=by
 have he:=ZKV hm
 have hv:best≠[] → -1000≤Zct c best best.length - 1∧Zct c best best.length - 1≤1000 ∧ -135≤Zct c best best.length∧Zct c best best.length≤135:=fun hne=>by
  rcases hb with e|⟨h1,_⟩
  ·exact absurd e hne
  ·obtain⟨_,_,b3,_,b5⟩:=Zxz hm hc h1
   have:=b5 best.length (Nat.le_refl _)
   omega
 have hall:∀x∈Zr8 m c best,Zw x=true∧x.1.length≤12:=fun x hx=>by
  unfold Zr8 at hx
  by_cases e:best=[]
  ·rw[if_pos e]at hx
   exact he x hx
  ·rw[if_neg e]at hx
   rcases List.mem_append.1 hx with q|q
   ·exact he x q
   ·rw[Xaj.1 q]
    have:=hv e
    exact(ZE1 hm hc ⟨by omega,by omega⟩).2
 have hlen:(Zr8 m c best).length≤400:=by
  unfold Zr8
  split
  ·omega
  ·rw[Xam,XaG];omega
 refine⟨⟨by omega,fun x hx=>by have:=(hall x hx).2;omega⟩,?_,hv⟩
 unfold ZfM
 rw[Xaf,Xan,Xai]
 exact⟨fun x hx=>(hall x hx).1,hlen⟩
end Go.AE.Y
namespace Go.AE.Y
open Go Go.AE
set_option maxHeartbeats 400000
end Go.AE.Y
namespace Go.AE.Y
open Go Go.AE
set_option maxHeartbeats 400000
def ZnI (c:ZZ):Bool:=Zw c&&decide (Zjo c<c.2)
def ZqT (d:DbT):Option Nat:=(List.range d.1.length).find? (fun i=>!(d.2.getD i false)&&ZnI (d.1.getD i ([],0)))
noncomputable def Zf0 (l:ZD) (S:List Z3):Option (DbT×Nat):=
 if ZfM l=true∧S.length≤1000 then(ZdI (ZdF l) S).bind fun d=>(ZqT d).map fun i=>(d,i)else none
theorem Zxi {l:ZD} (hs:Zob l) (hp:ZfM l=true):Zeu l∧l.length≤400:=by
 refine⟨fun c hc=>⟨ZI2 hp c hc,hs.2 c hc⟩,?_⟩
 unfold ZfM at hp
 simp only[Xaf,Xai]at hp
 exact hp.2
theorem Zvn:∀(S T:List Z3) (d:DbT),ZdI d (S++T)=(ZdI d S).bind fun d'=>ZdI d' T
 |[],T,d=>rfl
 |s::S,T,d=>by
  show (ZfR d s).bind (fun d'=>ZdI d' (S++T))=((ZfR d s).bind fun d'=>ZdI d' S).bind fun d'=>ZdI d' T
  cases ZfR d s with
  |none=>rfl
  |some d'=>exact Zvn S T d'
end Go.AE.Y
namespace Go.AE.Y
open Go Go.AE
end Go.AE.Y
namespace Go.AE.Y
open Go Go.AE
set_option maxHeartbeats 400000
end Go.AE.Y
namespace Go.AE.Y
open Go Go.AE
set_option maxHeartbeats 400000
theorem ZD4 {n:Int} (h:0≤n∧n≤4000000):Ze5 n=some []:=by
 unfold Ze5
 rw[Zc (by omega),Zg (by omega) (by omega),Zg (by omega) (by omega)]
 by_cases q:0<n - (0 - 0)
 ·rw[Zd q,Zb rfl,Zb ⟨by omega,by simp only[Zp];omega⟩,Zb ⟨by omega,by omega⟩]
  rfl
 ·rw[Zc q]
theorem ZA7 {x y:List (Int×Int)} (hx:x.length≤1000) (hy:y.length≤1000):Zeb [x,y]=some (x++y):=by
 have e0:Zbp [x,y] ((0:Int),(0:Int))=some (.inl ((x.length:Int),(1:Int))):=by
  unfold Zbp
  dsimp only
  rw[Zd (by simp),Zb ⟨by omega,by simp⟩]
  show rq (i64 (0+(x.length:Int))) _=_
  rw[Zg (by omega) (by omega)]
  show cond (decide (0+(x.length:Int)<0)) none _=_
  rw[Zc (by omega),Zg (by omega) (by omega)]
  show some (Sum.inl (0+(x.length:Int),(0:Int)+1))=_
  rw[Int.zero_add]
  rfl
 have e1:Zbp [x,y] ((x.length:Int),(1:Int))=some (.inl ((x.length:Int)+(y.length:Int),(2:Int))):=by
  unfold Zbp
  dsimp only
  rw[Zd (by simp),Zb ⟨by omega,by simp⟩]
  show rq (i64 ((x.length:Int)+(y.length:Int))) _=_
  rw[Zg (by omega) (by omega)]
  show cond (decide ((x.length:Int)+(y.length:Int)<0)) none _=_
  rw[Zc (by omega),Zg (by omega) (by omega)]
  rfl
 have g0:Zbq [x,y] ((0:Int),([]:List (Int×Int)))=some (.inl ((1:Int),x)):=by
  unfold Zbq
  dsimp only
  rw[Zd (by simp),Zb ⟨by omega,by simp⟩]
  show rq (([]:List (Int×Int)).length+x.length≤Zp) _=_
  rw[Zb (by simp[Zp];omega),Zg (by omega) (by omega)]
  rfl
 have g1:Zbq [x,y] ((1:Int),x)=some (.inl ((2:Int),x++y)):=by
  unfold Zbq
  dsimp only
  rw[Zd (by simp),Zb ⟨by omega,by simp⟩]
  show rq (x.length+y.length≤Zp) _=_
  rw[Zb (by simp only[Zp];omega),Zg (by omega) (by omega)]
  rfl
 have g2:Zbq [x,y] ((2:Int),x++y)=some (.inr (.inr (x++y))):=by
  unfold Zbq
  dsimp only
  rw[Zc (by simp)]
 have e2:Zbp [x,y] ((x.length:Int)+(y.length:Int),(2:Int))=some (.inr (x++y)):=by
  unfold Zbp
  dsimp only
  rw[Zc (by simp),ZD4 ⟨by omega,by omega⟩,Ze,Zdo,g0,Ze]
  dsimp only
  rw[Zdo,g1,Ze]
  dsimp only
  rw[Zdo,g2,Ze]
 unfold Zeb
 rw[Zdo,e0,Ze]
 dsimp only
 rw[Zdo,e1,Ze]
 dsimp only
 rw[Zdo,e2,Ze]
theorem ZEW {α R:Type} {f:Int×List α→Option ((Int×List α)⊕R)} (l:List α) (d:α) (g:α→α) (fin:List α→R)
  (h:∀(i:Nat) (out:List α),i<l.length→out.length=l.length→out.getD i d=l.getD i d→f ((i:Int),out)=some (.inl ((i:Int)+1,out.set i (g (l.getD i d)))))
  (hn:f ((l.length:Int),l.map g)=some (.inr (fin (l.map g)))):loop f ((0:Int),l)=some (fin (l.map g)):=by
 refine ZH (f:=f) (fun s:Int×List α=>∃i:Nat,s.1=i∧i≤l.length∧s.2=(l.take i).map g++l.drop i) (fun s=>l.length - s.1.toNat) (fun _=>fin (l.map g)) ?_ _ ⟨0,rfl,Nat.zero_le _,by simp⟩
 rintro⟨s,out⟩ ⟨i,hs,hi,ho⟩
 dsimp only at hs ho ⊢
 subst hs
 rcases Xah i l.length with h1|h1
 ·left
  have hlen:out.length=l.length:=by rw[ho,Xam,Xas,Xay,XbF];omega
  have hl1:((l.take i).map g).length=i:=by rw[Xas,Xay];omega
  have hget:out.getD i d=l.getD i d:=by
   rw[ho,Xab,XaO (by omega),hl1,Nat.sub_self,XaX,XbO,Xab]
  refine⟨_,h i out h1 hlen hget,⟨i+1,by simp,by omega,?_⟩,by dsimp only;omega,rfl⟩
  dsimp only
  rw[ho,List.set_append_right _ _ (by omega),hl1,Nat.sub_self,XbD h1,List.set_cons_zero,Zdn d h1,Xa9,XaH]
  rfl
 ·right
  have:i=l.length:=by omega
  subst this
  rw[Xav,List.drop_length,Xar]at ho
  rw[ho,hn]
theorem ZDF {ts:List (Int×Int)} {b:Int} (hts:∀t∈ts,okS t) (hl:ts.length≤50) (hb : -50000≤b∧b≤50000):Zq9 ts b=some (ZbY ts b):=by
 unfold Zq9
 rw[Zb ⟨by omega,by simp only[Zp];omega,rfl⟩]
 refine ZH (f:=ZmE ts) (fun s:Int×Int×List Int=>∃n:Nat,s.2.1=n∧n≤ts.length∧(s.1,s.2.2)=ZbY (ts.take n) b) (fun s=>ts.length - s.2.1.toNat) (fun _=>ZbY ts b) ?_ _ ⟨0,rfl,Nat.zero_le _,rfl⟩
 rintro⟨b',s,o⟩ ⟨n,hs,hn,ho⟩
 dsimp only at hs ho ⊢
 subst hs
 obtain⟨f1,f2,f3,f4⟩:=Zn7 (b:=b) hts n hn
 have e1:b'=(ZbY (ts.take n) b).1:=by rw[←ho]
 have e2:o=(ZbY (ts.take n) b).2:=by rw[←ho]
 rw[←e1]at f3
 rw[←e2]at f1 f2 f4
 unfold ZmE
 dsimp only
 rcases Xah n ts.length with h1|h1
 ·left
  obtain⟨⟨ok1,ok1'⟩,ok2⟩:=hts _ (ZB (l:=ts) (i:=n) (d:=(0,0)) h1)
  have hlit:=ZP.1 ok2
  rw[Zd (by omega),Zb ⟨by omega,by omega⟩,Xaa]
  by_cases q:(ts.getD n (0,0)).2<0
  ·have:=f4 (0 - (ts.getD n (0,0)).2).toNat
   unfold Zqy
   rw[Xaa,Zc (by omega),Zg (by omega) (by omega),Zg (by omega) (by omega),Zb ⟨by omega,by omega⟩,Zg (by omega) (by omega),Zb ⟨by omega,by omega⟩,Zg (by omega) (by omega),Zg (by omega) (by omega)]
   refine⟨_,rfl,⟨n+1,by simp,by omega,?_⟩,by (try dsimp only)<;>omega,rfl⟩
   dsimp only
   rw[Zk8 h1,←ho]
   unfold ZjQ
   rw[if_pos q]
  ·have:=f4 (ts.getD n (0,0)).2.toNat
   rw[Zd (by omega),Zb ⟨by omega,by omega⟩,Zg (by omega) (by omega),Zb ⟨by omega,by omega⟩,Zg (by omega) (by omega)]
   refine⟨_,rfl,⟨n+1,by simp,by omega,?_⟩,by (try dsimp only)<;>omega,rfl⟩
   dsimp only
   rw[Zk8 h1,←ho]
   unfold ZjQ
   rw[if_neg q]
 ·right
  have hnn:n=ts.length:=by omega
  rw[hnn,Xav]at ho
  rw[Zc (by omega)]
  unfold Zqx
  dsimp only
  rw[ho]
  rfl
theorem ZAj {net:List Int} {b:Int} (hl:net.length=13) (hbd:∀j,-100000≤net.getD j 0∧net.getD j 0≤100000) (hb : -100000≤b∧b≤100000):Zd3 net b=some (ZbX net b):=by
 unfold Zd3
 refine ZH (f:=Zes net) (fun s:Int×Int×List (Int×Int)=>∃n:Nat,s.2.1=(n:Int)+1∧n≤12∧s.1=ZW net b n∧s.2.2=ZbH net n) (fun s=>13 - s.2.1.toNat) (fun _=>ZbX net b) ?_ _ ⟨0,rfl,Nat.zero_le _,rfl,rfl⟩
 rintro⟨c,s,t⟩ ⟨n,hs,hn,hc,ht⟩
 dsimp only at hs hc ht ⊢
 subst hs
 subst hc
 subst ht
 have hpl:=Zm3 net n
 have hnb:=Zmr (net:=net) (b:=b) (K:=100000) (by omega) (fun j=>by have:=hbd j;omega) n
 have en:((n:Int)+1).toNat=n+1:=by omega
 unfold Zes
 dsimp only
 rcases Xah n 12 with h4|h4
 ·left
  have hbn:=hbd (n+1)
  rw[Zd (by omega),Zb ⟨by omega,by omega⟩,en]
  unfold Zgq
  rw[en]
  by_cases q1:0<net.getD (n+1) 0
  ·rw[Zd q1,Zb ⟨by omega,by omega⟩,Zb (by simp[Zp];omega),Zb ⟨by omega,by omega⟩,Zc (by omega),Zg (by omega) (by omega)]
   refine⟨_,rfl,⟨n+1,by simp,by omega,?_,?_⟩,by (try dsimp only)<;>omega,rfl⟩
   ·show ZW net b n=ZW net b (n+1)
    conv=>rhs;unfold ZW
    rw[if_neg (by omega)]
   ·show _=ZbH net (n+1)
    conv=>rhs;unfold ZbH
    rw[if_pos q1]
    rfl
  ·rw[Zc q1,Zb ⟨by omega,by omega⟩]
   by_cases q2:net.getD (n+1) 0<0
   ·unfold Zjc
    rw[Zd q2,Zb ⟨by omega,by omega⟩,Zg (by omega) (by omega),Zg (by omega) (by omega),Zb (by simp[Zp];omega),Zb ⟨by omega,by omega⟩,en,Zg (by omega) (by omega),Zg (by omega) (by omega)]
    refine⟨_,rfl,⟨n+1,by simp,by omega,?_,?_⟩,by (try dsimp only)<;>omega,rfl⟩
    ·show ZW net b n - _=ZW net b (n+1)
     conv=>rhs;unfold ZW
     rw[if_pos q2]
    ·show _=ZbH net (n+1)
     conv=>rhs;unfold ZbH
     rw[if_neg q1,if_pos q2]
     rfl
   ·rw[Zc q2,Zg (by omega) (by omega)]
    refine⟨_,rfl,⟨n+1,by simp,by omega,?_,?_⟩,by (try dsimp only)<;>omega,rfl⟩
    ·show ZW net b n=ZW net b (n+1)
     conv=>rhs;unfold ZW
     rw[if_neg q2]
    ·show _=ZbH net (n+1)
     conv=>rhs;unfold ZbH
     rw[if_neg q1,if_neg q2,Xar]
 ·right
  have:n=12:=by omega
  subst this
  have fin:∀x:Int,x=max 0 (ZW net b 12)→Zdx (ZbH net 12) x=some (ZbX net b):=fun x hx=>by
   subst hx
   unfold Zdx ZbX
   rw[ZO _ (by (try dsimp only)<;>omega),Ze]
   cases Zw (ZbH net 12,max 0 (ZW net b 12))with
   |true=>rw[cnt,ctt]
   |false=>rw[cnf,cff]
  unfold Zjb
  dsimp only
  rw[Zc (by omega)]
  by_cases q:ZW net b 12<0
  ·rw[Zd q,fin 0 (by omega)];rfl
  ·rw[Zc q,fin _ (by omega)];rfl
theorem ZcV {c:ZZ} (h:Zw c=true):c.1.length≤12∧0≤c.2∧c.2≤20000:=⟨ZzE h,(ZcX h).1⟩
theorem ZGc {a b:ZZ} (ha:Zw a=true) (hb:Zw b=true):Zgx a b=some (ZrH a b):=by
 have a1:=ZcV ha
 have b1:=ZcV hb
 unfold Zgx ZhB ZrH
 rw[Z4 a (by omega),Ze,ha,cnt,Z4 b (by omega),Ze,hb,cnt,ZA7 (by omega) (by omega),Ze,Zg (by omega) (by omega),Ztf (Zz6 ha hb) (by rw[Xam];omega) ⟨by omega,by omega⟩,Ze,Xag,ctt]
theorem ZGA {a b:ZZ} (ha:Zw a=true) (hb:Zw b=true):ZgE a b=some (ZrH a b):=by
 have a1:=ZcV ha
 have b1:=ZcV hb
 have hl:(a.1++b.1).length≤24:=by rw[Xam];omega
 obtain⟨n1,_,n3,n4⟩:=Zn7 (b:=a.2+b.2) (Zz6 ha hb) (a.1++b.1).length (Nat.le_refl _)
 rw[Xav]at n1 n3 n4
 unfold ZgE ZhD ZrH
 rw[ZO a (by omega),Ze,ha,cnt,ZO b (by omega),Ze,hb,cnt,Zg (by omega) (by omega),Zb (by simp only[Zp,Xak];omega),Zb (by simp only[Zp,Xao];omega),Xao,
  ZDF (Zz6 ha hb) (by omega) ⟨by omega,by omega⟩,Ze,ZAj n1 (fun j=>by have:=n4 j;omega) ⟨by omega,by omega⟩,Ze,Xag,ctt]
def Zkj (r:ZlR):Bool×List (Int×Int)×Int:=(r.1,r.2.2,r.2.1)
theorem Zuc {c:ZZ} (h:c.1.length≤1000):Zcq c=some (Zkj (Zd1 c)):=by
 unfold Zcq Zd1 Zkj
 rw[Z4 c (by omega),Ze]
 cases Zw c with
 |true=>rw[cnt,ctt];rfl
 |false=>rw[cnf,cff];rfl
theorem Zvc {a k:Int} (ha:0≤a∧a≤20000) (hk:1≤k∧k≤1000):0≤a*k∧a*k≤20000000:=by
 refine⟨Int.mul_nonneg ha.1 (by omega),?_⟩
 have:=Int.mul_le_mul ha.2 hk.2 (by omega) (by omega)
 omega
theorem ZGf {c:ZZ} {k:Int} (hc:Zw c=true):Zd8 c k=some (Zkj (Zr2 c k)):=by
 have c1:=ZcV hc
 obtain⟨_,c2⟩:=ZcX hc
 unfold Zd8 Zr2
 rw[Z4 c (by omega),Ze,hc,cnt,Zbu,Ze,Xag]
 cases hq:decide (1≤k)&&decide (k≤1000)with
 |false=>rw[cnf,cff];rfl
 |true=>
  simp only[Xaf,Xai]at hq
  have hb:=Zvc c1.2 hq
  rw[cnt,ctt]
  have e:Zbf c k=some (Zkj (Zd1 (Zqu c k))):=by
   unfold Zbf
   have e1:ZbO c.2 k=some (c.2*k):=by
    unfold ZbO
    rw[Zg (by omega) (by omega)]
   rw[ZI1 c (by omega),Ze,e1,Ze]
   refine ZEW c.1 (0,0) (fun t=>(t.1*k,t.2)) (fun _=>Zkj (Zd1 (Zqu c k))) (fun i out hi hl hg=>?_) ?_
   ·obtain⟨l1,l2,l3⟩:=c2 i hi
    have hb2:=Zvc (a:=(c.1.getD i (0,0)).1) ⟨by omega,by omega⟩ hq
    unfold Z8
    dsimp only
    have e2:ZbO (c.1.getD i (0,0)).1 k=some ((c.1.getD i (0,0)).1*k):=by
     unfold ZbO
     rw[Zg (by omega) (by omega)]
    rw[Zd (by omega),Zb ⟨by omega,by omega⟩,Xaa,hg,e2,Ze,Zb ⟨by omega,by omega⟩,Zg (by omega) (by omega)]
   ·unfold Z8 ZbC
    dsimp only
    have e3:Zcq (c.1.map (fun t=>(t.1*k,t.2)),c.2*k)=some (Zkj (Zd1 (Zqu c k))):=Zuc (c:=Zqu c k) (by show (c.1.map _).length≤1000;rw[Xas];omega)
    rw[Zc (by omega),e3,Ze]
    generalize Zkj (Zd1 (Zqu c k))=q
    rfl
  rw[e,Ze]
theorem ZHb {a k:Int} (ha:0≤a∧a≤20000) (hk:1≤k∧k≤1000):0≤upI a k∧upI a k≤a∧(1≤a→1≤upI a k):=by
 have h1:=ZJn (n:=a) (m:=a) (k:=k) hk.1 (by
  have:=Int.mul_le_mul_of_nonneg_left hk.1 ha.1
  omega)
 have h2:=ZIO (n:=a) hk.1
 have h3:0≤upI a k:=Int.ediv_nonneg (by omega) (by omega)
 refine⟨h3,h1,fun h=>?_⟩
 rcases Int.lt_or_le (upI a k) 1 with q|q
 ·have e:upI a k=0:=by omega
  rw[e,Int.zero_mul]at h2
  omega
 ·exact q
theorem ZGd {c:ZZ} {k:Int} (hc:Zw c=true):Ze0 c k=some (Zkj (ZrN c k)):=by
 have c1:=ZcV hc
 obtain⟨_,c2⟩:=ZcX hc
 unfold Ze0 ZrN
 rw[Z4 c (by omega),Ze,hc,cnt,Zbu,Ze,Xag]
 cases hq:decide (1≤k)&&decide (k≤1000)with
 |false=>rw[cnf,cff];rfl
 |true=>
  simp only[Xaf,Xai]at hq
  rw[cnt,ctt]
  have e1:∀n:Int,0≤n→n≤20000→Zdi n k=some (upI n k):=fun n h1 h2=>by
   unfold Zdi upI
   rw[Zg (by omega) (by omega),Zg (by omega) (by omega),Zb ⟨by omega,by omega⟩]
  have e:Zbn c k=some (Zkj (Zd1 (ZrO c k))):=by
   unfold Zbn
   rw[ZI1 c (by omega),Ze,e1 c.2 (by omega) (by omega),Ze]
   refine ZEW c.1 (0,0) (fun t=>(upI t.1 k,t.2)) (fun _=>Zkj (Zd1 (ZrO c k))) (fun i out hi hl hg=>?_) ?_
   ·obtain⟨l1,l2,l3⟩:=c2 i hi
    unfold Zbd
    dsimp only
    rw[Zd (by omega),Zb ⟨by omega,by omega⟩,Xaa,hg,e1 _ (by omega) (by omega),Ze,Zb ⟨by omega,by omega⟩,Zg (by omega) (by omega)]
   ·unfold Zbd ZbL
    dsimp only
    have e3:Zcq (c.1.map (fun t=>(upI t.1 k,t.2)),upI c.2 k)=some (Zkj (Zd1 (ZrO c k))):=Zuc (c:=ZrO c k) (by show (c.1.map _).length≤1000;rw[Xas];omega)
    rw[Zc (by omega),e3,Ze]
    generalize Zkj (Zd1 (ZrO c k))=q
    rfl
  rw[e,Ze]
theorem ZGD {c:ZZ} {k:Int} (hc:Zw c=true):Zed c k=some (Zr2 c k):=by
 have c1:=ZcV hc
 obtain⟨_,c2⟩:=ZcX hc
 unfold Zed Zr2
 rw[ZO c (by omega),Ze,hc,cnt,Xag]
 by_cases q1:k<1
 ·rw[Zd q1,decide_eq_false (show ¬1≤k by omega),Xad,cff];rfl
 rw[Zc q1,Xae (show 1≤k by omega),Xag]
 by_cases q2:1000<k
 ·rw[Zd q2,decide_eq_false (show ¬k≤1000 by omega),cff];rfl
 have hq:1≤k∧k≤1000:=⟨by omega,by omega⟩
 have hb:=Zvc c1.2 hq
 rw[Zc q2,Xae hq.2,ctt,Zg (by omega) (by omega)]
 have:=ZbW (f:=ZcS c k) c.1 (0,0) (fun t=>(t.1*k,t.2)) [] (fun _=>Zd1 (Zqu c k)) (fun i out hi ho=>?_) ?_
 ·exact this
 ·obtain⟨l1,l2,l3⟩:=c2 i hi
  have hb2:=Zvc (a:=(c.1.getD i (0,0)).1) ⟨by omega,by omega⟩ hq
  unfold ZcS
  dsimp only
  rw[Zd (by omega),Zb ⟨by omega,by omega⟩,Xaa,Zg (by omega) (by omega),Zb ⟨by omega,by omega⟩,Zb (by simp only[Zp,Xal,Xak];simp at ho;omega),Zg (by omega) (by omega)]
 ·unfold ZcS Zfj
  dsimp only
  have e:ZM (c.1.map (fun t=>(t.1*k,t.2)),c.2*k)=some (Zw (Zqu c k)):=ZO (Zqu c k) (by show (c.1.map _).length≤_;rw[Xas];omega)
  rw[Zc (by omega),Xao,e,Ze]
  unfold Zd1
  cases Zw (Zqu c k)with
  |true=>rw[cnt,ctt];rfl
  |false=>rw[cnf,cff];rfl
theorem ZKf {c:ZZ} {k:Int} (hc:Zw c=true) (hk:1≤k∧k≤1000):Zw (ZrO c k)=true:=by
 obtain⟨h1,h2,h3,h4⟩:=Zf7.1 hc
 have hb:=ZHb (a:=c.2) ⟨h3,h4⟩ hk
 rw[Zf7]
 unfold ZrO
 refine⟨fun t ht=>?_,List.pairwise_map.2 (h2.imp (fun hab=>hab)),hb.1,by dsimp only;omega⟩
 obtain⟨x,hx,rfl⟩:=XaL.1 ht
 have hx':=h1 x hx
 have:=ZHb (a:=x.1) ⟨by omega,by omega⟩ hk
 dsimp only
 exact⟨hx'.1,by omega,by omega⟩
theorem ZGB {c:ZZ} {k:Int} (hc:Zw c=true):Ze7 c k=some (ZrN c k):=by
 have c1:=ZcV hc
 obtain⟨_,c2⟩:=ZcX hc
 unfold Ze7 Zgk ZrN
 rw[ZO c (by omega),Ze,hc,cnt,Xag]
 by_cases q1:k<1
 ·rw[Zd q1,decide_eq_false (show ¬1≤k by omega),Xad,cff];rfl
 rw[Zc q1,Xae (show 1≤k by omega),Xag]
 by_cases q2:1000<k
 ·rw[Zd q2,decide_eq_false (show ¬k≤1000 by omega),cff];rfl
 have hq:1≤k∧k≤1000:=⟨by omega,by omega⟩
 have e1:∀n:Int,0≤n→n≤20000→ZpZ n k=some (upI n k):=fun n h1 h2=>by
  unfold ZpZ upI
  rw[Zg (by omega) (by omega),Zg (by omega) (by omega),Zb ⟨by omega,by omega⟩]
 rw[Zc q2,Xae hq.2,ctt,e1 c.2 (by omega) (by omega),Ze]
 unfold Zd1
 rw[ZKf hc hq,ctt]
 have:=ZbW (f:=Zc9 c k (upI c.2 k)) c.1 (0,0) (fun t=>(upI t.1 k,t.2)) [] (fun _=>Zr6 (ZrO c k)) (fun i out hi ho=>?_) ?_
 ·exact this
 ·obtain⟨l1,l2,l3⟩:=c2 i hi
  unfold Zc9
  dsimp only
  rw[Zd (by omega),Zb ⟨by omega,by omega⟩,Xaa,e1 _ (by omega) (by omega),Ze,Zb ⟨by omega,by omega⟩,Zb (by simp only[Zp,Xal,Xak];simp at ho;omega),Zg (by omega) (by omega)]
 ·unfold Zc9
  dsimp only
  rw[Zc (by omega),Xao]
  rfl
theorem ZGg {c:ZZ} (hc:Zw c=true):Zd9 c=some (Zxo c):=by
 have c1:=ZcV hc
 unfold Zd9 Zxo
 rw[Z4 c (by omega),Ze,hc,cnt,ctt]
 by_cases q:0<c.2
 ·rw[Zd q]
  have:=ZbW (f:=ZcR c) c.1 (0,0) (fun t=>(min t.1 c.2,t.2)) [] (fun _=>Zr6 (Zsb c)) (fun i out hi ho=>?_) ?_
  ·exact this
  ·unfold ZcR
   dsimp only
   rw[Zd (by omega),Zb ⟨by omega,by omega⟩,Xaa,Zb (by simp only[Zp,Xal,Xak];simp at ho;omega),Zg (by omega) (by omega)]
  ·unfold ZcR Zsb
   dsimp only
   rw[Zc (by omega),Xao,if_pos q]
   rfl
 ·rw[Zc q]
  unfold Zsb
  rw[if_neg q]
  rfl
theorem ZGE {c:ZZ} (hc:Zw c=true):Zee c=some (Zxo c):=by
 have c1:=ZcV hc
 unfold Zee Zxo
 rw[ZO c (by omega),Ze,hc,cnt,ctt]
 have e:Zkw c=some ((Zsb c).2,(Zsb c).1):=by
  unfold Zkw Zsb
  by_cases q:0<c.2
  ·rw[if_pos q]
   have:=ZbW (f:=ZdE c) c.1 (0,0) (fun t=>(min t.1 c.2,t.2)) [] (fun o=>(c.2,o)) (fun i out hi ho=>?_) ?_
   ·rw[Xao]at this
    exact this
   ·unfold ZdE Zho
    dsimp only
    rw[Zd (by omega),Zd q,Zb ⟨by omega,by omega⟩,Xaa]
    by_cases q2:c.2<(c.1.getD i (0,0)).1
    ·rw[Zd q2,Zb (by simp only[Zp,Xal,Xak];simp at ho;omega),Zg (by omega) (by omega),show min (c.1.getD i (0,0)).1 c.2=c.2 by omega]
    ·rw[Zc q2,Zb (by simp only[Zp,Xal,Xak];simp at ho;omega),Zg (by omega) (by omega),show min (c.1.getD i (0,0)).1 c.2=(c.1.getD i (0,0)).1 by omega]
   ·unfold ZdE
    dsimp only
    rw[Zc (by omega)]
  ·rw[if_neg q,Zdo]
   unfold ZdE
   dsimp only
   by_cases q2:(0:Int)<(c.1.length:Int)
   ·rw[Zd q2,Zc q,Ze]
   ·rw[Zc q2,Ze]
 rw[e,Ze]
 rfl
theorem ZnF (l:List (Int×Int)) (t:Int×Int) (x:Int):ZeX (l++[t]) x=ZeX l x+(if vof t.2=x then t.1 else 0):=by
 unfold ZeX
 rw[List.filter_append,Xa9,List.sum_append]
 congr 1
 by_cases q:vof t.2=x
 ·rw[Xbc (p:=fun t:Int×Int=>decide (vof t.2=x)) (Xae q),if_pos q]
  show t.1+0=t.1
  omega
 ·rw[Xbb (p:=fun t:Int×Int=>decide (vof t.2=x)) (by rw[Xai];exact q),if_neg q]
  rfl
theorem Zti (l:List (Int×Int)) (t:Int×Int) (x:Int):(l++[t]).filter (fun t=>!decide (vof t.2=x))=l.filter (fun t=>!decide (vof t.2=x))++(if vof t.2=x then[]else[t]):=by
 rw[List.filter_append]
 congr 1
 by_cases q:vof t.2=x
 ·rw[Xbb (by rw[Xae q];decide),if_pos q]
  rfl
 ·rw[Xbc (by rw[decide_eq_false q];rfl),if_neg q]
  rfl
theorem ZEj {c:ZZ} {x:Int} {i:Nat} (hc:Zw c=true) (hi:i<c.1.length) (hx:vof (c.1.getD i (0,0)).2=x):ZeX (c.1.take i) x=0:=by
 have hp:=(Zf7.1 hc).2.1
 unfold ZeX
 have:(c.1.take i).filter (fun t=>decide (vof t.2=x))=[]:=List.filter_eq_nil_iff.2 (fun t ht=>by
  obtain⟨j,hj,rfl⟩:=Xaq.1 ht
  rw[Xay]at hj
  have:=Xa3.1 hp j i (by omega) hi (by omega)
  rw[Xab,Xac hi]at hx
  have hx:vof (c.1[i]).2=x:=hx
  rw[Xbo,Xai]
  omega)
 rw[this]
 rfl
theorem ZyK {c:ZZ} {x:Int} (hc:Zw c=true):∀i,i≤c.1.length→0≤ZeX (c.1.take i) x∧ZeX (c.1.take i) x≤1000*i
 |0,_=>⟨XaD _,XaD _⟩
 |i+1,hi=>by
  have ih:=ZyK (x:=x) hc i (by omega)
  obtain⟨l1,l2,l3⟩:=(ZcX hc).2 i (by omega)
  rw[Zdn (0,0) (by omega),ZnF]
  split<;>omega
theorem ZEF {c:ZZ} {x:Int} (hc:Zw c=true):Ze2 c x=some (Ztw c x):=by
 have c1:=ZcV hc
 obtain⟨_,c2⟩:=ZcX hc
 unfold Ze2 Ztw
 rw[Z4 c (by omega),Ze,hc,cnt,Zbu,Ze,Xag]
 cases hq:decide (1≤x)&&decide (x≤12)with
 |false=>rw[cnf,cff];rfl
 |true=>
  rw[cnt,ctt]
  refine ZH (f:=ZdU c x) (fun s:Int×Int×List (Int×Int)=>∃n:Nat,s.1=n∧n≤c.1.length∧s.2.1=max 0 (c.2 - ZeX (c.1.take n) x)∧s.2.2=(c.1.take n).filter (fun t=>!decide (vof t.2=x))) (fun s=>c.1.length - s.1.toNat) (fun _=>Zr6 (ZxX c x)) ?_ _ ⟨0,rfl,Nat.zero_le _,by show c.2=max 0 (c.2 - 0);omega,rfl⟩
  rintro⟨s,b,o⟩ ⟨n,hs,hn,hb,ho⟩
  dsimp only at hs hb ho ⊢
  subst hs
  have hcl:=ZyK (x:=x) hc n hn
  have hol:o.length≤n:=by
   rw[ho]
   have:=Xby (fun t:Int×Int=>!decide (vof t.2=x)) (c.1.take n)
   rw[Xay]at this
   omega
  unfold ZdU
  dsimp only
  rcases Xah n c.1.length with h1|h1
  ·left
   obtain⟨l1,l2,l3⟩:=c2 n h1
   have hlit:=ZP.1 l1
   rw[Zd (by omega),Zb ⟨by omega,by omega⟩,Xaa,Zhg (by omega),Ze]
   by_cases q:vof (c.1.getD n (0,0)).2=x
   ·have h0:=ZEj hc h1 q
    rw[Zu q,Zg (by omega) (by omega),Zg (by omega) (by omega)]
    refine⟨_,rfl,⟨n+1,by simp,by omega,?_,?_⟩,by (try dsimp only)<;>omega,rfl⟩
    ·dsimp only
     rw[Zdn (0,0) h1,ZnF,if_pos q,h0,Int.zero_add]
    ·dsimp only
     rw[Zdn (0,0) h1,Zti,if_pos q,Xar,ho]
   ·rw[Zs q,Zb (by simp only[Zp,Xal,Xak];omega),Zg (by omega) (by omega)]
    refine⟨_,rfl,⟨n+1,by simp,by omega,?_,?_⟩,by (try dsimp only)<;>omega,rfl⟩
    ·dsimp only
     rw[Zdn (0,0) h1,ZnF,if_neg q,Int.add_zero]
     exact hb
    ·dsimp only
     rw[Zdn (0,0) h1,Zti,if_neg q,ho]
  ·right
   have hnn:n=c.1.length:=by omega
   rw[hnn,Xav]at hb ho
   rw[Zc (by omega),hb,ho]
   rfl
theorem ZFq {c:ZZ} {x:Int} (hc:Zw c=true):Zfa c x=some (Ztw c x):=by
 have c1:=ZcV hc
 obtain⟨_,c2⟩:=ZcX hc
 unfold Zfa Ztw
 rw[ZO c (by omega),Ze,hc,cnt,Xag]
 by_cases q1:x<1
 ·rw[Zd q1,decide_eq_false (show ¬1≤x by omega),Xad,cff];rfl
 rw[Zc q1,Xae (show 1≤x by omega),Xag]
 by_cases q2:12<x
 ·rw[Zd q2,decide_eq_false (show ¬x≤12 by omega),cff];rfl
 rw[Zc q2,Xae (show x≤12 by omega),ctt]
 refine ZH (f:=Zd0 c x) (fun s:Int×Int×List (Int×Int)=>∃n:Nat,s.1=n∧n≤c.1.length∧s.2.1=c.2 - ZeX (c.1.take n) x∧s.2.2=(c.1.take n).filter (fun t=>!decide (vof t.2=x))) (fun s=>c.1.length - s.1.toNat) (fun _=>Zr6 (ZxX c x)) ?_ _ ⟨0,rfl,Nat.zero_le _,by show c.2=c.2 - 0;omega,rfl⟩
 rintro⟨s,b,o⟩ ⟨n,hs,hn,hb,ho⟩
 dsimp only at hs hb ho ⊢
 subst hs
 have hcl:=ZyK (x:=x) hc n hn
 have hol:o.length≤n:=by
  rw[ho]
  have:=Xby (fun t:Int×Int=>!decide (vof t.2=x)) (c.1.take n)
  rw[Xay]at this
  omega
 unfold Zd0
 dsimp only
 rcases Xah n c.1.length with h1|h1
 ·left
  obtain⟨l1,l2,l3⟩:=c2 n h1
  have hlit:=ZP.1 l1
  rw[Zd (by omega),Zb ⟨by omega,by omega⟩,Xaa,Zqv (by omega),Ze]
  by_cases q:vof (c.1.getD n (0,0)).2=x
  ·rw[Zu q,Zb ⟨by omega,by omega⟩,Zg (by omega) (by omega),Zg (by omega) (by omega)]
   refine⟨_,rfl,⟨n+1,by simp,by omega,?_,?_⟩,by (try dsimp only)<;>omega,rfl⟩
   ·dsimp only
    rw[Zdn (0,0) h1,ZnF,if_pos q]
    omega
   ·dsimp only
    rw[Zdn (0,0) h1,Zti,if_pos q,Xar,ho]
  ·rw[Zs q,Zb ⟨by omega,by omega⟩,Zb (by simp only[Zp,Xal,Xak];omega),Zg (by omega) (by omega)]
   refine⟨_,rfl,⟨n+1,by simp,by omega,?_,?_⟩,by (try dsimp only)<;>omega,rfl⟩
   ·dsimp only
    rw[Zdn (0,0) h1,ZnF,if_neg q,Int.add_zero]
    exact hb
   ·dsimp only
    rw[Zdn (0,0) h1,Zti,if_neg q,ho]
 ·right
  have hnn:n=c.1.length:=by omega
  rw[hnn,Xav]at hb ho
  unfold Zgp
  dsimp only
  rw[Zc (by omega)]
  by_cases q:b<0
  ·rw[Zd q,ho]
   show some (Sum.inr (true,(0:Int),_))=some (Sum.inr (true,max 0 (c.2 - ZeX c.1 x),_))
   rw[show max 0 (c.2 - ZeX c.1 x)=(0:Int) by omega]
   rfl
  ·rw[Zc q,ho]
   show some (Sum.inr (true,b,_))=some (Sum.inr (true,max 0 (c.2 - ZeX c.1 x),_))
   rw[show max 0 (c.2 - ZeX c.1 x)=b by omega]
   rfl
end Go.AE.Y
namespace Go.AE.Y
open Go Go.AE
set_option maxHeartbeats 400000
theorem Zzj {c:ZZ} {n:Nat} (h:n<c.1.length):((c.1.take (n+1)).map (fun t=>t.1)).sum=((c.1.take n).map (fun t=>t.1)).sum+(c.1.getD n (0,0)).1:=by
 rw[Zdn (0,0) h,Xa9,List.sum_append]
 show _+((c.1.getD n (0,0)).1+0)=_
 omega
theorem ZFA {c:ZZ} (hc:Zw c=true):∀n,n≤c.1.length→0≤((c.1.take n).map (fun t=>t.1)).sum∧((c.1.take n).map (fun t=>t.1)).sum≤1000*n
 |0,_=>⟨XaD _,XaD _⟩
 |n+1,h=>by
  have ih:=ZFA hc n (by omega)
  obtain⟨l1,l2,l3⟩:=(ZcX hc).2 n (by omega)
  rw[Zzj (by omega)]
  omega
theorem ZvI {c:ZZ} (hc:Zw c=true):ZdC c=some (Zjo c):=by
 have c1:=ZcV hc
 unfold ZdC
 refine ZH (f:=ZdR c) (fun s:Int×Int=>∃n:Nat,s.2=n∧n≤c.1.length∧s.1=((c.1.take n).map (fun t=>t.1)).sum) (fun s=>c.1.length - s.2.toNat) (fun _=>Zjo c) ?_ _ ⟨0,rfl,Nat.zero_le _,rfl⟩
 rintro⟨x,s⟩ ⟨n,hs,hn,hx⟩
 dsimp only at hs hx ⊢
 subst hs
 have hb:=ZFA hc n hn
 unfold ZdR
 dsimp only
 rcases Xah n c.1.length with h1|h1
 ·left
  obtain⟨l1,l2,l3⟩:=(ZcX hc).2 n h1
  rw[Zd (by omega),Zb ⟨by omega,by omega⟩,Xaa,Zg (by omega) (by omega),Zg (by omega) (by omega)]
  exact⟨_,rfl,⟨n+1,by simp,by omega,by dsimp only;rw[Zzj h1,hx]⟩,by (try dsimp only)<;>omega,rfl⟩
 ·right
  have:n=c.1.length:=by omega
  rw[this,Xav]at hx
  rw[Zc (by omega),hx]
  rfl
theorem ZvP {c:ZZ} (hc:Zw c=true):Zle c=some (Zjo c):=by
 have c1:=ZcV hc
 unfold Zle
 refine ZH (f:=Zkv c) (fun s:Int×Int=>∃n:Nat,s.2=n∧n≤c.1.length∧s.1=((c.1.take n).map (fun t=>t.1)).sum) (fun s=>c.1.length - s.2.toNat) (fun _=>Zjo c) ?_ _ ⟨0,rfl,Nat.zero_le _,rfl⟩
 rintro⟨x,s⟩ ⟨n,hs,hn,hx⟩
 dsimp only at hs hx ⊢
 subst hs
 have hb:=ZFA hc n hn
 unfold Zkv
 dsimp only
 rcases Xah n c.1.length with h1|h1
 ·left
  obtain⟨l1,l2,l3⟩:=(ZcX hc).2 n h1
  rw[Zd (by omega),Zb ⟨by omega,by omega⟩,Xaa,Zg (by omega) (by omega),Zg (by omega) (by omega)]
  exact⟨_,rfl,⟨n+1,by simp,by omega,by dsimp only;rw[Zzj h1,hx]⟩,by (try dsimp only)<;>omega,rfl⟩
 ·right
  have:n=c.1.length:=by omega
  rw[this,Xav]at hx
  rw[Zc (by omega),hx]
  rfl
theorem ZDf {c:ZZ} (hl:c.1.length≤1048576):ZdO c=some (ZnI c):=by
 unfold ZdO ZnI
 rw[Z4 c (by omega),Ze]
 cases hc:Zw c with
 |false=>rw[cff,Xad]
 |true=>rw[ctt,ZvI hc,Ze,Xag]
theorem ZDD {c:ZZ} (hl:c.1.length≤1048576):ZdZ c=some (ZnI c):=by
 unfold ZdZ ZnI
 rw[ZO c (by omega),Ze]
 cases hc:Zw c with
 |false=>rw[cff,Xad]
 |true=>rw[ctt,ZvP hc,Ze,Xag]
theorem ZGi {c:ZZ} (hc:Zw c=true):ZdP c=some ((ZmZ c).2,(ZmZ c).1):=by
 have c1:=ZcV hc
 have ht:=ZB1 hc
 obtain⟨_,c2⟩:=ZcX hc
 unfold ZdP ZeL ZeM
 rw[ZvI hc,Ze,Zg (by omega) (by omega),Zg (by omega) (by omega)]
 have:=ZbW (f:=ZcC c (max 0 (Zjo c - c.2+1))) c.1 (0,0) (fun t=>(t.1,0 - t.2)) [] (fun o=>(max 0 (Zjo c - c.2+1),o)) (fun i out hi ho=>?_) ?_
 ·rw[Xao]at this
  exact this
 ·obtain⟨l1,_,_⟩:=c2 i hi
  have hlit:=ZP.1 l1
  unfold ZcC ZeN
  dsimp only
  rw[Zd (by omega),Zb ⟨by omega,by omega⟩,Xaa,Zg (by omega) (by omega),Zb (by simp only[Zp,Xal,Xak];simp at ho;omega),Zg (by omega) (by omega)]
 ·unfold ZcC
  dsimp only
  rw[Zc (by omega)]
theorem ZGG {c:ZZ} (hc:Zw c=true):Ze9 c=some (true,(ZmZ c).2,(ZmZ c).1):=by
 have c1:=ZcV hc
 have ht:=ZB1 hc
 obtain⟨_,c2⟩:=ZcX hc
 unfold Ze9 Zgl Zgm
 rw[ZO c (by omega),Ze,hc,cnt,ZvP hc,Ze,Zg (by omega) (by omega),Zg (by omega) (by omega)]
 have:=ZbW (f:=Zda c (Zjo c - c.2+1)) c.1 (0,0) (fun t=>(t.1,0 - t.2)) [] (fun o=>(true,max 0 (Zjo c - c.2+1),o)) (fun i out hi ho=>?_) ?_
 ·rw[Xao]at this
  exact this
 ·obtain⟨l1,_,_⟩:=c2 i hi
  have hlit:=ZP.1 l1
  unfold Zda
  dsimp only
  rw[Zd (by omega),Zb ⟨by omega,by omega⟩,Zb ⟨by omega,by omega⟩,Xaa,Zg (by omega) (by omega),Zb (by simp only[Zp,Xal,Xak];simp at ho;omega),Zg (by omega) (by omega)]
 ·unfold Zda Zgn
  dsimp only
  rw[Zc (by omega)]
  by_cases q:Zjo c - c.2+1<0
  ·rw[Zd q,show max 0 (Zjo c - c.2+1)=(0:Int) by omega]
   rfl
  ·rw[Zc q,show max 0 (Zjo c - c.2+1)=Zjo c - c.2+1 by omega]
   rfl
theorem ZGk {L:ZD} {c:ZZ} (hL:Zeu L) (hl:L.length≤1000000) (hc:Zw c=true):Zu5 L c=some (Zsa L c):=by
 obtain⟨r,e,eb⟩:=ZI5 hL hl hc
 unfold Zu5 ZtK
 rw[ZwB L (by omega),Ze,ZGi hc,Ze,Zb (by simp only[Zp,Xal,Xak];omega),Zb ⟨by omega,by simp only[Zp];omega,rfl⟩]
 show (Zde (L++[ZmZ c]) ZxH).bind _=_
 rw[e,Ze,eb]
theorem ZGI {L:ZD} {c:ZZ} (hL:Zeu L) (hl:L.length≤1000000) (hc:Zw c=true):Zra L c=some (Zsa L c):=by
 obtain⟨r,e,eb⟩:=ZI5 hL hl hc
 unfold Zra ZqA
 rw[ZGG hc,Ze,Zb (by simp only[Zp,Xak];omega),Zb (by simp only[Zp,Xal,Xak,Xao];omega),Zb ⟨by omega,by simp only[Zp];omega,rfl⟩]
 show (Zgr (([]++L)++[ZmZ c]) ZxH).bind _=_
 rw[Xao,ZBL (ZyN hL hc) (by rw[Xam,XaG];omega) ZCj,e,Ze,eb]
theorem Zq4 (d:DbT) (n:Nat):Zpa d (n+1)=Zpa d n++(bif d.2.getD n false then[]else[d.1.getD n ([],0)]):=rfl
theorem ZEJ {d:DbT} (hg:d.2.length=d.1.length) (hl:d.1.length≤1000000):Zev d.1 d.2=some (ZlB d):=by
 unfold Zev
 refine ZH (f:=ZdG d.1 d.2) (fun s:Int×ZD=>∃n:Nat,s.1=n∧n≤d.1.length∧s.2=Zpa d n) (fun s=>d.1.length - s.1.toNat) (fun _=>ZlB d) ?_ _ ⟨0,rfl,Nat.zero_le _,rfl⟩
 rintro⟨s,o⟩ ⟨n,hs,hn,ho⟩
 dsimp only at hs ho ⊢
 subst hs
 have hlen:=ZpV d n
 unfold ZdG
 dsimp only
 rcases Xah n d.1.length with h1|h1
 ·left
  rw[Zd (by omega),Zb ⟨by omega,by omega⟩,Zb ⟨by omega,by omega⟩,Xaa]
  cases hq:d.2.getD n false with
  |true=>
   rw[cnt,Zg (by omega) (by omega)]
   exact⟨_,rfl,⟨n+1,by simp,by omega,by dsimp only;rw[Zq4,hq,ctt,Xar,ho]⟩,by (try dsimp only)<;>omega,rfl⟩
  |false=>
   rw[cnf,Zb (by rw[ho];simp only[Zp,Xal,Xak];omega),Zg (by omega) (by omega)]
   exact⟨_,rfl,⟨n+1,by simp,by omega,by dsimp only;rw[Zq4,hq,cff,ho]⟩,by (try dsimp only)<;>omega,rfl⟩
 ·right
  have:n=d.1.length:=by omega
  rw[Zc (by omega),ho,this]
  rfl
theorem ZDG {d:DbT} (hg:d.2.length=d.1.length) (hl:d.1.length≤1000000):Zpg d=some (ZlB d):=by
 unfold Zpg
 refine ZH (f:=ZlI d) (fun s:Int×ZD=>∃n:Nat,s.1=n∧n≤d.1.length∧s.2=Zpa d n) (fun s=>d.1.length - s.1.toNat) (fun _=>ZlB d) ?_ _ ⟨0,rfl,Nat.zero_le _,rfl⟩
 rintro⟨s,o⟩ ⟨n,hs,hn,ho⟩
 dsimp only at hs ho ⊢
 subst hs
 have hlen:=ZpV d n
 unfold ZlI
 dsimp only
 rcases Xah n d.1.length with h1|h1
 ·left
  rw[Zd (by omega),Zb ⟨by omega,by omega⟩,Xaa]
  cases hq:d.2.getD n false with
  |true=>
   rw[cnt,Zg (by omega) (by omega)]
   exact⟨_,rfl,⟨n+1,by simp,by omega,by dsimp only;rw[Zq4,hq,ctt,Xar,ho]⟩,by (try dsimp only)<;>omega,rfl⟩
  |false=>
   rw[cnf,Zb ⟨by omega,by omega⟩,Zb (by rw[ho];simp only[Zp,Xal,Xak];omega),Zg (by omega) (by omega)]
   exact⟨_,rfl,⟨n+1,by simp,by omega,by dsimp only;rw[Zq4,hq,cff,ho]⟩,by (try dsimp only)<;>omega,rfl⟩
 ·right
  have:n=d.1.length:=by omega
  rw[Zc (by omega),ho,this]
  rfl
theorem Zyv {d:DbT} {i:Int} (hg:d.2.length=d.1.length) (hl:d.1.length≤1000000):Zc1 i d.1 d.2=some (ZdH d i):=by
 unfold Zc1 ZdH
 rw[Zg (by omega) (by omega),Zbu,Ze]
 by_cases q1:0≤i
 ·rw[Xae q1,Xag]
  by_cases q2:i<d.1.length
  ·rw[Xae (show i≤(d.1.length:Int) - 1 by omega),ctt,Zb ⟨by omega,by omega⟩,Xae q2,Xag,Xag]
  ·rw[decide_eq_false (show ¬i≤(d.1.length:Int) - 1 by omega),cff,decide_eq_false q2,XaM,Xad]
 ·rw[decide_eq_false q1,Xad,cff,Xad,Xad]
theorem ZtX {d:DbT} {i:Int} (hg:d.2.length=d.1.length):ZhE d i=some (ZdH d i):=by
 unfold ZhE ZdH
 by_cases q1:0≤i
 ·rw[Zd q1,Xae q1,Xag]
  by_cases q2:i<d.1.length
  ·rw[Zd q2,Zb ⟨by omega,by omega⟩,Xae q2,Xag]
  ·rw[Zc q2,decide_eq_false q2,Xad]
 ·rw[Zc q1,decide_eq_false q1,Xad,Xad]
theorem ZCE (k:Int):∃n b,Zmp k=some (n,b)∧((k=1∧n=2∧b=false)∨((k=2∨k=3∨k=5)∧n=1∧b=true)∨((k=4∨k=8)∧n=1∧b=false)∨((k=6∨k=7)∧n=0∧b=false)∨((k≤0∨9≤k)∧n = -1∧b=false)):=by
 unfold Zmp
 by_cases k1:k=1
 ·rw[Zu k1];exact⟨_,_,rfl,Or.inl ⟨k1,rfl,rfl⟩⟩
 rw[Zs k1]
 by_cases k2:k=2
 ·rw[Zu k2];exact⟨_,_,rfl,by simp[k2]⟩
 rw[Zs k2]
 by_cases k3:k=3
 ·rw[Zu k3];exact⟨_,_,rfl,by simp[k3]⟩
 rw[Zs k3]
 by_cases k5:k=5
 ·rw[Zu k5];exact⟨_,_,rfl,by simp[k5]⟩
 rw[Zs k5]
 by_cases k4:k=4
 ·rw[Zu k4];exact⟨_,_,rfl,by simp[k4]⟩
 rw[Zs k4]
 by_cases k8:k=8
 ·rw[Zu k8];exact⟨_,_,rfl,by simp[k8]⟩
 rw[Zs k8]
 by_cases k6:k=6
 ·rw[Zu k6];exact⟨_,_,rfl,by simp[k6]⟩
 rw[Zs k6]
 by_cases k7:k=7
 ·rw[Zu k7];exact⟨_,_,rfl,by simp[k7]⟩
 rw[Zs k7]
 exact⟨_,_,rfl,Or.inr (Or.inr (Or.inr (Or.inr ⟨by omega,rfl,rfl⟩)))⟩
theorem ZD8 {s:Z3} (hl:s.2.2.2.1.length≤1048576):Zbg s.2.2.2 (([]:List (Int×Int)),(0:Int))=some (Zz3 s):=by
 unfold Zbg Zz3
 by_cases q:s.2.2.2.2=0
 ·rw[Zu q,Xae q,XbC]
  have e:Zez s.2.2.2.1 []=some (decide (s.2.2.2.1=[])):=by
   unfold Zez
   cases hs:s.2.2.2.1 with
   |nil=>
    rw[show ((([]:List (Int×Int)).length:Int) != (([]:List (Int×Int)).length:Int))=false by simp,cff,Zdo]
    unfold ZfO
    rw[Zc (by simp),Ze]
    rfl
   |cons t l=>
    rw[show (((t::l).length:Int) != (([]:List (Int×Int)).length:Int))=true by simp;omega,ctt,decide_eq_false (by simp)]
  rw[e,Ze]
 ·rw[Zs q,decide_eq_false q,XaM]
theorem ZDg {s:Z3} (hl:s.2.2.2.1.length≤1048576):ZiY s=some (Ziu s):=by
 obtain⟨n,b,e,h⟩:=ZCE s.1
 have hs:=ZD8 hl
 unfold ZiY Ziu
 rw[e,Ze]
 dsimp only
 rcases h with⟨k,rfl,rfl⟩|⟨k,rfl,rfl⟩|⟨k,rfl,rfl⟩|⟨k,rfl,rfl⟩|⟨k,rfl,rfl⟩
 ·rw[Zd (by omega),Zd (by omega),Zu rfl,Zs (by omega),hs,Ze,if_pos (Or.inl k)]
 ·rw[Zd (by omega),Zd (by omega),Zs (by omega),ctt,Zs (by omega),hs,Ze,if_pos (by omega)]
 ·rw[Zd (by omega),Zd (by omega),Zs (by omega),cff,if_neg (by omega),if_pos (by omega)]
  by_cases q:s.2.2.1=0
  ·rw[Zu q,Zs (by omega),hs,Ze,Xae q,XbC]
  ·rw[Zs q,decide_eq_false q,XaM]
 ·rw[Zd (by omega),Zc (by omega),if_neg (by omega)]
  rcases k with k|k
  ·rw[Zu k,Zs (by omega),cff,if_pos (by omega)]
   by_cases q:s.2.2.1=0
   ·rw[Zu q,Zs (by omega),hs,Ze,Xae q,XbC]
   ·rw[Zs q,decide_eq_false q,XaM]
  ·rw[Zs (by omega),if_neg (by omega),if_pos k]
   by_cases q0:s.2.1=0
   ·rw[Zu q0,Zs (by omega),cff,Xae q0,Xag]
    by_cases q:s.2.2.1=0
    ·rw[Zu q,Zu k,Xae q]
    ·rw[Zs q,decide_eq_false q]
   ·rw[Zs q0,decide_eq_false q0,Xad]
 ·rw[Zc (by omega),if_neg (by omega),if_neg (by omega),if_neg (by omega)]
theorem ZDH {s:Z3}:Zlh s=some (Ziu s):=by
 unfold Zlh Ziu Zz3
 by_cases q0:s.2.2.2.1=[]
 ·rw[Zu (by rw[q0];rfl),Xae q0,Xag]
  by_cases k1:s.1=1
  ·rw[Zu k1,if_pos (Or.inl k1)];rfl
  rw[Zs k1]
  by_cases k2:s.1=2
  ·rw[Zu k2,if_pos (Or.inr (Or.inl k2))];rfl
  rw[Zs k2]
  by_cases k3:s.1=3
  ·rw[Zu k3,if_pos (Or.inr (Or.inr (Or.inl k3)))];rfl
  rw[Zs k3]
  by_cases k5:s.1=5
  ·rw[Zu k5,if_pos (Or.inr (Or.inr (Or.inr k5)))];rfl
  rw[Zs k5,if_neg (by omega)]
  have two:cond (s.2.2.2.2==0) (some (s.2.2.1==0)) (some false)=some (decide (s.2.2.2.2=0)&&decide (s.2.2.1=0)):=by
   by_cases q:s.2.2.2.2=0
   ·rw[Zu q,Xae q,Xag];rfl
   ·rw[Zs q,decide_eq_false q,Xad]
  by_cases k4:s.1=4
  ·rw[Zu k4,if_pos (Or.inl k4),two]
  rw[Zs k4]
  by_cases k6:s.1=6
  ·rw[Zu k6,if_pos (Or.inr (Or.inl k6)),two]
  rw[Zs k6]
  by_cases k8:s.1=8
  ·rw[Zu k8,if_pos (Or.inr (Or.inr k8)),two]
  rw[Zs k8,if_neg (by omega)]
  by_cases k7:s.1=7
  ·rw[Zu k7,if_pos k7]
   by_cases q:s.2.1=0
   ·rw[Zu q,Xae q,Xag];rfl
   ·rw[Zs q,decide_eq_false q,Xad]
  ·rw[Zs k7,if_neg k7]
 ·have hlen:((s.2.2.2.1.length:Int))≠0:=fun e=>q0 (XaA (by omega))
  rw[Zs hlen,decide_eq_false q0,Xad]
  by_cases k1:s.1=1
  ·rw[Zu k1,if_pos (Or.inl k1)]
  rw[Zs k1]
  by_cases k2:s.1=2
  ·rw[Zu k2,if_pos (Or.inr (Or.inl k2))]
  rw[Zs k2]
  by_cases k3:s.1=3
  ·rw[Zu k3,if_pos (Or.inr (Or.inr (Or.inl k3)))]
  rw[Zs k3]
  by_cases k5:s.1=5
  ·rw[Zu k5,if_pos (Or.inr (Or.inr (Or.inr k5)))]
  rw[Zs k5,if_neg (by omega),Xad]
  by_cases k4:s.1=4
  ·rw[Zu k4,if_pos (Or.inl k4)]
  rw[Zs k4]
  by_cases k6:s.1=6
  ·rw[Zu k6,if_pos (Or.inr (Or.inl k6))]
  rw[Zs k6]
  by_cases k8:s.1=8
  ·rw[Zu k8,if_pos (Or.inr (Or.inr k8))]
  rw[Zs k8,if_neg (by omega)]
  by_cases k7:s.1=7
  ·rw[Zu k7,if_pos k7]
   by_cases q:s.2.1=0
   ·rw[Zu q,Xae q,Xag];rfl
   ·rw[Zs q,decide_eq_false q,Xad]
  ·rw[Zs k7,if_neg k7]
end Go.AE.Y
