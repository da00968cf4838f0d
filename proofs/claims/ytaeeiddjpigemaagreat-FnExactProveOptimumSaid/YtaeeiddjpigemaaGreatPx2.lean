/-
  Plain laws of the models, in one text. No conditions.
-/
import Derived.Test.YtaeeiddjpigemaaGreatPx1
namespace Go.AE.Y
open Go Go.AE
def zS:ZJ:=(0,(0,(0,([],0))))
def HS (s:ZJ) (k k':Int):Prop:=s.1=k∧s.2.1=k+1∧s.2.2.1=k+1+1∧∃k1,HdL HT s.2.2.2.1 (k+1+1+1) k1∧s.2.2.2.2=k1∧k'=k1+1∧s.2.2.2.1.length≤4000000000
theorem HS.mono (s:ZJ) (k k':Int) (h:HS s k k'):k≤k':=by
 obtain⟨_,_,_,k1,h1,_,h2,_⟩:=h
 have:=HdL.mono HT.mono h1
 omega
def ZxK (a:List ZJ):Prop:=a.length≤1048576∧∀s∈a,ZuH s
theorem ZxC (a:List ZJ) (k:Int) (hk:0≤k∧k≤2400000000000000000) (h:ZxK a):∃r,Zin k a=some r∧HdL HS r.2 k r.1∧r.2.length=a.length∧k≤r.1∧r.1≤k+2097160*a.length:=by
 obtain⟨ha,hx⟩:=h
 unfold Zin
 refine Zm4 (f:=ZfK) HS zS 2097160 4000000000000000000 (by omega) a k ⟨hk.1,by omega⟩ (fun i a1 k1 h1 h2 e h3 h4=>?_) (fun a1 k1 h1=>?_)
 ·have hy:=hx _ (Zy (l:=a) (i:=i) (d:=zS) h1)
  rw[←e]at hy
  have es:∀v:ZJ,(a1.set i v).getD i (0,(0,(0,([],0))))=v:=fun v=>ZbL (by omega)
  unfold ZfK
  dsimp only
  rw[Zg (by omega)]
  unfold ZlS ZlT ZlU
  simp only[Int.toNat_natCast,List.set_set,es,List.length_set]
  change ZuH (a1.getD i (0,(0,(0,([],0)))))at hy
  generalize a1.getD i (0,(0,(0,([],0))))=b at hy ⊢
  unfold ZuH at hy
  obtain⟨r4,e4,p4,l4,m4,n4⟩:=ZwE b.2.2.2.1 (k1+1+1+1) ⟨by omega,by omega⟩ (by omega)
  rw[Zd ⟨by omega,by omega⟩,Zi (by omega) (by omega),Zd ⟨by omega,by omega⟩,Zi (by omega) (by omega),Zd ⟨by omega,by omega⟩,Zi (by omega) (by omega),Zd ⟨by omega,by omega⟩,e4,Zj,Zd ⟨by omega,by omega⟩,Zi (by omega) (by omega),Zi (by omega) (by omega)]
  exact⟨r4.1+1,_,rfl,⟨rfl,rfl,rfl,r4.1,p4,rfl,rfl,by show r4.2.length≤_;omega⟩,by omega,by omega⟩
 ·unfold ZfK
  dsimp only
  rw[Zf (by omega)]
theorem ZzN {a:List ZJ} {k k':Int} (h:HdL HS a k k') (hk:0≤k) (hk':k'≤8000000000000000000) (hl:a.length≤4000000000):ZeQ a k=some k':=by
 unfold ZeQ
 refine Zt3 zS 8000000000000000000 HS.mono a h hk hk' (fun i k1 k2 h1 hq h2 h3=>?_) (fun k1=>?_)
 ·unfold Zh1
  dsimp only
  rw[Zg (by omega),Zd ⟨by omega,by omega⟩,Int.toNat_natCast]
  change HS (a.getD i (0,(0,(0,([],0))))) k1 k2 at hq
  generalize a.getD i (0,(0,(0,([],0))))=b at hq ⊢
  obtain⟨q1,q2,q3,k3,q4,q5,q6,q7⟩:=hq
  have:=HdL.mono HT.mono q4
  rw[Zbi q1,Zi (by omega) (by omega),Zd ⟨by omega,by omega⟩,Zbi q2,Zi (by omega) (by omega),Zd ⟨by omega,by omega⟩,Zbi q3,Zi (by omega) (by omega),Zd ⟨by omega,by omega⟩,ZzO q4 (by omega) (by omega) q7,Zj,Zf (by omega),Zd ⟨by omega,by omega⟩,Zbi q5,Zi (by omega) (by omega),Zi (by omega) (by omega),q6]
 ·unfold Zh1
  dsimp only
  rw[Zf (by omega)]
theorem Zqm (a:List ZJ) (h:ZxK a):Zgv a a=some true:=by
 obtain⟨ha,hx⟩:=h
 unfold Zgv
 rw[bne_self_eq_false,cff]
 refine ZC (f:=Zke a a) (fun s:Int=>∃i:Nat,s=i∧i≤a.length) (fun s=>a.length - s.toNat) (fun _=>true) ?_ _ ⟨0,rfl,Nat.zero_le _⟩
 rintro s ⟨i,rfl,hi⟩
 unfold Zke
 rcases Nat.lt_or_ge i a.length with h5|h5
 ·left
  rw[Zg (by omega),Zd ⟨by omega,by omega⟩,Zd ⟨by omega,by omega⟩,Int.toNat_natCast,ZAR _ (hx _ (Zy h5)),Zj,cnt,Zi (by omega) (by omega)]
  exact⟨_,rfl,⟨i+1,by simp,by omega⟩,by omega,rfl⟩
 ·right
  rw[Zf (by omega)]
end Go.AE.Y
namespace Go.AE.Y
open Go Go.AE
def Zbo (l:List Int):List (Int×Int):=l.map (fun x=>(1,x))
theorem Zv8 (v:List Bool):∀(l:List Int) (a:Int),(Zbo l).foldl (fun a t=>bif ZO v t.2 then a+t.1 else a) a=a+(l.countP (ZO v):Nat)
 |[],a=>by simp[Zbo]
 |x::l,a=>by
  show (Zbo l).foldl _ (bif ZO v x then a+1 else a)=_
  rw[Zv8 v l,List.countP_cons]
  cases ZO v x with
  |true=>rw[ctt,if_pos rfl];omega
  |false=>rw[cff,if_neg (by decide)];omega
theorem Zyc (v:List Bool) (l:List Int):Zbn v (Zbo l,1)=l.any (ZO v):=by
 unfold Zbn ZfC
 rw[Zv8]
 cases hq:l.any (ZO v)with
 |true=>
  obtain⟨x,h1,h2⟩:=List.any_eq_true.1 hq
  have:=List.countP_pos_iff.2 ⟨x,h1,h2⟩
  exact decide_eq_true (by (try dsimp only)<;>omega)
 |false=>
  have:l.countP (ZO v)=0:=List.countP_eq_zero.2 (fun x hx=>by have:=List.any_eq_false.1 hq x hx;exact this)
  rw[this]
  rfl
theorem Zrg {v:List Bool} {x:Int} (h:x≠0):ZO v (0 - x) = !(ZO v x):=by
 have ev:vof (0 - x)=vof x:=by unfold vof;omega
 unfold ZO
 rw[ev]
 by_cases h1:0<x
 ·rw[decide_eq_true h1,decide_eq_false (show ¬0<0 - x by omega)]
  cases v.getD (vof x - 1).toNat false<;>rfl
 ·rw[decide_eq_false h1,decide_eq_true (show 0<0 - x by omega)]
  cases v.getD (vof x - 1).toNat false<;>rfl
theorem ZBi {v:List Bool}:∀{c:List Int},(∀x∈c,x≠0)→(Zbj c).any (ZO v) = !(c.all (ZO v))
 |[],_=>rfl
 |x::c,h=>by
  show (ZO v (0 - x)||(Zbj c).any (ZO v)) = !(ZO v x&&c.all (ZO v))
  rw[ZBi (fun y hy=>h y (List.mem_cons_of_mem _ hy)),Zrg (h x List.mem_cons_self)]
  cases ZO v x<;>rfl
theorem ZBh {l l':List Int} {p:Int→Bool} (h:∀x,x∈l↔x∈l'):l.any p=l'.any p:=by
 rw[Bool.eq_iff_iff,List.any_eq_true,List.any_eq_true]
 exact⟨fun ⟨x,h1,h2⟩=>⟨x,(h x).1 h1,h2⟩,fun ⟨x,h1,h2⟩=>⟨x,(h x).2 h1,h2⟩⟩
theorem ZAd {l:List Int} {i:Nat} (h:i<l.length):(Zbo l).getD i (0,0)=(1,l.getD i 0):=by
 unfold Zbo
 rw[List.getD_eq_getElem?_getD,List.getElem?_map,List.getElem?_eq_getElem h,List.getD_eq_getElem?_getD,List.getElem?_eq_getElem h]
 rfl
theorem ZtU {l:List Int} (h1:∀x∈l,Z8 x=true) (h2:l.Pairwise (fun x y=>vof x<vof y)):ZbG (Zbo l,1)=true:=by
 unfold ZbG
 have hl:(Zbo l).length=l.length:=List.length_map ..
 simp only[Bool.and_eq_true,List.all_eq_true]
 refine⟨fun i hi=>?_,rfl,rfl⟩
 have hi':i<l.length:=by rw[←hl];exact List.mem_range.1 hi
 unfold ZfS
 rw[ZAd hi']
 simp only[Bool.and_eq_true,Bool.or_eq_true,decide_eq_true_eq]
 refine⟨h1 _ (Zy hi'),⟨by omega,by omega⟩,?_⟩
 rcases Nat.lt_or_ge 0 i with q|q
 ·right
  rw[ZAd (show i - 1<l.length by omega)]
  have:=List.pairwise_iff_getElem.1 h2 (i - 1) i (by omega) hi' (by omega)
  rwa [List.getD_eq_getElem?_getD,List.getD_eq_getElem?_getD,List.getElem?_eq_getElem hi',List.getElem?_eq_getElem (show i - 1<l.length by omega)]
 ·left
  exact beq_iff_eq.2 (by omega)
end Go.AE.Y
namespace Go.AE.Y
open Go Go.AE
set_option maxHeartbeats 400000
def Ze1 (g:Nat→Int):Nat→Int
 |0=>0
 |n+1=>Ze1 g n+g n
theorem Zyq (g h:Nat→Int):∀n,Ze1 (fun i=>g i+h i) n=Ze1 g n+Ze1 h n
 |0=>rfl
 |n+1=>by unfold Ze1;rw[Zyq g h n];omega
theorem ZuK (c:Nat) (a:Int):∀n,Ze1 (fun i=>if i=c then a else 0) n=if c<n then a else 0
 |0=>by rw[if_neg (by omega)];rfl
 |n+1=>by
  unfold Ze1
  rw[ZuK c a n]
  by_cases q:c<n
  ·rw[if_pos q,if_neg (by omega),if_pos (by omega)];omega
  ·by_cases q2:n=c
   ·rw[if_neg q,if_pos q2,if_pos (by omega)];omega
   ·rw[if_neg q,if_neg q2,if_neg (by omega)];omega
theorem ZrD {g h:Nat→Int}:∀n,(∀i,i<n→g i=h i)→Ze1 g n=Ze1 h n
 |0,_=>rfl
 |n+1,e=>by unfold Ze1;rw[ZrD n (fun i hi=>e i (by omega)),e n (by omega)]
theorem Zv7 {g h:Nat→Int}:∀n,(∀i,i<n→g i≤h i)→Ze1 g n≤Ze1 h n
 |0,_=>Int.le_refl _
 |n+1,e=>by
  have:=Zv7 n (fun i hi=>e i (by omega))
  have:=e n (by omega)
  unfold Ze1
  omega
theorem ZAE {f:Nat→Int} {n:Nat}:∀l:List Nat,l.Nodup→(∀x∈l,x<n)→(l.map f).sum=Ze1 (fun i=>if i∈l then f i else 0) n
 |[],_,_=>by
  have:Ze1 (fun i=>if i∈([]:List Nat)then f i else 0) n=Ze1 (fun i=>if i=n then 0 else 0) n:=ZrD n (fun i hi=>by rw[if_neg List.not_mem_nil,if_neg (by omega)])
  rw[this,ZuK,if_neg (by omega)]
  rfl
 |c::l,hn,hx=>by
  rw[List.nodup_cons]at hn
  have e:Ze1 (fun i=>if i∈c::l then f i else 0) n=Ze1 (fun i=>(if i=c then f c else 0)+(if i∈l then f i else 0)) n:=ZrD n (fun i hi=>by
   by_cases q:i=c
   ·subst q
    rw[if_pos List.mem_cons_self,if_pos rfl,if_neg hn.1];omega
   ·by_cases q2:i∈l
    ·rw[if_pos (List.mem_cons_of_mem _ q2),if_neg q,if_pos q2];omega
    ·rw[if_neg (fun h=>(List.mem_cons.1 h).elim q q2),if_neg q,if_neg q2];omega)
  rw[e,Zyq,ZuK,if_pos (hx c List.mem_cons_self),List.map_cons,List.sum_cons,ZAE l hn.2 (fun x h=>hx x (List.mem_cons_of_mem _ h))]
theorem Zpd {α β:Type} {f:α→β} {l:List α} (h:∀a∈l,∀b∈l,f a=f b→a=b) (hn:l.Nodup):(l.map f).Nodup:=by
 induction l with
 |nil=>exact List.Pairwise.nil
 |cons a l ih=>
  rw[List.nodup_cons]at hn
  rw[List.map_cons,List.nodup_cons]
  refine⟨fun hm=>?_,ih (fun x hx y hy=>h x (List.mem_cons_of_mem _ hx) y (List.mem_cons_of_mem _ hy)) hn.2⟩
  obtain⟨b,hb,e⟩:=List.mem_map.1 hm
  have:=h b (List.mem_cons_of_mem _ hb) a List.mem_cons_self e
  rw[this]at hb
  exact hn.1 hb
def Zbh (m:Zr) (i k:Nat):Int:=1+(k:Int)+ZE m i
def trV (m:Zr) (v:List Bool) (i k:Nat):Bool:=v.getD ((k:Int)+ZE m i).toNat false
def Dec (m:Zr) (v:List Bool) (x:List Int):Prop:=ZX m x=true∧∀i,i<m.1.length→∀k:Nat,(k:Int)≤m.1.getD i 0→trV m v i k=decide (x.getD i 0=k)
theorem ZDu {m:Zr} (hm:Zx m=true) {i:Nat} (hi:i≤m.1.length):0≤ZE m i:=by
 have:=(ZiE hm i hi).1
 omega
theorem ZcN {m:Zr} (hm:Zx m=true) {i k:Nat} (hi:i<m.1.length) (hk:(k:Int)≤m.1.getD i 0):1≤Zbh m i k∧Zbh m i k≤ZE m (i+1)∧Zbh m i k≤12∧1+ZE m i≤Zbh m i k:=by
 have h0:=ZDu hm (Nat.le_of_lt hi)
 have h1:=(ZiE hm (i+1) (by omega)).2
 have h2:=Zhm (m:=m) hi
 unfold Zbh
 omega
theorem ZBI {m:Zr} (hm:Zx m=true) {i k:Nat} (hi:i<m.1.length) (hk:(k:Int)≤m.1.getD i 0):Z8 (Zbh m i k)=true∧vof (Zbh m i k)=Zbh m i k∧Z8 (0 - Zbh m i k)=true∧vof (0 - Zbh m i k)=Zbh m i k:=by
 have h:=ZcN hm hi hk
 refine⟨ZB.2 ⟨by omega,by omega,by omega⟩,by unfold vof;omega,ZB.2 ⟨by omega,by omega,by omega⟩,by unfold vof;omega⟩
theorem Zk2 {m:Zr} {v:List Bool} (hm:Zx m=true) {i k:Nat} (hi:i<m.1.length) (hk:(k:Int)≤m.1.getD i 0):ZO v (Zbh m i k)=trV m v i k:=by
 have h:=ZcN hm hi hk
 have hv:=(ZBI hm hi hk).2.1
 unfold ZO trV
 rw[hv,decide_eq_true (show 0<Zbh m i k by omega),show (Zbh m i k - 1).toNat=((k:Int)+ZE m i).toNat by unfold Zbh;omega]
 cases v.getD ((k:Int)+ZE m i).toNat false<;>rfl
theorem ZCP {m:Zr} {v:List Bool} (hm:Zx m=true) {i k:Nat} (hi:i<m.1.length) (hk:(k:Int)≤m.1.getD i 0):ZO v (0 - Zbh m i k) = !trV m v i k:=by
 have h:=ZcN hm hi hk
 rw[Zrg (by omega),Zk2 hm hi hk]
theorem Zsh {m:Zr} (hm:Zx m=true) {i k i' k':Nat} (hi:i<m.1.length) (hk:(k:Int)≤m.1.getD i 0) (hi':i'<m.1.length) (hk':(k':Int)≤m.1.getD i' 0) (h:Zbh m i k=Zbh m i' k'):i=i'∧k=k':=by
 have h1:=ZcN hm hi hk
 have h2:=ZcN hm hi' hk'
 have mono:∀a b,a<b→b≤m.1.length→ZE m (a+1)≤ZE m b:=fun a b hab hb=>by
  have:=Zx5 hm (a+1) (b - (a+1)) (by omega)
  rwa [show a+1+(b - (a+1))=b by omega]at this
 rcases Nat.lt_trichotomy i i' with q|q|q
 ·have:=mono i i' q (by omega)
  omega
 ·subst q
  unfold Zbh at h
  exact⟨rfl,by omega⟩
 ·have:=mono i' i q (by omega)
  omega
def Zh3 (vs:List Int):List (Int×Int)×Int:=(Zbo (Zbj vs),(vs.length:Int) - 1)
def ZhV (vs:List Int):List (Int×Int)×Int:=(Zbo (ZbO vs),1)
theorem Zx7 {v:List Bool}:∀vs:List Int,(∀x∈vs,x≠0)→(Zbj vs).countP (ZO v)+vs.countP (ZO v)=vs.length
 |[],_=>rfl
 |x::vs,h=>by
  have ih:=Zx7 (v:=v) vs (fun y hy=>h y (List.mem_cons_of_mem _ hy))
  have hx:=h x List.mem_cons_self
  show ((0 - x)::Zbj vs).countP (ZO v)+(x::vs).countP (ZO v)=_
  rw[List.countP_cons,List.countP_cons,Zrg hx,List.length_cons]
  cases ZO v x with
  |true=>simp;omega
  |false=>simp;omega
theorem ZwG {v:List Bool} {vs:List Int} (h:∀x∈vs,x≠0):Zbn v (Zh3 vs)=decide (vs.countP (ZO v)≤1):=by
 have h1:=Zx7 (v:=v) vs h
 have h2:ZfC v (Zbo (Zbj vs))=((Zbj vs).countP (ZO v):Nat):=by
  unfold ZfC
  rw[Zv8]
  omega
 unfold Zbn Zh3
 dsimp only
 rw[h2,decide_eq_decide]
 omega
theorem Zwj {v:List Bool} {vs:List Int} (h:Zch vs=true):Zbn v (ZhV vs)=vs.any (ZO v):=by
 unfold ZhV
 rw[Zyc,ZBh (Zm3 h)]
theorem Zmk {α:Type} {p:α→Bool} {l:List α} (hn:l.Nodup):l.countP p≤1↔∀x∈l,∀y∈l,p x=true→p y=true→x=y:=by
 induction l with
 |nil=>exact⟨fun _ x hx=>absurd hx List.not_mem_nil,fun _=>Nat.zero_le _⟩
 |cons a l ih=>
  rw[List.nodup_cons]at hn
  rw[List.countP_cons]
  constructor
  ·intro h x hx y hy px py
   by_cases pa:p a=true
   ·rw[if_pos pa]at h
    have hz:l.countP p=0:=by omega
    have hno:=List.countP_eq_zero.1 hz
    rcases List.mem_cons.1 hx with rfl|hx
    ·rcases List.mem_cons.1 hy with rfl|hy
     ·rfl
     ·exact absurd py (hno y hy)
    ·exact absurd px (hno x hx)
   ·rw[if_neg pa]at h
    rcases List.mem_cons.1 hx with rfl|hx
    ·exact absurd px pa
    ·rcases List.mem_cons.1 hy with rfl|hy
     ·exact absurd py pa
     ·exact(ih hn.2).1 (by omega) x hx y hy px py
  ·intro h
   by_cases pa:p a=true
   ·rw[if_pos pa]
    have:l.countP p=0:=List.countP_eq_zero.2 (fun y hy py=>by
     have:=h a List.mem_cons_self y (List.mem_cons_of_mem _ hy) pa py
     rw[this]at hn
     exact hn.1 hy)
    omega
   ·rw[if_neg pa]
    have:=(ih hn.2).2 (fun x hx y hy=>h x (List.mem_cons_of_mem _ hx) y (List.mem_cons_of_mem _ hy))
    omega
def Zdk (m:Zr) (i:Nat):Nat:=(m.1.getD i 0+1).toNat
def Zc0 (m:Zr) (i:Nat):List Int:=(List.range (Zdk m i)).map (Zbh m i)
def Zli (m:Zr) (i:Nat):List (List (Int×Int)×Int):=[ZhV (Zc0 m i),Zh3 (Zc0 m i)]
theorem ZeG {m:Zr} (hm:Zx m=true) {i k:Nat} (hi:i<m.1.length):k<Zdk m i↔(k:Int)≤m.1.getD i 0:=by
 have:=Zeu hm hi
 unfold Zdk
 omega
theorem ZsY {m:Zr} (hm:Zx m=true) {i:Nat} (hi:i<m.1.length):Zch (Zc0 m i)=true∧(Zc0 m i).Nodup∧(∀x∈Zc0 m i,x≠0)∧1≤(Zc0 m i).length∧(Zc0 m i).length≤4:=by
 have hs:=Zeu hm hi
 have hroom:∀x∈Zc0 m i,1≤x∧x≤12:=fun x hx=>by
  obtain⟨k,hk,rfl⟩:=List.mem_map.1 hx
  have:=ZcN hm hi ((ZeG hm hi).1 (List.mem_range.1 hk))
  omega
 refine⟨?_,?_,fun x hx=>by have:=hroom x hx;omega,?_,?_⟩
 ·unfold Zch
  rw[Bool.and_eq_true,List.all_eq_true,List.all_eq_true]
  refine⟨fun x hx=>ZB.2 (by have:=hroom x hx;omega),fun x hx=>?_⟩
  rw[Bool.not_eq_true',List.any_eq_false]
  intro y hy e
  have:=hroom x hx
  have:=hroom y hy
  have:=beq_iff_eq.1 e
  omega
 ·unfold Zc0
  refine Zpd (fun a _ b _ e=>?_) List.nodup_range
  unfold Zbh at e
  omega
 ·unfold Zc0 Zdk
  rw[List.length_map,List.length_range]
  omega
 ·unfold Zc0 Zdk
  rw[List.length_map,List.length_range]
  omega
theorem Zzr {m:Zr} {v:List Bool} (hm:Zx m=true) {i:Nat} (hi:i<m.1.length):(∀c∈Zli m i,Zbn v c=true)↔∃k:Nat,(k:Int)≤m.1.getD i 0∧∀k':Nat,(k':Int)≤m.1.getD i 0→trV m v i k'=decide (k'=k):=by
 obtain⟨v1,v2,v3,_⟩:=ZsY hm hi
 have hmem:∀k:Nat,(k:Int)≤m.1.getD i 0→Zbh m i k∈Zc0 m i:=fun k hk=>List.mem_map.2 ⟨k,List.mem_range.2 ((ZeG hm hi).2 hk),rfl⟩
 have hcl:Zbn v (ZhV (Zc0 m i))=(Zc0 m i).any (ZO v):=Zwj v1
 have hmo:Zbn v (Zh3 (Zc0 m i))=decide ((Zc0 m i).countP (ZO v)≤1):=ZwG v3
 constructor
 ·intro h
  have h1:=h _ List.mem_cons_self
  have h2:=h _ (List.mem_cons_of_mem _ List.mem_cons_self)
  rw[hcl,List.any_eq_true]at h1
  rw[hmo,decide_eq_true_eq,Zmk v2]at h2
  obtain⟨x,hx,px⟩:=h1
  obtain⟨k,hk,rfl⟩:=List.mem_map.1 hx
  have hk:=(ZeG hm hi).1 (List.mem_range.1 hk)
  refine⟨k,hk,fun k' hk'=>?_⟩
  by_cases e:k'=k
  ·subst e
   rw[decide_eq_true rfl,←Zk2 hm hi hk]
   exact px
  ·rw[decide_eq_false e,←Zk2 hm hi hk']
   cases q:ZO v (Zbh m i k')with
   |false=>rfl
   |true=>
    have:=h2 _ (hmem k' hk') _ (hmem k hk) q px
    exact absurd (Zsh hm hi hk' hi hk this).2 e
 ·rintro⟨k,hk,h⟩ c hc
  have hk1:ZO v (Zbh m i k)=true:=by rw[Zk2 hm hi hk,h k hk,decide_eq_true rfl]
  rcases List.mem_cons.1 hc with rfl|hc
  ·rw[hcl,List.any_eq_true]
   exact⟨_,hmem k hk,hk1⟩
  ·rw[List.mem_singleton]at hc
   subst hc
   rw[hmo,decide_eq_true_eq,Zmk v2]
   intro x hx y hy px py
   obtain⟨a,ha,rfl⟩:=List.mem_map.1 hx
   obtain⟨b,hb,rfl⟩:=List.mem_map.1 hy
   have ha:=(ZeG hm hi).1 (List.mem_range.1 ha)
   have hb:=(ZeG hm hi).1 (List.mem_range.1 hb)
   rw[Zk2 hm hi ha,h a ha,decide_eq_true_eq]at px
   rw[Zk2 hm hi hb,h b hb,decide_eq_true_eq]at py
   rw[px,py]
theorem ZCA {m:Zr} {v:List Bool} {x:List Int} (hm:Zx m=true) (h:Dec m v x):∀i,i<m.1.length→∀c∈Zli m i,Zbn v c=true:=fun i hi=>by
 obtain⟨h1,h2⟩:=h
 obtain⟨x1,x2⟩:=ZcT h1
 have hx:=x2 i (by omega)
 refine(Zzr hm hi).2 ⟨(x.getD i 0).toNat,by omega,fun k' hk'=>?_⟩
 rw[h2 i hi k' hk',decide_eq_decide]
 omega
theorem ZCv {m:Zr} {v:List Bool} (hm:Zx m=true) (h:∀i,i<m.1.length→∀c∈Zli m i,Zbn v c=true):∃x,Dec m v x:=by
 have hk:∀i,i<m.1.length→∃k:Nat,(k:Int)≤m.1.getD i 0∧∀k':Nat,(k':Int)≤m.1.getD i 0→trV m v i k'=decide (k'=k):=fun i hi=>(Zzr hm hi).1 (h i hi)
 let g:Nat→Nat:=fun i=>if hi:i<m.1.length then Classical.choose (hk i hi)else 0
 have hg:∀i,i<m.1.length→(g i:Int)≤m.1.getD i 0∧∀k':Nat,(k':Int)≤m.1.getD i 0→trV m v i k'=decide (k'=g i):=fun i hi=>by
  have e:g i=Classical.choose (hk i hi):=dif_pos hi
  rw[e]
  exact Classical.choose_spec (hk i hi)
 refine⟨(List.range m.1.length).map (fun i=>(g i:Int)),?_,fun i hi k hk'=>?_⟩
 ·unfold ZX cellAt
  simp only[Bool.and_eq_true,decide_eq_true_eq,List.length_map,List.length_range,List.all_eq_true,List.mem_range,true_and]
  intro i hi
  rw[ZmL (d:=0) (h:=by rw[List.length_range];exact hi)]
  have e:(List.range m.1.length).getD i 0=i:=by rw[List.getD_eq_getElem?_getD,List.getElem?_range hi];rfl
  rw[e]
  exact⟨by omega,(hg i hi).1⟩
 ·rw[(hg i hi).2 k hk',ZmL (d:=0) (h:=by rw[List.length_range];exact hi)]
  have e:(List.range m.1.length).getD i 0=i:=by rw[List.getD_eq_getElem?_getD,List.getElem?_range hi];rfl
  rw[e,decide_eq_decide]
  omega
end Go.AE.Y
namespace Go.AE.Y
open Go Go.AE
abbrev Zu:=List (List (Int×Int)×Int)
def OkP (p:List Int):Prop:=p.length=12∧∀j,p.getD j 0=0∨p.getD j 0=1∨p.getD j 0 = -1
def agP (p:List Int) (v:List Bool):Prop:=∀j,p.getD j 0≠0→v.getD j false=decide (0<p.getD j 0)
def unZ (l:Int) (p:List Int):Int:=if l<0 then 0 - p.getD (0 - l - 1).toNat 0 else p.getD (l - 1).toNat 0
def ZeT (L:Zu) (v:List Bool):Prop:=∀c∈L,Zbn v c=true
def Zdd (L:Zu):Prop:=∀c∈L,ZbG c=true∧c.1.length≤1048576
theorem ZpG {l:Int} {p:List Int} (hl:Z8 l=true) (hp:OkP p):Zlp l p=some (unZ l p):=by
 have h:=ZB.1 hl
 obtain⟨h12,hv⟩:=hp
 unfold Zlp unZ
 by_cases q:l<0
 ·have:=hv (0 - l - 1).toNat
  rw[Zg q,if_pos q,Zi (by omega) (by omega),Zi (by omega) (by omega),Zd ⟨by omega,by omega⟩,Zi (by omega) (by omega)]
 ·rw[Zf q,if_neg q,Zi (by omega) (by omega),Zd ⟨by omega,by omega⟩]
theorem ZBH {l:Int} {p:List Int} {v:List Bool} (hl:Z8 l=true) (hp:OkP p) (ha:agP p v):(unZ l p<0→ZO v l=false)∧(0<unZ l p→ZO v l=true):=by
 have h:=ZB.1 hl
 unfold unZ ZO
 by_cases q:l<0
 ·rw[if_pos q,show vof l=0 - l by unfold vof;omega,decide_eq_false (show ¬0<l by omega)]
  have h1:=ha (0 - l - 1).toNat
  have h2:=hp.2 (0 - l - 1).toNat
  constructor
  ·intro h3
   rw[h1 (by omega),decide_eq_true (by omega)]
   rfl
  ·intro h3
   rw[h1 (by omega),decide_eq_false (by omega)]
   rfl
 ·rw[if_neg q,show vof l=l by unfold vof;omega,decide_eq_true (show 0<l by omega)]
  have h1:=ha (l - 1).toNat
  constructor
  ·intro h3
   rw[h1 (by omega),decide_eq_false (by omega)]
   rfl
  ·intro h3
   rw[h1 (by omega),decide_eq_true (by omega)]
   rfl
def Zc3 (c:List (Int×Int)) (p:List Int):Nat→Int
 |0=>0
 |n+1=>Zc3 c p n+(if 0≤unZ (c.getD n (0,0)).2 p then(c.getD n (0,0)).1 else 0)
def ZoP (c:List (Int×Int)) (v:List Bool):Nat→Int
 |0=>0
 |n+1=>ZoP c v n+(if ZO v (c.getD n (0,0)).2=true then(c.getD n (0,0)).1 else 0)
theorem ZBF (c:List (Int×Int)) (v:List Bool):∀n,n≤c.length→ZfC v (c.take n)=ZoP c v n
 |0,_=>rfl
 |n+1,h=>by
  have ih:=ZBF c v n (by omega)
  unfold ZfC at ih ⊢
  rw[List.take_add_one,List.getElem?_eq_getElem (show n<c.length by omega),List.foldl_append,ih]
  have e2:ZoP c v (n+1)=ZoP c v n+(if ZO v (c.getD n (0,0)).2=true then(c.getD n (0,0)).1 else 0):=rfl
  have e:c.getD n (0,0)=c[n]:=by rw[List.getD_eq_getElem?_getD,List.getElem?_eq_getElem (show n<c.length by omega)];rfl
  rw[e2,e]
  show (bif ZO v c[n].2 then ZoP c v n+c[n].1 else ZoP c v n)=_
  cases ZO v c[n].2 with
  |true=>rw[ctt,if_pos rfl]
  |false=>rw[cff,if_neg (by decide)];omega
theorem Znx {c:List (Int×Int)×Int} (h:ZbG c=true):(0≤c.2∧c.2≤20000)∧∀i,i<c.1.length→Z8 (c.1.getD i (0,0)).2=true∧1≤(c.1.getD i (0,0)).1∧(c.1.getD i (0,0)).1≤1000:=by
 have h2:=ZBS h
 unfold ZbG at h
 simp only[Bool.and_eq_true,decide_eq_true_eq]at h
 exact⟨h.2,fun i hi=>⟨ZB.2 (h2 i hi).1,(h2 i hi).2⟩⟩
theorem ZsO {c:List (Int×Int)×Int} (h:ZbG c=true) (p:List Int):∀n:Nat,n≤c.1.length→0≤Zc3 c.1 p n∧Zc3 c.1 p n≤1000*n
 |0,_=>⟨Int.le_refl _,Int.le_refl _⟩
 |n+1,hn=>by
  have ih:=ZsO h p n (by omega)
  have:=(Znx h).2 n (by omega)
  unfold Zc3
  split<;>omega
theorem Zjn {c:List (Int×Int)×Int} {p:List Int} (hc:ZbG c=true) (hl:c.1.length≤1048576) (hp:OkP p):Zdb c p=some (Zc3 c.1 p c.1.length - c.2):=by
 obtain⟨c1,c2⟩:=Znx hc
 unfold Zdb
 rw[Zi (by omega) (by omega)]
 refine ZC (f:=Zed c p) (fun s:Int×Int=>∃n:Nat,s.2=n∧n≤c.1.length∧s.1=Zc3 c.1 p n - c.2) (fun s=>c.1.length - s.2.toNat) (fun _=>Zc3 c.1 p c.1.length - c.2) ?_ _ ⟨0,rfl,Nat.zero_le _,by show 0 - c.2=0 - c.2;rfl⟩
 rintro⟨o,s⟩ ⟨n,hs,hn,ho⟩
 dsimp only at hs ho ⊢
 subst hs
 subst ho
 have hb:=ZsO hc p n hn
 unfold Zed
 dsimp only
 rcases Nat.lt_or_ge n c.1.length with h1|h1
 ·left
  obtain⟨l1,l2,l3⟩:=c2 n h1
  rw[Zg (by omega),Zd ⟨by omega,by omega⟩,Int.toNat_natCast,ZpG l1 hp,Zj]
  by_cases q:0≤unZ (c.1.getD n (0,0)).2 p
  ·rw[Zg q,Zi (by omega) (by omega),Zi (by omega) (by omega)]
   refine⟨_,rfl,⟨n+1,by simp,by omega,?_⟩,by (try dsimp only)<;>omega,rfl⟩
   dsimp only
   conv=>rhs;unfold Zc3
   rw[if_pos q]
   omega
  ·rw[Zf q,Zi (by omega) (by omega)]
   refine⟨_,rfl,⟨n+1,by simp,by omega,?_⟩,by (try dsimp only)<;>omega,rfl⟩
   dsimp only
   conv=>rhs;unfold Zc3
   rw[if_neg q]
   omega
 ·right
  have:n=c.1.length:=by omega
  rw[Zf (by omega),this]
theorem Zu6 {c:List (Int×Int)×Int} {p:List Int} {v:List Bool} (hc:ZbG c=true) (hp:OkP p) (ha:agP p v):∀n,n≤c.1.length→ZoP c.1 v n≤Zc3 c.1 p n∧∀i,i<n→0≤unZ (c.1.getD i (0,0)).2 p→ZO v (c.1.getD i (0,0)).2=false→ZoP c.1 v n+(c.1.getD i (0,0)).1≤Zc3 c.1 p n
 |0,_=>⟨Int.le_refl _,fun i hi=>by omega⟩
 |n+1,hn=>by
  obtain⟨i1,i2⟩:=Zu6 hc hp ha n (by omega)
  obtain⟨l1,l2,l3⟩:=(Znx hc).2 n (by omega)
  obtain⟨u1,u2⟩:=ZBH l1 hp ha
  have e1:Zc3 c.1 p (n+1)=Zc3 c.1 p n+(if 0≤unZ (c.1.getD n (0,0)).2 p then(c.1.getD n (0,0)).1 else 0):=rfl
  have e2:ZoP c.1 v (n+1)=ZoP c.1 v n+(if ZO v (c.1.getD n (0,0)).2=true then(c.1.getD n (0,0)).1 else 0):=rfl
  have hle:(if ZO v (c.1.getD n (0,0)).2=true then(c.1.getD n (0,0)).1 else 0)≤(if 0≤unZ (c.1.getD n (0,0)).2 p then(c.1.getD n (0,0)).1 else 0):=by
   by_cases q:0≤unZ (c.1.getD n (0,0)).2 p
   ·rw[if_pos q]
    split<;>omega
   ·rw[if_neg q,u1 (by omega),if_neg (by decide)]
    omega
  refine⟨by omega,fun i hi h1 h2=>?_⟩
  rcases Nat.lt_or_ge i n with h3|h3
  ·have:=i2 i h3 h1 h2
   omega
  ·have:i=n:=by omega
   subst this
   rw[e1,e2,if_pos h1,h2,if_neg (by decide)]
   omega
theorem Zq6 (v:List Bool) (c:List (Int×Int)×Int):Zbn v c=true↔c.2≤ZoP c.1 v c.1.length:=by
 unfold Zbn
 rw[decide_eq_true_eq,←ZBF c.1 v c.1.length (Nat.le_refl _),List.take_length]
theorem ZuG {c:List (Int×Int)×Int} {p:List Int} {v:List Bool} (hc:ZbG c=true) (hp:OkP p) (ha:agP p v) (h:Zc3 c.1 p c.1.length - c.2<0):¬Zbn v c=true:=by
 rw[Zq6]
 have:=(Zu6 hc hp ha c.1.length (Nat.le_refl _)).1
 omega
theorem ZC4 {c:List (Int×Int)×Int} {p:List Int} {v:List Bool} (hc:ZbG c=true) (hp:OkP p) (ha:agP p v) (ht:∀j,j<12→p.getD j 0≠0) (h:0≤Zc3 c.1 p c.1.length - c.2):Zbn v c=true:=by
 rw[Zq6]
 have key:∀n,n≤c.1.length→ZoP c.1 v n=Zc3 c.1 p n:=by
  intro n
  induction n with
  |zero=>intro _;rfl
  |succ n ih=>
   intro hn
   obtain⟨l1,l2,l3⟩:=(Znx hc).2 n (by omega)
   obtain⟨u1,u2⟩:=ZBH l1 hp ha
   have hl:=ZB.1 l1
   have hne:unZ (c.1.getD n (0,0)).2 p≠0:=by
    unfold unZ
    split
    ·have:=ht (0 - (c.1.getD n (0,0)).2 - 1).toNat (by omega)
     omega
    ·exact ht _ (by omega)
   unfold ZoP Zc3
   rw[ih (by omega)]
   by_cases q:0≤unZ (c.1.getD n (0,0)).2 p
   ·rw[if_pos q,u2 (by omega),if_pos rfl]
   ·rw[if_neg q,u1 (by omega),if_neg (by decide)]
 rw[key _ (Nat.le_refl _)]
 omega
theorem Zrb {c:List (Int×Int)×Int} {p:List Int} (hc:ZbG c=true) (hl:c.1.length≤1048576) (hp:OkP p):∃o,Zb8 c p=some o∧o.length≤1048576∧∀l∈o,Z8 l=true∧unZ l p=0∧∀v,agP p v→Zbn v c=true→ZO v l=true:=by
 obtain⟨c1,c2⟩:=Znx hc
 unfold Zb8
 rw[Zjn hc hl hp,Zj]
 refine Zdv (f:=Zc2 c p (Zc3 c.1 p c.1.length - c.2)) (fun s:Int×List Int=>∃n:Nat,s.1=n∧n≤c.1.length∧s.2.length≤n∧∀l∈s.2,Z8 l=true∧unZ l p=0∧∀v,agP p v→Zbn v c=true→ZO v l=true) (fun s=>c.1.length - s.1.toNat) (fun o=>o.length≤1048576∧∀l∈o,Z8 l=true∧unZ l p=0∧∀v,agP p v→Zbn v c=true→ZO v l=true) ?_ _ ⟨0,rfl,Nat.zero_le _,Nat.le_refl _,fun l h=>absurd h List.not_mem_nil⟩
 rintro⟨s,o⟩ ⟨n,hs,hn,ho,hall⟩
 dsimp only at hs ho hall ⊢
 subst hs
 unfold Zc2
 dsimp only
 rcases Nat.lt_or_ge n c.1.length with h1|h1
 ·left
  obtain⟨l1,l2,l3⟩:=c2 n h1
  rw[Zg (by omega),Zd ⟨by omega,by omega⟩,Int.toNat_natCast,ZpG l1 hp,Zj]
  by_cases q:unZ (c.1.getD n (0,0)).2 p=0
  ·rw[ZI q]
   by_cases q2:Zc3 c.1 p c.1.length - c.2<(c.1.getD n (0,0)).1
   ·rw[Zg q2,Zd (by simp[Zp];omega),Zi (by omega) (by omega)]
    refine⟨_,rfl,⟨n+1,by simp,by omega,by simp;omega,fun l h=>?_⟩,by (try dsimp only)<;>omega⟩
    rcases List.mem_append.1 h with h|h
    ·exact hall l h
    ·rw[List.mem_singleton]at h
     subst h
     refine⟨l1,q,fun v ha he=>?_⟩
     cases hb:ZO v (c.1.getD n (0,0)).2 with
     |true=>rfl
     |false=>
      have:=(Zu6 hc hp ha c.1.length (Nat.le_refl _)).2 n h1 (by omega) hb
      have:=(Zq6 v c).1 he
      omega
   ·rw[Zf q2,Zi (by omega) (by omega)]
    exact⟨_,rfl,⟨n+1,by simp,by omega,by (try dsimp only)<;>omega,hall⟩,by (try dsimp only)<;>omega⟩
  ·rw[ZD q,Zi (by omega) (by omega)]
   exact⟨_,rfl,⟨n+1,by simp,by omega,by (try dsimp only)<;>omega,hall⟩,by (try dsimp only)<;>omega⟩
 ·right
  rw[Zf (by omega)]
  exact⟨_,rfl,by omega,hall⟩
def ZdM (l:Int) (p:List Int):List Int:=if 0<l then p.set (l - 1).toNat 1 else p.set (0 - l - 1).toNat (-1)
def zcN (p:List Int):Nat→Nat
 |0=>0
 |n+1=>zcN p n+(if p.getD n 0=0 then 1 else 0)
theorem Zx1 {p:List Int} {j:Nat} {x:Int} (hj:j<p.length) (hx:x≠0):∀n,zcN (p.set j x) n+(if j<n∧p.getD j 0=0 then 1 else 0)=zcN p n
 |0=>by simp[zcN]
 |n+1=>by
  have ih:=Zx1 hj hx n
  have e1:zcN (p.set j x) (n+1)=zcN (p.set j x) n+(if (p.set j x).getD n 0=0 then 1 else 0):=rfl
  have e2:zcN p (n+1)=zcN p n+(if p.getD n 0=0 then 1 else 0):=rfl
  rw[e1,e2]
  by_cases q:j=n
  ·subst q
   have hA:(if (p.set j x).getD j 0=0 then 1 else 0)=0:=if_neg (by rw[ZbL hj];exact hx)
   have hB:(if j<j∧p.getD j 0=0 then 1 else 0)=0:=if_neg (fun h=>absurd h.1 (by omega))
   rw[hB]at ih
   by_cases q2:p.getD j 0=0
   ·have hC:(if j<j+1∧p.getD j 0=0 then 1 else 0)=1:=if_pos ⟨by omega,q2⟩
    rw[hA,hC,if_pos q2]
    omega
   ·have hC:(if j<j+1∧p.getD j 0=0 then 1 else 0)=0:=if_neg (fun h=>q2 h.2)
    rw[hA,hC,if_neg q2]
    omega
  ·rw[ZN q]
   by_cases q2:j<n∧p.getD j 0=0
   ·have hC:(if j<n+1∧p.getD j 0=0 then 1 else 0)=1:=if_pos ⟨by omega,q2.2⟩
    rw[if_pos q2]at ih
    rw[hC]
    omega
   ·have hC:(if j<n+1∧p.getD j 0=0 then 1 else 0)=0:=if_neg (fun h=>q2 ⟨by omega,h.2⟩)
    rw[if_neg q2]at ih
    rw[hC]
    omega
theorem ZxJ {l:Int} {p:List Int} (hl:Z8 l=true) (hp:OkP p):OkP (ZdM l p)∧(∀v,agP p v→ZO v l=true→agP (ZdM l p) v)∧zcN (ZdM l p) 12≤zcN p 12∧(unZ l p=0→zcN (ZdM l p) 12+1=zcN p 12)∧(∀j,(ZdM l p).getD j 0=0→p.getD j 0=0)∧∀j,(ZdM l p).getD j 0=if (j:Int)+1=vof l then(if 0<l then 1 else -1)else p.getD j 0:=by
 have h:=ZB.1 hl
 obtain⟨h12,hv⟩:=hp
 unfold ZdM unZ
 by_cases q:0<l
 ·rw[if_pos q,if_neg (show ¬l<0 by omega)]
  have hj:(l - 1).toNat<p.length:=by omega
  have hz:=Zx1 (p:=p) (x:=1) hj (by decide) 12
  have hg:∀j,(p.set (l - 1).toNat 1).getD j 0=if (j:Int)+1=vof l then 1 else p.getD j 0:=fun j=>by
   have:vof l=l:=by unfold vof;omega
   rw[this]
   by_cases e:(l - 1).toNat=j
   ·rw[←e,ZbL hj,if_pos (by omega)]
   ·rw[ZN e,if_neg (by omega)]
  refine⟨⟨by rw[List.length_set];exact h12,fun j=>?_⟩,fun v ha hb j hne=>?_,?_,fun h0=>?_,fun j h0=>?_,fun j=>by rw[if_pos q];exact hg j⟩
  ·rw[hg]
   split
   ·exact Or.inr (Or.inl rfl)
   ·exact hv j
  ·rw[hg]at hne ⊢
   split
   ·rename_i e
    rw[if_pos e]at hne
    unfold ZO at hb
    rw[beq_iff_eq,decide_eq_true q,show (vof l - 1).toNat=j by omega]at hb
    rw[hb]
    rfl
   ·rename_i e
    rw[if_neg e]at hne
    exact ha j hne
  ·split at hz<;>omega
  ·rw[if_pos ⟨by omega,h0⟩]at hz
   exact hz
  ·rw[hg]at h0
   split at h0
   ·omega
   ·exact h0
 ·rw[if_neg q,if_pos (show l<0 by omega)]
  have hj:(0 - l - 1).toNat<p.length:=by omega
  have hz:=Zx1 (p:=p) (x:=-1) hj (by decide) 12
  have hg:∀j,(p.set (0 - l - 1).toNat (-1)).getD j 0=if (j:Int)+1=vof l then -1 else p.getD j 0:=fun j=>by
   have:vof l=0 - l:=by unfold vof;omega
   rw[this]
   by_cases e:(0 - l - 1).toNat=j
   ·rw[←e,ZbL hj,if_pos (by omega)]
   ·rw[ZN e,if_neg (by omega)]
  refine⟨⟨by rw[List.length_set];exact h12,fun j=>?_⟩,fun v ha hb j hne=>?_,?_,fun h0=>?_,fun j h0=>?_,fun j=>by rw[if_neg q];exact hg j⟩
  ·rw[hg]
   split
   ·exact Or.inr (Or.inr rfl)
   ·exact hv j
  ·rw[hg]at hne ⊢
   split
   ·rename_i e
    rw[if_pos e]at hne
    unfold ZO at hb
    rw[beq_iff_eq,decide_eq_false q,show (vof l - 1).toNat=j by omega]at hb
    rw[hb]
    rfl
   ·rename_i e
    rw[if_neg e]at hne
    exact ha j hne
  ·split at hz<;>omega
  ·rw[if_pos ⟨by omega,by omega⟩]at hz
   exact hz
  ·rw[hg]at h0
   split at h0
   ·omega
   ·exact h0
end Go.AE.Y
namespace Go.AE.Y
open Go Go.AE
set_option maxHeartbeats 400000
abbrev Zvw:=List (Int×Int)×Int
def ofR (r:ZDp):Zvw:=(r.2.2,r.2.1)
theorem Zz7 {net:List Int} {b:Int} (h:(Zcz net b).1=true):ofR (Zcz net b)=(Zci net 12,max 0 (Z5 net b 12))∧ZbG (ofR (Zcz net b))=true:=by
 unfold Zcz at h ⊢
 cases q:ZbG (Zci net 12,max 0 (Z5 net b 12))with
 |true=>rw[ctt];exact⟨rfl,q⟩
 |false=>rw[q,cff]at h;cases h
end Go.AE.Y
namespace Go.AE.Y
open Go Go.AE
set_option maxHeartbeats 400000
def Zm9 (L:Zu) (p:List Int):Prop:=∀c∈L,0≤Zc3 c.1 p c.1.length - c.2
theorem ZAk {c:List (Int×Int)×Int} {o5 r9:List Int} (hp:OkP o5) (hr:r9.length≤1048576) (h9:∀l∈r9,Z8 l=true∧unZ l o5=0∧∀v,agP o5 v→Zbn v c=true→ZO v l=true) (m4:Bool) {i3:Int} (hi:0≤i3∧i3≤2000000) :
  ∃md out,loop (ZdD i3 r9) (m4,(0:Int),o5)=some (.inl (md,i3+1,out))∧OkP out∧(∀v,agP o5 v→Zbn v c=true→agP out v)∧(∀j,out.getD j 0=0→o5.getD j 0=0)∧((md=m4∧out=o5)∨(md=true∧zcN out 12<zcN o5 12)):=by
 have key:=Zdv (f:=ZdD i3 r9) (fun s:Bool×Int×List Int=>∃n:Nat,s.2.1=n∧n≤r9.length∧OkP s.2.2∧(∀v,agP o5 v→Zbn v c=true→agP s.2.2 v)∧(∀j,s.2.2.getD j 0=0→o5.getD j 0=0)∧((n=0∧s.1=m4∧s.2.2=o5)∨(s.1=true∧zcN s.2.2 12<zcN o5 12))) (fun s=>r9.length - s.2.1.toNat)
  (fun r=>∃md out,r = .inl (md,i3+1,out)∧OkP out∧(∀v,agP o5 v→Zbn v c=true→agP out v)∧(∀j,out.getD j 0=0→o5.getD j 0=0)∧((md=m4∧out=o5)∨(md=true∧zcN out 12<zcN o5 12))) ?_ (m4,(0:Int),o5) ⟨0,rfl,Nat.zero_le _,hp,fun v h _=>h,fun j h=>h,Or.inl ⟨rfl,rfl,rfl⟩⟩
 ·obtain⟨r,e,md,out,rfl,h⟩:=key
  exact⟨md,out,e,h⟩
 rintro⟨md,s,o⟩ ⟨n,hs,hn,ho,ha,hz,hc⟩
 dsimp only at hs ho ha hz hc ⊢
 subst hs
 unfold ZdD
 dsimp only
 rcases Nat.lt_or_ge n r9.length with h1|h1
 ·left
  obtain⟨l1,l2,l3⟩:=h9 _ (Zy (l:=r9) (i:=n) (d:=0) h1)
  have hl:=ZB.1 l1
  obtain⟨s1,s2,s3,s4,s5,_⟩:=ZxJ l1 ho
  have ho12:=ho.1
  have hz0:zcN (ZdM (r9.getD n 0) o) 12<zcN o5 12:=by
   rcases hc with⟨h0,_,h2⟩|⟨_,h2⟩
   ·subst h2
    have:=s4 l2
    omega
   ·omega
  have inv:∃n':Nat,((n:Int)+1)=n'∧n'≤r9.length∧OkP (ZdM (r9.getD n 0) o)∧(∀v,agP o5 v→Zbn v c=true→agP (ZdM (r9.getD n 0) o) v)∧(∀j,(ZdM (r9.getD n 0) o).getD j 0=0→o5.getD j 0=0)∧((n'=0∧true=m4∧ZdM (r9.getD n 0) o=o5)∨(true=true∧zcN (ZdM (r9.getD n 0) o) 12<zcN o5 12)):=
   ⟨n+1,by simp,by omega,s1,fun v h1 h2=>s2 v (ha v h1 h2) (l3 v h1 h2),fun j h=>hz j (s5 j h),Or.inr ⟨rfl,hz0⟩⟩
  rw[Zg (by omega),Zd ⟨by omega,by omega⟩,Int.toNat_natCast]
  refine⟨(true,(n:Int)+1,ZdM (r9.getD n 0) o),?_,inv,by (try dsimp only)<;>omega⟩
  unfold ZdM
  by_cases q:0<r9.getD n 0
  ·rw[Zg q,if_pos q,Zi (by omega) (by omega),Zd ⟨by omega,by omega⟩,Zi (by omega) (by omega)]
  ·rw[Zf q,if_neg q,Zi (by omega) (by omega),Zi (by omega) (by omega),Zd ⟨by omega,by omega⟩,Zi (by omega) (by omega)]
 ·right
  rw[Zf (by omega),Zi (by omega) (by omega)]
  refine⟨_,rfl,md,o,rfl,ho,ha,hz,?_⟩
  rcases hc with⟨_,h2⟩|h2
  ·exact Or.inl h2
  ·exact Or.inr h2
def Two (L:Zu) (o3 out:List Int):Prop:=OkP out∧(∀v,agP o3 v→ZeT L v→agP out v)∧∀j,out.getD j 0=0→o3.getD j 0=0
theorem ZAj {L:Zu} {o3:List Int} (hL:Zdd L) (hl:L.length≤1048576) (hp:OkP o3) :
  ∃r,loop (Zcy L) (false,(0:Int),o3)=some r∧((∃md out,r = .inl (md,out)∧Two L o3 out∧((md=false∧out=o3∧Zm9 L o3)∨(md=true∧zcN out 12<zcN o3 12)))∨(∃i out,r = .inr (i,out)∧0≤i∧Two L o3 out∧∀v,agP o3 v→¬ZeT L v)):=by
 refine Zdv (f:=Zcy L) (fun s:Bool×Int×List Int=>∃n:Nat,s.2.1=n∧n≤L.length∧Two L o3 s.2.2∧((s.1=false∧s.2.2=o3∧∀k,k<n→0≤Zc3 (L.getD k ([],0)).1 o3 (L.getD k ([],0)).1.length - (L.getD k ([],0)).2)∨(s.1=true∧zcN s.2.2 12<zcN o3 12))) (fun s=>L.length - s.2.1.toNat) _ ?_ _ ⟨0,rfl,Nat.zero_le _,⟨hp,fun v h _=>h,fun j h=>h⟩,Or.inl ⟨rfl,rfl,fun k hk=>by omega⟩⟩
 rintro⟨md,s,o⟩ ⟨n,hs,hn,⟨t1,t2,t3⟩,hc⟩
 dsimp only at hs t1 t2 t3 hc ⊢
 subst hs
 unfold Zcy
 dsimp only
 rcases Nat.lt_or_ge n L.length with h1|h1
 ·have hmem:=Zy (l:=L) (i:=n) (d:=([],0)) h1
  obtain⟨g1,g2⟩:=hL _ hmem
  rw[Zg (by omega),Zd ⟨by omega,by omega⟩,Int.toNat_natCast,Zjn g1 g2 t1,Zj]
  by_cases q:Zc3 (L.getD n ([],0)).1 o (L.getD n ([],0)).1.length - (L.getD n ([],0)).2<0
  ·right
   rw[Zg q]
   exact⟨_,rfl,Or.inr ⟨n,o,rfl,by omega,⟨t1,t2,t3⟩,fun v ha hs=>ZuG g1 t1 (t2 v ha hs) q (hs _ hmem)⟩⟩
  ·left
   obtain⟨r9,e9,k1,k2⟩:=Zrb g1 g2 t1
   obtain⟨md',out,e3,u1,u2,u3,u4⟩:=ZAk t1 k1 k2 md (i3:=(n:Int)) ⟨by omega,by omega⟩
   rw[Zf q,e9,Zj,e3]
   refine⟨_,rfl,⟨n+1,by simp,by omega,⟨u1,fun v ha hs=>u2 v (t2 v ha hs) (hs _ hmem),fun j h=>t3 j (u3 j h)⟩,?_⟩,by (try dsimp only)<;>omega⟩
   dsimp only
   rcases u4 with⟨rfl,rfl⟩|⟨rfl,hz⟩
   ·rcases hc with⟨c1,c2,c3⟩|c
    ·refine Or.inl ⟨c1,c2,fun k hk=>?_⟩
     rcases Nat.lt_or_ge k n with h2|h2
     ·exact c3 k h2
     ·rw[show k=n by omega,←c2];omega
    ·exact Or.inr c
   ·refine Or.inr ⟨rfl,?_⟩
    rcases hc with⟨c1,c2,c3⟩|c
    ·rw[←c2];exact hz
    ·have:=c.2;omega
 ·right
  have hnn:n=L.length:=by omega
  rw[Zf (by omega)]
  refine⟨_,rfl,Or.inl ⟨md,o,rfl,⟨t1,t2,t3⟩,?_⟩⟩
  rcases hc with⟨c1,c2,c3⟩|c
  ·refine Or.inl ⟨c1,c2,fun x hx=>?_⟩
   obtain⟨k,hk,rfl⟩:=List.mem_iff_getElem.1 hx
   have:=c3 k (by omega)
   rwa [List.getD_eq_getElem?_getD,List.getElem?_eq_getElem hk]at this
  ·exact Or.inr c
theorem ZqY {s:List Int} (h:s.length≤1048576):Zbu s=some s:=by
 unfold Zbu
 refine Zup (fun e=>by rw[e]) ?_
 rw[Zd (by simp only[List.length_nil,Zp];omega),List.nil_append]
theorem ZpV {L:Zu} {p:List Int} (hL:Zdd L) (hl:L.length≤1048576) (hp:OkP p) :
  ∃r,Zd3 L p=some r∧Two L p r.2∧((r.1 = -1∧Zm9 L r.2)∨(0≤r.1∧∀v,agP p v→¬ZeT L v)):=by
 unfold Zd3
 rw[ZqY (by have:=hp.1;omega),Zj]
 refine Zdv (f:=Zer L) (fun s:Bool×List Int=>Two L p s.2∧(s.1=false→Zm9 L s.2)) (fun s=>bif s.1 then 2*zcN s.2 12+1 else 0) (fun r=>Two L p r.2∧((r.1 = -1∧Zm9 L r.2)∨(0≤r.1∧∀v,agP p v→¬ZeT L v))) ?_ _ ⟨⟨hp,fun v h _=>h,fun j h=>h⟩,fun h=>by cases h⟩
 rintro⟨md,o⟩ ⟨⟨t1,t2,t3⟩,hk⟩
 dsimp only at t1 t2 t3 hk ⊢
 unfold Zer
 dsimp only
 cases md with
 |false=>
  right
  rw[cff]
  exact⟨_,rfl,⟨t1,t2,t3⟩,Or.inl ⟨rfl,hk rfl⟩⟩
 |true=>
  rw[ctt]
  obtain⟨r,e,h|h⟩:=ZAj hL hl t1
  ·obtain⟨md',out,rfl,⟨u1,u2,u3⟩,hc⟩:=h
   left
   rw[e]
   refine⟨_,rfl,⟨⟨u1,fun v ha hs=>u2 v (t2 v ha hs) hs,fun j h=>t3 j (u3 j h)⟩,?_⟩,?_⟩
   ·dsimp only
    intro hf
    rcases hc with⟨_,c2,c3⟩|⟨c1,_⟩
    ·rw[c2];exact c3
    ·rw[c1]at hf;cases hf
   ·dsimp only
    rw[ctt]
    rcases hc with⟨c1,_,_⟩|⟨c1,c2⟩
    ·rw[c1,cff];omega
    ·rw[c1,ctt];omega
  ·obtain⟨i,out,rfl,h0,⟨u1,u2,u3⟩,hc⟩:=h
   right
   rw[e]
   exact⟨_,rfl,⟨u1,fun v ha hs=>u2 v (t2 v ha hs) hs,fun j h=>t3 j (u3 j h)⟩,Or.inr ⟨h0,fun v ha hs=>hc v (t2 v ha hs) hs⟩⟩
theorem Zqo {p:List Int} (hp:OkP p):∃r,Zet p=some r∧((r=(0,true,p.map (fun n=>decide (0<n)))∧∀j,j<12→p.getD j 0≠0)∨(∃k:Nat,k<12∧p.getD k 0=0∧r=((k:Int)+1,false,[]))):=by
 have h12:=hp.1
 unfold Zet
 refine Zdv (f:=Zgu p) (fun s:Int×List Bool=>∃n:Nat,s.1=n∧n≤12∧s.2=(p.take n).map (fun n=>decide (0<n))∧∀j,j<n→p.getD j 0≠0) (fun s=>12 - s.1.toNat) _ ?_ _ ⟨0,rfl,by omega,by rw[List.take_zero];rfl,fun j hj=>by omega⟩
 rintro⟨s,o⟩ ⟨n,hs,hn,ho,hz⟩
 dsimp only at hs ho hz ⊢
 subst hs
 subst ho
 unfold Zgu
 dsimp only
 rcases Nat.lt_or_ge n 12 with h1|h1
 ·rw[Zg (by omega),Zd ⟨by omega,by omega⟩,Int.toNat_natCast]
  by_cases q:p.getD n 0=0
  ·right
   rw[ZI q,Zi (by omega) (by omega)]
   exact⟨_,rfl,Or.inr ⟨n,h1,q,rfl⟩⟩
  ·left
   rw[ZD q,Zd (by simp[Zp];omega),Zi (by omega) (by omega)]
   refine⟨_,rfl,⟨n+1,by simp,by omega,?_,fun j hj=>?_⟩,by (try dsimp only)<;>omega⟩
   ·dsimp only
    rw[List.take_add_one,List.getElem?_eq_getElem (show n<p.length by omega),List.map_append,List.getD_eq_getElem?_getD,List.getElem?_eq_getElem (show n<p.length by omega)]
    rfl
   ·rcases Nat.lt_or_ge j n with h2|h2
    ·exact hz j h2
    ·rw[show j=n by omega];exact q
 ·right
  have hnn:n=12:=by omega
  unfold ZiT
  rw[Zf (by omega)]
  exact⟨_,rfl,Or.inl ⟨by rw[hnn,←h12,List.take_length],fun j hj=>hz j (by omega)⟩⟩
def ZdF (D:List Int):Prop:=(∀x∈D,Z8 x=true)∧∀i j,i<D.length→j<D.length→vof (D.getD i 0)=vof (D.getD j 0)→i=j
def agD (D:List Int) (v:List Bool):Prop:=∀x∈D,ZO v x=true
def Zew (D:List Int):Nat→List Int
 |0=>List.replicate 12 0
 |n+1=>ZdM (D.getD n 0) (Zew D n)
theorem ZCb (j:Nat):(List.replicate 12 (0:Int)).getD j 0=0:=by
 rw[List.getD_eq_getElem?_getD]
 rcases Nat.lt_or_ge j 12 with h|h
 ·rw[List.getElem?_replicate_of_lt h];rfl
 ·rw[List.getElem?_eq_none (by rw[List.length_replicate];exact h)];rfl
theorem Znm {D:List Int} (hD:ZdF D):∀n,n≤D.length→OkP (Zew D n)∧(∀v,agD D v→agP (Zew D n) v)∧(∀j,(Zew D n).getD j 0=0→∀i,i<n→vof (D.getD i 0)≠(j:Int)+1)∧(∀j,(Zew D n).getD j 0≠0→∃i,i<n∧vof (D.getD i 0)=(j:Int)+1)∧zcN (Zew D n) 12+n=12
 |0,_=>⟨⟨rfl,fun j=>Or.inl (ZCb j)⟩,fun v _ j hne=>absurd (ZCb j) hne,fun j _ i hi=>(by omega),fun j hne=>absurd (ZCb j) hne,(by show zcN (List.replicate 12 0) 12+0=12;decide)⟩
 |n+1,h=>by
  obtain⟨i1,i2,i3,i4,i5⟩:=Znm hD n (by omega)
  have hmem:=Zy (l:=D) (i:=n) (d:=0) (by omega)
  have hl:=hD.1 _ hmem
  have hlit:=ZB.1 hl
  obtain⟨s1,s2,s3,s4,s5,s6⟩:=ZxJ hl i1
  have hvr:1≤vof (D.getD n 0)∧vof (D.getD n 0)≤12:=by unfold vof;omega
  have hun:unZ (D.getD n 0) (Zew D n)=0:=by
   have hz:(Zew D n).getD (vof (D.getD n 0) - 1).toNat 0=0:=by
    by_cases q:(Zew D n).getD (vof (D.getD n 0) - 1).toNat 0=0
    ·exact q
    ·obtain⟨i,hi,e⟩:=i4 _ q
     have:=hD.2 i n (by omega) (by omega) (by rw[e];omega)
     omega
   unfold unZ
   unfold vof at hz
   split
   ·rw[show (0 - D.getD n 0 - 1)=max (D.getD n 0) (-(D.getD n 0)) - 1 by omega,hz];rfl
   ·rw[show (D.getD n 0 - 1)=max (D.getD n 0) (-(D.getD n 0)) - 1 by omega,hz]
  refine⟨s1,fun v ha=>s2 v (i2 v ha) (ha _ hmem),fun j h0 i hi=>?_,fun j hne=>?_,?_⟩
  ·have h0':(ZdM (D.getD n 0) (Zew D n)).getD j 0=0:=h0
   rw[s6]at h0'
   by_cases q:(j:Int)+1=vof (D.getD n 0)
   ·rw[if_pos q]at h0'
    split at h0'<;>omega
   ·rw[if_neg q]at h0'
    rcases Nat.lt_or_ge i n with h2|h2
    ·exact i3 j h0' i h2
    ·rw[show i=n by omega];omega
  ·have hne':(ZdM (D.getD n 0) (Zew D n)).getD j 0≠0:=hne
   rw[s6]at hne'
   by_cases q:(j:Int)+1=vof (D.getD n 0)
   ·exact⟨n,by omega,by omega⟩
   ·rw[if_neg q]at hne'
    obtain⟨i,hi,e⟩:=i4 j hne'
    exact⟨i,by omega,e⟩
  ·have:=s4 hun
   show zcN (ZdM (D.getD n 0) (Zew D n)) 12+(n+1)=12
   omega
theorem Zhg {D:List Int} (hD:ZdF D):D.length≤12:=by
 have:=(Znm hD D.length (Nat.le_refl _)).2.2.2.2
 omega
theorem ZvC {D:List Int} {l:Int} (hD:ZdF D) (hl:Z8 l=true) (hn:∀i,i<D.length→vof (D.getD i 0)≠vof l):ZdF (D++[l]):=by
 have hg:∀i,i<D.length→(D++[l]).getD i 0=D.getD i 0:=fun i hi=>by rw[List.getD_eq_getElem?_getD,List.getElem?_append_left hi,←List.getD_eq_getElem?_getD]
 have hg':(D++[l]).getD D.length 0=l:=by rw[List.getD_eq_getElem?_getD,List.getElem?_append_right (Nat.le_refl _),Nat.sub_self];rfl
 refine⟨fun x hx=>?_,fun i j hi hj e=>?_⟩
 ·rcases List.mem_append.1 hx with hx|hx
  ·exact hD.1 x hx
  ·rw[List.mem_singleton]at hx;rw[hx];exact hl
 ·rw[List.length_append,List.length_singleton]at hi hj
  rcases Nat.lt_or_ge i D.length with h1|h1<;>rcases Nat.lt_or_ge j D.length with h2|h2
  ·rw[hg i h1,hg j h2]at e
   exact hD.2 i j h1 h2 e
  ·rw[hg i h1,show j=D.length by omega,hg']at e
   exact absurd e (hn i h1)
  ·rw[hg j h2,show i=D.length by omega,hg']at e
   exact absurd e.symm (hn j h2)
  ·omega
theorem Zxe {D:List Int} (hD:ZdF D):Zch (Zbj D)=true:=by
 unfold Zch Zbj
 simp only[Bool.and_eq_true,List.all_eq_true,Bool.not_eq_true',List.any_eq_false,beq_iff_eq]
 refine⟨fun x hx=>?_,fun x hx y hy e=>?_⟩
 ·obtain⟨z,hz,rfl⟩:=List.mem_map.1 hx
  rw[ZCL]
  exact hD.1 z hz
 ·obtain⟨z,hz,rfl⟩:=List.mem_map.1 hx
  obtain⟨w,hw,rfl⟩:=List.mem_map.1 hy
  obtain⟨i,hi,rfl⟩:=List.mem_iff_getElem.1 hz
  obtain⟨j,hj,rfl⟩:=List.mem_iff_getElem.1 hw
  have e1:D.getD i 0=D[i]:=by rw[List.getD_eq_getElem?_getD,List.getElem?_eq_getElem hi];rfl
  have e2:D.getD j 0=D[j]:=by rw[List.getD_eq_getElem?_getD,List.getElem?_eq_getElem hj];rfl
  have:=hD.2 i j hi hj (by rw[e1,e2];unfold vof;omega)
  subst this
  have:=ZB.1 (hD.1 _ hz)
  omega
abbrev VR:=Bool×Int×Bool×List Bool×Zu×List ZJ
structure Ext (L:Zu) (S:List ZJ) (L':Zu) (S':List ZJ):Prop where
 good:Zdd L'
 len:L'.length+S.length=L.length+S'.length
 up:S.length≤S'.length
 top:S'.length≤1000
 sound:∀v,ZeT L v→ZeT L' v
 back:∀v,ZeT L' v→ZeT L v
structure Zj7 (D:List Int) (L:Zu) (S:List ZJ) (fuel:Int) (r:VR):Prop where
 fu:0≤r.2.1∧r.2.1≤fuel
 ext:Ext L S r.2.2.2.2.1 r.2.2.2.2.2
 sat:r.1=true→r.2.2.2.1.length=12∧ZeT L r.2.2.2.1
 no:r.1=false→r.2.2.1=false→∀v,ZeT L v→¬agD D v
theorem Ext.refl {L:Zu} {S:List ZJ} (h:Zdd L) (hs:S.length≤1000):Ext L S L S:=⟨h,by omega,Nat.le_refl _,hs,fun _ h=>h,fun _ h=>h⟩
theorem Ext.trans {L L' L'':Zu} {S S' S'':List ZJ} (a:Ext L S L' S') (b:Ext L' S' L'' S''):Ext L S L'' S'':=
 ⟨b.good,by have:=a.len;have:=b.len;omega,Nat.le_trans a.up b.up,b.top,fun v h=>b.sound v (a.sound v h),fun v h=>a.back v (b.back v h)⟩
theorem ZEe {D:List Int} {L:Zu} {S:List ZJ} (hD:ZdF D) (hL:Zdd L) (hl:L.length≤2000) (hS:S.length<1000) (hno:∀v,ZeT L v→¬agD D v) (f:Int) (m:Bool) :
  ∃r,Zbz D f m L S=some r∧Ext L S r.1 r.2:=by
 have hd:=Zhg hD
 have hneg:∀x∈D,x≠0:=fun x hx=>(ZB.1 (hD.1 x hx)).1
 have hlo:=Zxe hD
 have hc:Zhf (Zbj D)=(true,1,Zbo (ZbO (Zbj D))):=by
  unfold Zhf
  rw[hlo,decide_eq_true (show (Zbj D).length≤40 by unfold Zbj;rw[List.length_map];omega)]
  rfl
 have hcon:ZbG (Zbo (ZbO (Zbj D)),1)=true:=ZtU (fun x hx=>(Zf4 hlo).1 x ((Zm3 hlo x).1 hx)) (Zrh hlo)
 have hev:∀v,Zbn v (Zbo (ZbO (Zbj D)),1) = !(D.all (ZO v)):=fun v=>by rw[Zyc,ZBh (Zm3 hlo),ZBi hneg]
 have hlf:=Zm2 (Zbj D)
 have hol:(Zbo (ZbO (Zbj D))).length≤12:=by unfold Zbo;rw[List.length_map];exact hlf
 refine⟨(L++[(Zbo (ZbO (Zbj D)),1)],S++[((7:Int),((0:Int),((0:Int),(Zbo (ZbO (Zbj D)),(1:Int)))))]),?_,?_⟩
 ·unfold Zbz
  refine(ZbY (f:=Zbd D L S) D 0 (fun x=>0 - x) [] (fun _=>(L++[(Zbo (ZbO (Zbj D)),1)],S++[((7:Int),((0:Int),((0:Int),(Zbo (ZbO (Zbj D)),(1:Int)))))])) (fun i out hi ho=>?_) ?_)
  ·have:=ZB.1 (hD.1 _ (Zy (l:=D) (i:=i) (d:=0) hi))
   unfold Zbd
   dsimp only
   rw[Zg (by omega),Zd ⟨by omega,by omega⟩,Int.toNat_natCast,Zi (by omega) (by omega),Zd (by simp only[Zp,List.length_cons,List.length_nil];simp at ho;omega),Zi (by omega) (by omega)]
  ·unfold Zbd ZdH ZdI
   dsimp only
   rw[Zf (by omega),List.nil_append,show D.map (fun x=>0 - x)=Zbj D from rfl,ZiM _ (by unfold Zbj;rw[List.length_map];omega),Zj,hc]
   dsimp only
   rw[Zd (by simp[Zp];omega),ZCX _ (by (try dsimp only)<;>omega),Zj,Zd (by simp[Zp];omega)]
   rfl
 ·refine⟨fun c hcm=>?_,by simp;omega,by simp,by simp;omega,fun v h c hcm=>?_,fun v h c hcm=>h c (List.mem_append_left _ hcm)⟩
  ·rcases List.mem_append.1 hcm with h|h
   ·exact hL c h
   ·rw[List.mem_singleton]at h
    subst h
    exact⟨hcon,by (try dsimp only)<;>omega⟩
  ·rcases List.mem_append.1 hcm with h2|h2
   ·exact h c h2
   ·rw[List.mem_singleton]at h2
    subst h2
    rw[hev]
    cases hb:D.all (ZO v)with
    |false=>rfl
    |true=>exact absurd (List.all_eq_true.1 hb) (hno v h)
theorem Zw7 {D:List Int} {L:Zu} {S:List ZJ} {fuel:Int} {rec_:List Int→Int→Bool→Zu→List ZJ→Option VR}
  (hrec:∀(l:Int) (L':Zu) (S':List ZJ) (f':Int),ZdF (D++[l])→Zdd L'→L'.length≤400+S'.length→S'.length≤1000→(0≤f'∧f'≤2000)→∃r,rec_ (D++[l]) f' false L' S'=some r∧Zj7 (D++[l]) L' S' f' r)
  (hD:ZdF D) (hL:Zdd L) (hl:L.length≤400+S.length) (hS:S.length≤1000) (hf:0≤fuel∧fuel≤2000):∃r,ZH rec_ D fuel false L S=some r∧Zj7 D L S fuel r:=by
 have hd:=Zhg hD
 have much:Zj7 D L S fuel (false,fuel,true,([]:List Bool),L,S):=⟨⟨hf.1,Int.le_refl _⟩,Ext.refl hL hS,fun h=>(by cases h),fun _ h=>(by cases h)⟩
 unfold ZH
 by_cases q1:fuel=0
 ·exact⟨_,by rw[ZI q1],much⟩
 rw[ZD q1]
 by_cases q2:1000≤(S.length:Int)
 ·exact⟨_,by rw[Zg q2],much⟩
 rw[Zf q2,Zi (by omega) (by omega),Zd ⟨by omega,by simp only[Zp];omega,rfl⟩]
 obtain⟨p1,p2,p3,p4,p5⟩:=Znm hD D.length (Nat.le_refl _)
 have tail:∃r,ZV D fuel false L S rec_ (Zew D D.length)=some r∧Zj7 D L S fuel r:=by
  unfold ZV
  obtain⟨⟨i,out⟩,e1,⟨t1,t2,t3⟩,hc⟩:=ZpV hL (by omega) p1
  dsimp only at t1 t2 t3 hc
  rw[e1,Zj]
  dsimp only
  have failed:∀(f:Int) (L':Zu) (S':List ZJ),(0≤f∧f≤fuel)→Ext L S L' S'→S'.length<1000→(∀v,ZeT L v→¬agD D v)→∃r,Zbq D (f,false,L',S')=some r∧Zj7 D L S fuel r:=fun f L' S' hf' hx hs' hno=>by
   obtain⟨⟨L2,S2⟩,e,hx2⟩:=ZEe hD hx.good (by have:=hx.len;omega) hs' (fun v hv=>hno v (hx.back v hv)) f false
   unfold Zbq
   dsimp only
   rw[e,Zj]
   exact⟨_,rfl,⟨hf',hx.trans hx2,fun h=>(by cases h),fun _ _=>hno⟩⟩
  rcases hc with⟨rfl,hk⟩|⟨h0,hk⟩
  ·rw[Zg (by omega)]
   obtain⟨r4,e4,h|h⟩:=Zqo t1
   ·obtain⟨rfl,ht⟩:=h
    rw[e4,Zj]
    dsimp only
    rw[ctt]
    refine⟨_,rfl,⟨⟨by (try dsimp only)<;>omega,by (try dsimp only)<;>omega⟩,Ext.refl hL hS,fun _=>⟨by show (out.map _).length=12;rw[List.length_map];exact t1.1,fun c hcm=>?_⟩,fun h=>(by cases h)⟩⟩
    have ha:agP out (out.map (fun n=>decide (0<n))):=fun j hne=>by
     rcases Nat.lt_or_ge j out.length with h1|h1
     ·rw[List.getD_eq_getElem?_getD,List.getElem?_map,List.getElem?_eq_getElem h1,List.getD_eq_getElem?_getD,List.getElem?_eq_getElem h1]
      rfl
     ·rw[List.getD_eq_getElem?_getD,List.getElem?_eq_none h1]at hne
      exact absurd rfl hne
    exact ZC4 (hL c hcm).1 t1 ha ht (hk c hcm)
   ·obtain⟨k,hk12,hk0,rfl⟩:=h
    rw[e4,Zj]
    dsimp only
    rw[cff,Zi (by omega) (by omega)]
    have hvar:∀l:Int,vof l=(k:Int)+1→∀i,i<D.length→vof (D.getD i 0)≠vof l:=fun l hl i hi=>by
     rw[hl]
     exact p3 k (t3 k hk0) i hi
    refine Zdv (f:=ZbX D ((k:Int)+1,false,[]) rec_) (fun s:Int×Int×Bool×Zu×List ZJ=>∃n:Nat,s.1=n∧n≤2∧(0≤s.2.1∧s.2.1≤fuel)∧s.2.2.1=false∧Ext L S s.2.2.2.1 s.2.2.2.2∧(1≤n→∀v,ZeT L v→agD D v→ZO v ((k:Int)+1)=false)∧(2≤n→∀v,ZeT L v→agD D v→ZO v (0 - ((k:Int)+1))=false)) (fun s=>2 - s.1.toNat) (Zj7 D L S fuel) ?_ _ ⟨0,rfl,by omega,⟨by (try dsimp only)<;>omega,by (try dsimp only)<;>omega⟩,rfl,Ext.refl hL hS,fun h=>by omega,fun h=>by omega⟩
    rintro⟨s,f,m,L',S'⟩ ⟨n,hs,hn,hf',hm,hx,g1,g2⟩
    dsimp only at hs hf' hm hx g1 g2 ⊢
    subst hs
    subst hm
    unfold ZbX
    dsimp only
    rcases Nat.lt_or_ge n 2 with h1|h1
    ·have hlit:∃l,[((k:Int)+1),(0 - ((k:Int)+1))].getD n 0=l∧vof l=(k:Int)+1∧Z8 l=true∧((n=0∧l=(k:Int)+1)∨(n=1∧l=0 - ((k:Int)+1))):=by
      have:n=0∨n=1:=by omega
      rcases this with rfl|rfl
      ·exact⟨(k:Int)+1,rfl,by unfold vof;omega,ZB.2 ⟨by omega,by omega,by omega⟩,Or.inl ⟨rfl,rfl⟩⟩
      ·exact⟨0 - ((k:Int)+1),rfl,by unfold vof;omega,ZB.2 ⟨by omega,by omega,by omega⟩,Or.inr ⟨rfl,rfl⟩⟩
     obtain⟨l,el,hv,hli,hnl⟩:=hlit
     have hlen:=hx.len
     have htop:=hx.top
     obtain⟨r8,e8,⟨f1,x1,sa1,no1⟩⟩:=hrec l L' S' f (ZvC hD hli (hvar l hv)) hx.good (by omega) htop ⟨by omega,by omega⟩
     rw[Zg (by simp;omega),Zd ⟨by omega,by simp;omega⟩,Int.toNat_natCast,el,ZqY (by omega),Zj,Zd (by simp[Zp];omega),e8,Zj]
     cases hok:r8.1 with
     |true=>
      right
      rw[ctt]
      refine⟨_,rfl,⟨⟨by (try dsimp only)<;>omega,by (try dsimp only)<;>omega⟩,hx.trans x1,fun _=>⟨(sa1 hok).1,fun c hcm=>?_⟩,fun h=>(by cases h)⟩⟩
      exact hx.back _ (sa1 hok).2 c hcm
     |false=>
      rw[cff]
      cases hmu:r8.2.2.1 with
      |true=>
       right
       rw[ctt]
       exact⟨_,rfl,⟨⟨by (try dsimp only)<;>omega,by (try dsimp only)<;>omega⟩,hx.trans x1,fun h=>(by cases h),fun _ h=>(by cases h)⟩⟩
      |false=>
       left
       have hno:∀v,ZeT L v→agD D v→ZO v l=false:=fun v h1 h2=>by
        cases hb:ZO v l with
        |false=>rfl
        |true=>
         exfalso
         refine no1 hok hmu v (hx.sound v h1) (fun x hxm=>?_)
         rcases List.mem_append.1 hxm with h|h
         ·exact h2 x h
         ·rw[List.mem_singleton]at h;rw[h];exact hb
       rw[cff,Zi (by omega) (by omega)]
       refine⟨_,rfl,⟨n+1,by simp,by omega,⟨by (try dsimp only)<;>omega,by (try dsimp only)<;>omega⟩,rfl,hx.trans x1,fun _=>?_,fun h2=>?_⟩,by (try dsimp only)<;>omega⟩
       ·rcases hnl with⟨rfl,rfl⟩|⟨rfl,rfl⟩
        ·exact hno
        ·exact g1 (by omega)
       ·rcases hnl with⟨rfl,rfl⟩|⟨rfl,rfl⟩
        ·omega
        ·exact hno
    ·right
     have hn2:n=2:=by omega
     rw[Zf (by simp;omega)]
     unfold Zdt
     dsimp only
     have hno:∀v,ZeT L v→¬agD D v:=fun v h1 h2=>by
      have a1:=g1 (by omega) v h1 h2
      have a2:=g2 (by omega) v h1 h2
      rw[Zrg (by omega),a1]at a2
      cases a2
     by_cases q3:1000≤(S'.length:Int)
     ·rw[Zg q3]
      exact⟨_,rfl,⟨⟨by (try dsimp only)<;>omega,by (try dsimp only)<;>omega⟩,hx,fun h=>(by cases h),fun _ h=>(by cases h)⟩⟩
     ·rw[Zf q3]
      obtain⟨r,e,hr⟩:=failed f L' S' hf' hx (by omega) hno
      rw[e]
      exact⟨_,rfl,hr⟩
  ·rw[Zf (by omega)]
   exact failed _ L S ⟨by omega,by omega⟩ (Ext.refl hL hS) (by omega) (fun v h1 h2=>hk v (p2 v h2) h1)
 obtain⟨r,er,hr⟩:=tail
 refine⟨r,?_,hr⟩
 refine ZC (f:=Zbr D fuel false L S rec_) (fun s:Int×List Int=>∃n:Nat,s.1=n∧n≤D.length∧s.2=Zew D n) (fun s=>D.length - s.1.toNat) (fun _=>r) ?_ _ ⟨0,rfl,Nat.zero_le _,rfl⟩
 rintro⟨s,o⟩ ⟨n,hs,hn,ho⟩
 dsimp only at hs ho ⊢
 subst hs
 subst ho
 unfold Zbr
 dsimp only
 rcases Nat.lt_or_ge n D.length with h1|h1
 ·left
  have hlit:=ZB.1 (hD.1 _ (Zy (l:=D) (i:=n) (d:=0) h1))
  have h12:=(Znm hD n hn).1.1
  have hvv:vof (D.getD n 0)=if 0<D.getD n 0 then D.getD n 0 else 0 - D.getD n 0:=by unfold vof;split<;>omega
  refine⟨((n:Int)+1,Zew D (n+1)),?_,⟨n+1,by simp,by omega,rfl⟩,by (try dsimp only)<;>omega,rfl⟩
  rw[Zg (by omega),Zd ⟨by omega,by omega⟩,Int.toNat_natCast,Zfb (by omega),Zj]
  have e:Zew D (n+1)=ZdM (D.getD n 0) (Zew D n):=rfl
  rw[e]
  unfold ZdM
  by_cases q:0<D.getD n 0
  ·rw[if_pos q]at hvv
   rw[hvv,if_pos q,Zi (by omega) (by omega),Zd ⟨by omega,by omega⟩,Zf (by omega),Zi (by omega) (by omega)]
  ·rw[if_neg q]at hvv
   rw[hvv,if_neg q,Zi (by omega) (by omega),Zd ⟨by omega,by omega⟩,Zg (by omega),Zi (by omega) (by omega),Zi (by omega) (by omega),Zd ⟨by omega,by rw[List.length_set];omega⟩,Zi (by omega) (by omega),List.set_set]
 ·right
  have:n=D.length:=by omega
  subst this
  rw[Zf (by omega),er]
  rfl
theorem Zwe:∀(n:Nat) (D:List Int) (L:Zu) (S:List ZJ) (fuel:Int),ZdF D→Zdd L→L.length≤400+S.length→S.length≤1000→(0≤fuel∧fuel≤2000)→13≤n+D.length→∃r,ZA n D fuel false L S=some r∧Zj7 D L S fuel r
 |0,D,L,S,fuel,hD,_,_,_,_,hn=>by have:=Zhg hD;omega
 |n+1,D,L,S,fuel,hD,hL,hl,hS,hf,hn=>by
  show ∃r,ZH (ZA n) D fuel false L S=some r∧_
  exact Zw7 (fun l L' S' f' h1 h2 h3 h4 h5=>Zwe n (D++[l]) L' S' f' h1 h2 h3 h4 h5 (by rw[List.length_append,List.length_singleton];omega)) hD hL hl hS hf
end Go.AE.Y
namespace Go.AE.Y
open Go Go.AE
theorem ZqE {S R:Type} (I:S→Prop) {f g:S→Option (S⊕R)} (h:∀s,I s→f s=g s) (hI:∀s s',I s→g s=some (.inl s')→I s'):∀(n:Nat) (s:S),I s→ZcM f n s=ZcM g n s
 |0,_,_=>rfl
 |n+1,s,hs=>by
  unfold ZcM
  rw[h s hs]
  cases hg:g s with
  |none=>rfl
  |some a=>
   cases a with
   |inr r=>rfl
   |inl s'=>exact ZqE I h hI n s' (hI s s' hs hg)
theorem ZsE {S R:Type} (I:S→Prop) {f g:S→Option (S⊕R)} (h:∀s,I s→f s=g s) (hI:∀s s',I s→g s=some (.inl s')→I s') {s:S} (hs:I s):loop f s=loop g s:=by
 cases hg:loop g s with
 |some r=>
  obtain⟨n,hn⟩:=ZhR hg
  exact ZrS (n:=n) (by rw[ZqE I h hI n s hs,hn])
 |none=>
  cases hf:loop f s with
  |none=>rfl
  |some r=>
   obtain⟨n,hn⟩:=ZhR hf
   rw[ZqE I h hI n s hs]at hn
   rw[ZrS hn]at hg
   exact absurd hg (by simp)
theorem ZwO {S R T Q:Type} (Rel:S→T→Prop) (K:R→Q→Prop) {f:S→Option (S⊕R)} {g:T→Option (T⊕Q)}
  (step:∀s t,Rel s t→∀a b,f s=some a→g t=some b→(∃s' t',a = .inl s'∧b = .inl t'∧Rel s' t')∨(∃r q,a = .inr r∧b = .inr q∧K r q)) :
  ∀(n m:Nat) (s:S) (t:T) (r:R) (q:Q),Rel s t→ZcM f n s=some r→ZcM g m t=some q→K r q
 |0,_,_,_,_,_,_,h1,_=>by unfold ZcM at h1;exact absurd h1 (by simp)
 |n+1,0,_,_,_,_,_,_,h2=>by unfold ZcM at h2;exact absurd h2 (by simp)
 |n+1,m+1,s,t,r,q,hr,h1,h2=>by
  unfold ZcM at h1 h2
  cases hf:f s with
  |none=>rw[hf]at h1;exact absurd h1 (by simp)
  |some a=>
   cases hg:g t with
   |none=>rw[hg]at h2;exact absurd h2 (by simp)
   |some b=>
    rw[hf]at h1
    rw[hg]at h2
    rcases step s t hr a b hf hg with⟨s',t',e1,e2,h3⟩|⟨r',q',e1,e2,h3⟩
    ·subst e1
     subst e2
     exact ZwO Rel K step n m s' t' r q h3 h1 h2
    ·subst e1
     subst e2
     have h4:r'=r:=by simpa using h1
     have h5:q'=q:=by simpa using h2
     rw[←h4,←h5]
     exact h3
theorem ZvS {S R T Q:Type} (Rel:S→T→Prop) (K:R→Q→Prop) {f:S→Option (S⊕R)} {g:T→Option (T⊕Q)}
  (step:∀s t,Rel s t→∀a b,f s=some a→g t=some b→(∃s' t',a = .inl s'∧b = .inl t'∧Rel s' t')∨(∃r q,a = .inr r∧b = .inr q∧K r q))
  {s:S} {t:T} {r:R} {q:Q} (hr:Rel s t) (h1:loop f s=some r) (h2:loop g t=some q):K r q:=by
 obtain⟨n,hn⟩:=ZhR h1
 obtain⟨m,hm⟩:=ZhR h2
 exact ZwO Rel K step n m s t r q hr hn hm
end Go.AE.Y
namespace Go.AE.Y
open Go Go.AE
set_option maxHeartbeats 400000
def subP (p q:List Int):Prop:=∀j,p.getD j 0≠0→q.getD j 0=p.getD j 0
theorem subP.refl (p:List Int):subP p p:=fun _ _=>rfl
theorem subP.trans {p q r:List Int} (a:subP p q) (b:subP q r):subP p r:=fun j h=>by
 have h1:=a j h
 rw[←h1]at h ⊢
 exact b j h
def ZFu (c:List (Int×Int)×Int) (q:List Int):Prop:=0≤Zc3 c.1 q c.1.length - c.2∧∀i,i<c.1.length→unZ (c.1.getD i (0,0)).2 q=0→(c.1.getD i (0,0)).1≤Zc3 c.1 q c.1.length - c.2
def ZFv (L:Zu) (q:List Int):Prop:=∀c∈L,ZFu c q
end Go.AE.Y
namespace Go.AE.Y
open Go Go.AE
set_option maxHeartbeats 400000
theorem ZpM {l:Int} {p:List Int} (hl:Z8 l=true) (hp:OkP p):Zir p l=some (unZ l p):=by
 have h:=ZB.1 hl
 obtain⟨h12,hv⟩:=hp
 unfold Zir unZ
 by_cases q:0<l
 ·rw[Zg q,if_neg (by omega),Zi (by omega) (by omega),Zd ⟨by omega,by omega⟩]
 ·have:=hv (0 - l - 1).toNat
  rw[Zf q,if_pos (by omega),Zi (by omega) (by omega),Zi (by omega) (by omega),Zd ⟨by omega,by omega⟩,Zi (by omega) (by omega)]
theorem ZmV {l:Int} {p:List Int} (hl:Z8 l=true) (hp:OkP p):Zev l p=some (ZdM l p):=by
 have h:=ZB.1 hl
 have h12:=hp.1
 unfold Zev ZdM
 by_cases q:0<l
 ·rw[Zg q,if_pos q,Zi (by omega) (by omega),Zd ⟨by omega,by omega⟩]
 ·rw[Zf q,if_neg q,Zi (by omega) (by omega),Zi (by omega) (by omega),Zd ⟨by omega,by omega⟩]
theorem Zmq {c:List (Int×Int)×Int} {p:List Int} (hc:ZbG c=true) (hl:c.1.length≤1048576) (hp:OkP p):Ziq c p=some (Zc3 c.1 p c.1.length - c.2):=by
 obtain⟨c1,c2⟩:=Znx hc
 unfold Ziq
 rw[Zi (by omega) (by omega)]
 refine ZC (f:=Zkk c p) (fun s:Int×Int=>∃n:Nat,s.2=n∧n≤c.1.length∧s.1=Zc3 c.1 p n - c.2) (fun s=>c.1.length - s.2.toNat) (fun _=>Zc3 c.1 p c.1.length - c.2) ?_ _ ⟨0,rfl,Nat.zero_le _,by show 0 - c.2=0 - c.2;rfl⟩
 rintro⟨o,s⟩ ⟨n,hs,hn,ho⟩
 dsimp only at hs ho ⊢
 subst hs
 subst ho
 have hb:=ZsO hc p n hn
 unfold Zkk
 dsimp only
 rcases Nat.lt_or_ge n c.1.length with h1|h1
 ·left
  obtain⟨l1,l2,l3⟩:=c2 n h1
  rw[Zg (by omega),Zd ⟨by omega,by omega⟩,Int.toNat_natCast,ZpM l1 hp,Zj]
  by_cases q:0≤unZ (c.1.getD n (0,0)).2 p
  ·rw[Zg q,Zd ⟨by omega,by omega⟩,Zi (by omega) (by omega),Zi (by omega) (by omega)]
   refine⟨_,rfl,⟨n+1,by simp,by omega,?_⟩,by (try dsimp only)<;>omega,rfl⟩
   dsimp only
   conv=>rhs;unfold Zc3
   rw[if_pos q]
   omega
  ·rw[Zf q,Zi (by omega) (by omega)]
   refine⟨_,rfl,⟨n+1,by simp,by omega,?_⟩,by (try dsimp only)<;>omega,rfl⟩
   dsimp only
   conv=>rhs;unfold Zc3
   rw[if_neg q]
   omega
 ·right
  have:n=c.1.length:=by omega
  rw[Zf (by omega),this]
theorem ZwU {c:List (Int×Int)×Int} {p:List Int} (hc:ZbG c=true) (hl:c.1.length≤1048576) (hp:OkP p):∃o,ZeU c p=some o∧o.length≤1048576∧∀l∈o,Z8 l=true∧unZ l p=0∧∀v,agP p v→Zbn v c=true→ZO v l=true:=by
 obtain⟨c1,c2⟩:=Znx hc
 unfold ZeU
 rw[Zmq hc hl hp,Zj]
 refine Zdv (f:=ZfR c p (Zc3 c.1 p c.1.length - c.2)) (fun s:Int×List Int=>∃n:Nat,s.1=n∧n≤c.1.length∧s.2.length≤n∧∀l∈s.2,Z8 l=true∧unZ l p=0∧∀v,agP p v→Zbn v c=true→ZO v l=true) (fun s=>c.1.length - s.1.toNat) (fun o=>o.length≤1048576∧∀l∈o,Z8 l=true∧unZ l p=0∧∀v,agP p v→Zbn v c=true→ZO v l=true) ?_ _ ⟨0,rfl,Nat.zero_le _,Nat.le_refl _,fun l h=>absurd h List.not_mem_nil⟩
 rintro⟨s,o⟩ ⟨n,hs,hn,ho,hall⟩
 dsimp only at hs ho hall ⊢
 subst hs
 unfold ZfR
 dsimp only
 rcases Nat.lt_or_ge n c.1.length with h1|h1
 ·obtain⟨l1,l2,l3⟩:=c2 n h1
  by_cases q0:0≤Zc3 c.1 p c.1.length - c.2
  case neg=>
   right
   rw[Zg (by omega),Zf q0]
   exact⟨_,rfl,by omega,hall⟩
  left
  rw[Zg (by omega),Zg q0,Zd ⟨by omega,by omega⟩,Int.toNat_natCast,ZpM l1 hp,Zj]
  by_cases q:unZ (c.1.getD n (0,0)).2 p=0
  ·rw[ZI q,Zd ⟨by omega,by omega⟩]
   by_cases q2:Zc3 c.1 p c.1.length - c.2<(c.1.getD n (0,0)).1
   ·rw[Zg q2,Zd ⟨by omega,by omega⟩,Zd (by simp[Zp];omega),Zi (by omega) (by omega)]
    refine⟨_,rfl,⟨n+1,by simp,by omega,by simp;omega,fun l h=>?_⟩,by (try dsimp only)<;>omega⟩
    rcases List.mem_append.1 h with h|h
    ·exact hall l h
    ·rw[List.mem_singleton]at h
     subst h
     refine⟨l1,q,fun v ha he=>?_⟩
     cases hb:ZO v (c.1.getD n (0,0)).2 with
     |true=>rfl
     |false=>
      have:=(Zu6 hc hp ha c.1.length (Nat.le_refl _)).2 n h1 (by omega) hb
      have:=(Zq6 v c).1 he
      omega
   ·rw[Zf q2,Zi (by omega) (by omega)]
    exact⟨_,rfl,⟨n+1,by simp,by omega,by (try dsimp only)<;>omega,hall⟩,by (try dsimp only)<;>omega⟩
  ·rw[ZD q,Zi (by omega) (by omega)]
   exact⟨_,rfl,⟨n+1,by simp,by omega,by (try dsimp only)<;>omega,hall⟩,by (try dsimp only)<;>omega⟩
 ·right
  rw[Zf (by omega)]
  exact⟨_,rfl,by omega,hall⟩
theorem ZC9 {c:List (Int×Int)×Int} {o5 r9:List Int} (hp:OkP o5) (hr:r9.length≤1048576) (h9:∀l∈r9,Z8 l=true∧unZ l o5=0∧∀v,agP o5 v→Zbn v c=true→ZO v l=true) (m4:Bool) {i3:Int} (hi:0≤i3∧i3≤2000000) :
  ∃md out,loop (Zc7 i3 r9) (m4,(0:Int),o5)=some (.inl (md,i3+1,out))∧OkP out∧(∀v,agP o5 v→Zbn v c=true→agP out v)∧(∀j,out.getD j 0=0→o5.getD j 0=0)∧((md=m4∧out=o5)∨(md=true∧zcN out 12<zcN o5 12)):=by
 have key:=Zdv (f:=Zc7 i3 r9) (fun s:Bool×Int×List Int=>∃n:Nat,s.2.1=n∧n≤r9.length∧OkP s.2.2∧(∀v,agP o5 v→Zbn v c=true→agP s.2.2 v)∧(∀j,s.2.2.getD j 0=0→o5.getD j 0=0)∧((n=0∧s.1=m4∧s.2.2=o5)∨(s.1=true∧zcN s.2.2 12<zcN o5 12))) (fun s=>r9.length - s.2.1.toNat)
  (fun r=>∃md out,r = .inl (md,i3+1,out)∧OkP out∧(∀v,agP o5 v→Zbn v c=true→agP out v)∧(∀j,out.getD j 0=0→o5.getD j 0=0)∧((md=m4∧out=o5)∨(md=true∧zcN out 12<zcN o5 12))) ?_ (m4,(0:Int),o5) ⟨0,rfl,Nat.zero_le _,hp,fun v h _=>h,fun j h=>h,Or.inl ⟨rfl,rfl,rfl⟩⟩
 ·obtain⟨r,e,md,out,rfl,h⟩:=key
  exact⟨md,out,e,h⟩
 rintro⟨md,s,o⟩ ⟨n,hs,hn,ho,ha,hz,hc⟩
 dsimp only at hs ho ha hz hc ⊢
 subst hs
 unfold Zc7
 dsimp only
 rcases Nat.lt_or_ge n r9.length with h1|h1
 ·left
  obtain⟨l1,l2,l3⟩:=h9 _ (Zy (l:=r9) (i:=n) (d:=0) h1)
  have hl:=ZB.1 l1
  obtain⟨s1,s2,s3,s4,s5,_⟩:=ZxJ l1 ho
  have ho12:=ho.1
  have hz0:zcN (ZdM (r9.getD n 0) o) 12<zcN o5 12:=by
   rcases hc with⟨h0,_,h2⟩|⟨_,h2⟩
   ·subst h2
    have:=s4 l2
    omega
   ·omega
  have inv:∃n':Nat,((n:Int)+1)=n'∧n'≤r9.length∧OkP (ZdM (r9.getD n 0) o)∧(∀v,agP o5 v→Zbn v c=true→agP (ZdM (r9.getD n 0) o) v)∧(∀j,(ZdM (r9.getD n 0) o).getD j 0=0→o5.getD j 0=0)∧((n'=0∧true=m4∧ZdM (r9.getD n 0) o=o5)∨(true=true∧zcN (ZdM (r9.getD n 0) o) 12<zcN o5 12)):=
   ⟨n+1,by simp,by omega,s1,fun v h1 h2=>s2 v (ha v h1 h2) (l3 v h1 h2),fun j h=>hz j (s5 j h),Or.inr ⟨rfl,hz0⟩⟩
  rw[Zg (by omega),Zd ⟨by omega,by omega⟩,Int.toNat_natCast]
  refine⟨(true,(n:Int)+1,ZdM (r9.getD n 0) o),?_,inv,by (try dsimp only)<;>omega⟩
  rw[ZmV l1 ho,Zj,Zi (by omega) (by omega)]
 ·right
  rw[Zf (by omega),Zi (by omega) (by omega)]
  refine⟨_,rfl,md,o,rfl,ho,ha,hz,?_⟩
  rcases hc with⟨_,h2⟩|h2
  ·exact Or.inl h2
  ·exact Or.inr h2
theorem ZC8 {L:Zu} {o3:List Int} (hL:Zdd L) (hl:L.length≤1048576) (hp:OkP o3) :
  ∃r,loop (Zc6 L) (false,(0:Int),o3)=some r∧((∃md out,r = .inl (md,out)∧Two L o3 out∧((md=false∧out=o3∧Zm9 L o3)∨(md=true∧zcN out 12<zcN o3 12)))∨(∃i out,r = .inr (i,out)∧0≤i∧Two L o3 out∧∀v,agP o3 v→¬ZeT L v)):=by
 refine Zdv (f:=Zc6 L) (fun s:Bool×Int×List Int=>∃n:Nat,s.2.1=n∧n≤L.length∧Two L o3 s.2.2∧((s.1=false∧s.2.2=o3∧∀k,k<n→0≤Zc3 (L.getD k ([],0)).1 o3 (L.getD k ([],0)).1.length - (L.getD k ([],0)).2)∨(s.1=true∧zcN s.2.2 12<zcN o3 12))) (fun s=>L.length - s.2.1.toNat) _ ?_ _ ⟨0,rfl,Nat.zero_le _,⟨hp,fun v h _=>h,fun j h=>h⟩,Or.inl ⟨rfl,rfl,fun k hk=>by omega⟩⟩
 rintro⟨md,s,o⟩ ⟨n,hs,hn,⟨t1,t2,t3⟩,hc⟩
 dsimp only at hs t1 t2 t3 hc ⊢
 subst hs
 unfold Zc6
 dsimp only
 rcases Nat.lt_or_ge n L.length with h1|h1
 ·have hmem:=Zy (l:=L) (i:=n) (d:=([],0)) h1
  obtain⟨g1,g2⟩:=hL _ hmem
  rw[Zg (by omega),Zd ⟨by omega,by omega⟩,Int.toNat_natCast,Zmq g1 g2 t1,Zj]
  by_cases q:Zc3 (L.getD n ([],0)).1 o (L.getD n ([],0)).1.length - (L.getD n ([],0)).2<0
  ·right
   rw[Zg q]
   exact⟨_,rfl,Or.inr ⟨n,o,rfl,by omega,⟨t1,t2,t3⟩,fun v ha hs=>ZuG g1 t1 (t2 v ha hs) q (hs _ hmem)⟩⟩
  ·left
   obtain⟨r9,e9,k1,k2⟩:=ZwU g1 g2 t1
   obtain⟨md',out,e3,u1,u2,u3,u4⟩:=ZC9 t1 k1 k2 md (i3:=(n:Int)) ⟨by omega,by omega⟩
   rw[Zf q,Zd ⟨by omega,by omega⟩,e9,Zj,e3]
   refine⟨_,rfl,⟨n+1,by simp,by omega,⟨u1,fun v ha hs=>u2 v (t2 v ha hs) (hs _ hmem),fun j h=>t3 j (u3 j h)⟩,?_⟩,by (try dsimp only)<;>omega⟩
   dsimp only
   rcases u4 with⟨rfl,rfl⟩|⟨rfl,hz⟩
   ·rcases hc with⟨c1,c2,c3⟩|c
    ·refine Or.inl ⟨c1,c2,fun k hk=>?_⟩
     rcases Nat.lt_or_ge k n with h2|h2
     ·exact c3 k h2
     ·rw[show k=n by omega,←c2];omega
    ·exact Or.inr c
   ·refine Or.inr ⟨rfl,?_⟩
    rcases hc with⟨c1,c2,c3⟩|c
    ·rw[←c2];exact hz
    ·have:=c.2;omega
 ·right
  have hnn:n=L.length:=by omega
  rw[Zf (by omega)]
  refine⟨_,rfl,Or.inl ⟨md,o,rfl,⟨t1,t2,t3⟩,?_⟩⟩
  rcases hc with⟨c1,c2,c3⟩|c
  ·refine Or.inl ⟨c1,c2,fun x hx=>?_⟩
   obtain⟨k,hk,rfl⟩:=List.mem_iff_getElem.1 hx
   have:=c3 k (by omega)
   rwa [List.getD_eq_getElem?_getD,List.getElem?_eq_getElem hk]at this
  ·exact Or.inr c
theorem Zvd {L:Zu} {p:List Int} (hL:Zdd L) (hl:L.length≤1048576) (hp:OkP p) :
  ∃r,Zdl L p=some r∧Two L p r.2∧((r.1 = -1∧Zm9 L r.2)∨(0≤r.1∧∀v,agP p v→¬ZeT L v)):=by
 unfold Zdl
 refine Zdv (f:=ZeI L) (fun s:Bool×List Int=>Two L p s.2∧(s.1=false→Zm9 L s.2)) (fun s=>bif s.1 then 2*zcN s.2 12+1 else 0) (fun r=>Two L p r.2∧((r.1 = -1∧Zm9 L r.2)∨(0≤r.1∧∀v,agP p v→¬ZeT L v))) ?_ _ ⟨⟨hp,fun v h _=>h,fun j h=>h⟩,fun h=>by cases h⟩
 rintro⟨md,o⟩ ⟨⟨t1,t2,t3⟩,hk⟩
 dsimp only at t1 t2 t3 hk ⊢
 unfold ZeI
 dsimp only
 cases md with
 |false=>
  right
  rw[cff]
  exact⟨_,rfl,⟨t1,t2,t3⟩,Or.inl ⟨rfl,hk rfl⟩⟩
 |true=>
  rw[ctt]
  obtain⟨r,e,h|h⟩:=ZC8 hL hl t1
  ·obtain⟨md',out,rfl,⟨u1,u2,u3⟩,hc⟩:=h
   left
   rw[e]
   refine⟨_,rfl,⟨⟨u1,fun v ha hs=>u2 v (t2 v ha hs) hs,fun j h=>t3 j (u3 j h)⟩,?_⟩,?_⟩
   ·dsimp only
    intro hf
    rcases hc with⟨_,c2,c3⟩|⟨c1,_⟩
    ·rw[c2];exact c3
    ·rw[c1]at hf;cases hf
   ·dsimp only
    rw[ctt]
    rcases hc with⟨c1,_,_⟩|⟨c1,c2⟩
    ·rw[c1,cff];omega
    ·rw[c1,ctt];omega
  ·obtain⟨i,out,rfl,h0,⟨u1,u2,u3⟩,hc⟩:=h
   right
   rw[e]
   exact⟨_,rfl,⟨u1,fun v ha hs=>u2 v (t2 v ha hs) hs,fun j h=>t3 j (u3 j h)⟩,Or.inr ⟨h0,fun v ha hs=>hc v (t2 v ha hs) hs⟩⟩
theorem Zr1 {p:List Int} (hp:OkP p):∃r,Zgh p=some r∧(r=0∨∃k:Nat,k<12∧p.getD k 0=0∧r=(k:Int)+1):=by
 have h12:=hp.1
 unfold Zgh
 refine Zdv (f:=Zis p) (fun s:Int=>∃n:Nat,s=n∧n≤12) (fun s=>12 - s.toNat) _ ?_ _ ⟨0,rfl,by omega⟩
 rintro s ⟨n,rfl,hn⟩
 unfold Zis
 rcases Nat.lt_or_ge n 12 with h1|h1
 ·rw[Zg (by omega),Zd ⟨by omega,by omega⟩,Int.toNat_natCast]
  by_cases q:p.getD n 0=0
  ·right
   rw[ZI q,Zi (by omega) (by omega)]
   exact⟨_,rfl,Or.inr ⟨n,h1,q,rfl⟩⟩
  ·left
   rw[ZD q,Zi (by omega) (by omega)]
   exact⟨_,rfl,⟨n+1,by simp,by omega⟩,by omega⟩
 ·right
  rw[Zf (by omega)]
  exact⟨_,rfl,Or.inl rfl⟩
abbrev SR:=Int×Int×List Bool×Zu×List ZJ
def Zgo (S:List ZJ):Prop:=∀s∈S,s.2.2.2.1.length≤12
structure SeaOk (L:Zu) (S:List ZJ) (fuel:Int) (L':Zu) (S':List ZJ) (f':Int):Prop where
 fu:0≤f'∧f'≤fuel
 good:Zdd L'
 len:L'.length+S.length=L.length+S'.length
 top:S'.length≤1000
 few:Zgo S'
theorem ZzX {D:List Int} {L:Zu} {S:List ZJ} {f:Int} (hD:ZdF D) (hL:Zdd L) (hl:L.length≤2000) (hS:S.length<1000) (hw:Zgo S) (hf:0≤f) :
  ∃r,Zcm f D L S=some r∧SeaOk L S f r.2.1 r.2.2 r.1:=by
 have hd:=Zhg hD
 have hlo:=Zxe hD
 have hc:Zhf (Zbj D)=(true,1,Zbo (ZbO (Zbj D))):=by
  unfold Zhf
  rw[hlo,decide_eq_true (show (Zbj D).length≤40 by unfold Zbj;rw[List.length_map];omega)]
  rfl
 have hcon:ZbG (Zbo (ZbO (Zbj D)),1)=true:=ZtU (fun x hx=>(Zf4 hlo).1 x ((Zm3 hlo x).1 hx)) (Zrh hlo)
 have hlf:=Zm2 (Zbj D)
 have hol:(Zbo (ZbO (Zbj D))).length≤12:=by unfold Zbo;rw[List.length_map];exact hlf
 refine⟨(f,L++[(Zbo (ZbO (Zbj D)),1)],S++[((7:Int),((0:Int),((0:Int),(Zbo (ZbO (Zbj D)),(1:Int)))))]),?_,?_⟩
 ·unfold Zcm
  refine(ZbY (f:=Zcw f D L S) D 0 (fun x=>0 - x) [] (fun _=>(f,L++[(Zbo (ZbO (Zbj D)),1)],S++[((7:Int),((0:Int),((0:Int),(Zbo (ZbO (Zbj D)),(1:Int)))))])) (fun i out hi ho=>?_) ?_)
  ·have:=ZB.1 (hD.1 _ (Zy (l:=D) (i:=i) (d:=0) hi))
   unfold Zcw
   dsimp only
   rw[Zg (by omega),Zd ⟨by omega,by omega⟩,Int.toNat_natCast,Zi (by omega) (by omega),Zd (by simp only[Zp,List.length_cons,List.length_nil];simp at ho;omega),Zi (by omega) (by omega)]
  ·unfold Zcw ZgX
   dsimp only
   rw[Zf (by omega),List.nil_append,show D.map (fun x=>0 - x)=Zbj D from rfl,Zi1 _ (by unfold Zbj;rw[List.length_map];omega),Zj,hc]
   dsimp only
   rw[Zd (by simp[Zp];omega),Zd (by simp[Zp];omega)]
   rfl
 ·refine⟨⟨hf,Int.le_refl _⟩,fun c hcm=>?_,by simp;omega,by simp;omega,fun s hs=>?_⟩
  ·rcases List.mem_append.1 hcm with h|h
   ·exact hL c h
   ·rw[List.mem_singleton]at h
    subst h
    exact⟨hcon,by (try dsimp only)<;>omega⟩
  ·rcases List.mem_append.1 hs with h|h
   ·exact hw s h
   ·rw[List.mem_singleton]at h
    subst h
    exact hol
theorem SeaOk.trans {L L' L'':Zu} {S S' S'':List ZJ} {f f' f'':Int} (a:SeaOk L S f L' S' f') (b:SeaOk L' S' f' L'' S'' f''):SeaOk L S f L'' S'' f'':=
 ⟨⟨b.fu.1,by have:=a.fu;have:=b.fu;omega⟩,b.good,by have:=a.len;have:=b.len;omega,b.top,b.few⟩
theorem Zvp {D:List Int} {L:Zu} {S:List ZJ} {fuel:Int} {rec_:Int→List Int→Zu→List ZJ→Option SR}
  (hrec:∀(l:Int) (L':Zu) (S':List ZJ) (f':Int),ZdF (D++[l])→Zdd L'→L'.length≤400+S'.length→S'.length≤1000→Zgo S'→(0≤f'∧f'≤2000)→∃r,rec_ f' (D++[l]) L' S'=some r∧SeaOk L' S' f' r.2.2.2.1 r.2.2.2.2 r.2.1)
  (hD:ZdF D) (hL:Zdd L) (hl:L.length≤400+S.length) (hS:S.length≤1000) (hw:Zgo S) (hf:0≤fuel∧fuel≤2000):∃r,Z7 rec_ fuel D L S=some r∧SeaOk L S fuel r.2.2.2.1 r.2.2.2.2 r.2.1:=by
 have hd:=Zhg hD
 have same:∀f,(0≤f∧f≤fuel)→SeaOk L S fuel L S f:=fun f h=>⟨h,hL,by omega,hS,hw⟩
 unfold Z7
 by_cases q1:fuel=0
 ·exact⟨_,by rw[ZI q1],same fuel ⟨hf.1,Int.le_refl _⟩⟩
 rw[ZD q1]
 by_cases q2:1000≤(S.length:Int)
 ·exact⟨_,by rw[Zg q2],same fuel ⟨hf.1,Int.le_refl _⟩⟩
 rw[Zf q2,Zi (by omega) (by omega),Zd ⟨by omega,by simp only[Zp];omega,rfl⟩]
 obtain⟨p1,p2,p3,p4,p5⟩:=Znm hD D.length (Nat.le_refl _)
 have tail:∃r,ZbT fuel D L S rec_ (Zew D D.length)=some r∧SeaOk L S fuel r.2.2.2.1 r.2.2.2.2 r.2.1:=by
  unfold ZbT
  obtain⟨⟨i,out⟩,e1,⟨t1,t2,t3⟩,hc⟩:=Zvd hL (by omega) p1
  dsimp only at t1 t2 t3 hc
  rw[e1,Zj]
  dsimp only
  rcases hc with⟨rfl,hk⟩|⟨h0,hk⟩
  ·obtain⟨r5,e5,h⟩:=Zr1 t1
   rw[Zf (by omega),e5,Zj]
   by_cases q5:r5=0
   ·rw[ZI q5]
    have h12:=t1.1
    refine Zdv (f:=Zck fuel L S (-1,out)) (fun s:Int×List Bool=>∃n:Nat,s.1=n∧n≤12∧s.2.length=n) (fun s=>12 - s.1.toNat) (fun r=>SeaOk L S fuel r.2.2.2.1 r.2.2.2.2 r.2.1) ?_ _ ⟨0,rfl,by omega,rfl⟩
    rintro⟨s,o⟩ ⟨n,hs,hn,ho⟩
    dsimp only at hs ho
    subst hs
    unfold Zck
    dsimp only
    rcases Nat.lt_or_ge n 12 with h1|h1
    ·left
     rw[Zg (by omega),Zd ⟨by omega,by omega⟩,Zd (by simp[Zp];omega),Zi (by omega) (by omega)]
     exact⟨_,rfl,⟨n+1,by simp,by omega,by simp;omega⟩,by (try dsimp only)<;>omega⟩
    ·right
     rw[Zf (by omega)]
     exact⟨_,rfl,same _ ⟨by (try dsimp only)<;>omega,by (try dsimp only)<;>omega⟩⟩
   ·obtain⟨k,hk12,hk0,rfl⟩:=h.resolve_left q5
    rw[ZD q5,Zi (by omega) (by omega)]
    have hvar:∀l:Int,vof l=(k:Int)+1→∀i,i<D.length→vof (D.getD i 0)≠vof l:=fun l hl i hi=>by
     rw[hl]
     exact p3 k (t3 k hk0) i hi
    refine Zdv (f:=ZdA D ((k:Int)+1) rec_) (fun s:Int×Int×Zu×List ZJ=>∃n:Nat,s.1=n∧n≤2∧SeaOk L S fuel s.2.2.1 s.2.2.2 s.2.1) (fun s=>2 - s.1.toNat) (fun r=>SeaOk L S fuel r.2.2.2.1 r.2.2.2.2 r.2.1) ?_ _ ⟨0,rfl,by omega,same _ ⟨by (try dsimp only)<;>omega,by (try dsimp only)<;>omega⟩⟩
    rintro⟨s,f,L',S'⟩ ⟨n,hs,hn,hx⟩
    dsimp only at hs hx
    subst hs
    unfold ZdA
    dsimp only
    have hlen:=hx.len
    have htop:=hx.top
    have hfu:=hx.fu
    rcases Nat.lt_or_ge n 2 with h1|h1
    ·have hlit:∃l,[((k:Int)+1),(0 - ((k:Int)+1))].getD n 0=l∧vof l=(k:Int)+1∧Z8 l=true:=by
      have:n=0∨n=1:=by omega
      rcases this with rfl|rfl
      ·exact⟨(k:Int)+1,rfl,by unfold vof;omega,ZB.2 ⟨by omega,by omega,by omega⟩⟩
      ·exact⟨0 - ((k:Int)+1),rfl,by unfold vof;omega,ZB.2 ⟨by omega,by omega,by omega⟩⟩
     obtain⟨l,el,hv,hli⟩:=hlit
     obtain⟨r8,e8,x8⟩:=hrec l L' S' f (ZvC hD hli (hvar l hv)) hx.good (by omega) htop hx.few ⟨by omega,by omega⟩
     rw[Zg (by simp;omega),Zd ⟨by omega,by simp;omega⟩,Zd (by simp[Zp];omega),Zd (by simp[Zp];omega),List.nil_append,Int.toNat_natCast,el,e8,Zj]
     unfold Zf9
     dsimp only
     by_cases q:r8.1=2
     ·left
      rw[Zbi q,Zi (by omega) (by omega)]
      exact⟨_,rfl,⟨n+1,by simp,by omega,hx.trans x8⟩,by (try dsimp only)<;>omega⟩
     ·right
      rw[ZdV q]
      exact⟨_,rfl,hx.trans x8⟩
    ·right
     rw[Zf (by simp;omega)]
     unfold Zf8
     dsimp only
     by_cases q3:1000≤(S'.length:Int)
     ·rw[Zg q3]
      exact⟨_,rfl,hx⟩
     ·obtain⟨r,e,hr⟩:=ZzX (f:=f) hD hx.good (by omega) (by omega) hx.few hfu.1
      rw[Zf q3,e,Zj]
      exact⟨_,rfl,hx.trans hr⟩
  ·obtain⟨r,e,hr⟩:=ZzX (f:=fuel - 1) hD hL (by omega) (by omega) hw (by omega)
   rw[Zg h0,e,Zj]
   exact⟨_,rfl,(same (fuel - 1) ⟨by omega,by omega⟩).trans hr⟩
 obtain⟨r,er,hr⟩:=tail
 refine⟨r,?_,hr⟩
 refine ZC (f:=ZcZ fuel D L S rec_) (fun s:Int×List Int=>∃n:Nat,s.1=n∧n≤D.length∧s.2=Zew D n) (fun s=>D.length - s.1.toNat) (fun _=>r) ?_ _ ⟨0,rfl,Nat.zero_le _,rfl⟩
 rintro⟨s,o⟩ ⟨n,hs,hn,ho⟩
 dsimp only at hs ho ⊢
 subst hs
 subst ho
 unfold ZcZ
 dsimp only
 rcases Nat.lt_or_ge n D.length with h1|h1
 ·left
  have hli:=hD.1 _ (Zy (l:=D) (i:=n) (d:=0) h1)
  refine⟨((n:Int)+1,Zew D (n+1)),?_,⟨n+1,by simp,by omega,rfl⟩,by (try dsimp only)<;>omega,rfl⟩
  rw[Zg (by omega),Zd ⟨by omega,by omega⟩,Int.toNat_natCast,ZmV hli (Znm hD n hn).1,Zj,Zi (by omega) (by omega)]
  rfl
 ·right
  have:n=D.length:=by omega
  subst this
  rw[Zf (by omega),er]
  rfl
theorem ZuB:∀(n:Nat) (D:List Int) (L:Zu) (S:List ZJ) (fuel:Int),ZdF D→Zdd L→L.length≤400+S.length→S.length≤1000→Zgo S→(0≤fuel∧fuel≤2000)→13≤n+D.length→∃r,ZR n fuel D L S=some r∧SeaOk L S fuel r.2.2.2.1 r.2.2.2.2 r.2.1
 |0,D,L,S,fuel,hD,_,_,_,_,_,hn=>by have:=Zhg hD;omega
 |n+1,D,L,S,fuel,hD,hL,hl,hS,hw,hf,hn=>by
  show ∃r,Z7 (ZR n) fuel D L S=some r∧_
  exact Zvp (fun l L' S' f' h1 h2 h3 h4 h5 h6=>ZuB n (D++[l]) L' S' f' h1 h2 h3 h4 h5 h6 (by rw[List.length_append,List.length_singleton];omega)) hD hL hl hS hw hf
theorem ZzI (D:List Int) (f:Int) (L:Zu):ZgE f D L=Z7 (ZR 64) f D L []:=by
 unfold ZgE Z7
 have e1:Zj2 D=fun r5=>ZdA D r5 (ZR 64):=rfl
 have e2:ZgY f D L=ZbT f D L [] (ZR 64):=by
  unfold ZgY ZbT
  rw[e1]
  rfl
 have e3:ZgZ f D L=ZcZ f D L [] (ZR 64):=by
  unfold ZgZ ZcZ
  rw[e2]
 rw[e3]
 rfl
end Go.AE.Y
namespace Go.AE.Y
open Go Go.AE
theorem ZAT (r:List Int→Int→Bool→Zu→Option VR) (D:List Int) (f:Int) (m:Bool) (L:Zu):Zde r D f m L=ZH (ZA 64) D f m L []:=by
 unfold Zde ZH
 have e1:ZeP D=fun r4=>ZbX D r4 (ZA 64):=rfl
 have e2:Zdr D f m L=ZV D f m L [] (ZA 64):=by
  unfold Zdr ZV
  rw[e1]
  rfl
 have e3:Zds D f m L=Zbr D f m L [] (ZA 64):=by
  unfold Zds Zbr
  rw[e2]
 rw[e3]
 rfl
theorem Zx3 (a:Zu) (h:a.length≤1048576):Zbt a=some a:=by
 unfold Zbt
 refine Zup (fun e=>by rw[e]) ?_
 rw[Zd (by simp only[List.length_nil,Zp];omega),List.nil_append]
end Go.AE.Y
namespace Go.AE.Y
open Go Go.AE
set_option maxHeartbeats 400000
theorem ZrX {α β:Type} {p:Prop} [Decidable p] {m:Option α} {f:α→Option β}:(rq p m).bind f=rq p (m.bind f):=by
 unfold rq
 split<;>rfl
theorem Zuy {α:Type} {p:Prop} [Decidable p] {m:Option α} (h:¬p):rq p m=none:=if_neg h
theorem Zv0 {α:Type} {p:Prop} [Decidable p] {m m':Option α} (h:p→m=m'):rq p m=rq p m':=by
 unfold rq
 split
 ·exact h ‹_›
 ·rfl
theorem ZzT {c:List (Int×Int)×Int} {p:List Int} (hc:ZbG c=true) (hl:c.1.length≤1048576) (hp:OkP p) (h0:0≤Zc3 c.1 p c.1.length - c.2):ZeU c p=Zb8 c p:=by
 unfold ZeU Zb8
 rw[Zmq hc hl hp,Zjn hc hl hp,Zj,Zj]
 refine ZsE (fun _=>True) ?_ (fun _ _ _ _=>trivial) trivial
 rintro⟨i,o⟩ -
 unfold ZfR Zc2
 dsimp only
 by_cases q:i<(c.1.length:Int)
 ·rw[Zg q,Zg q,Zg h0]
  refine Zv0 fun hi=>?_
  have l1:=((Znx hc).2 i.toNat (by omega)).1
  rw[ZpM l1 hp,ZpG l1 hp,Zj,Zj]
  by_cases z:unZ (c.1.getD i.toNat (0,0)).2 p=0
  ·rw[ZI z,ZI z,Zd hi]
   by_cases y:Zc3 c.1 p c.1.length - c.2<(c.1.getD i.toNat (0,0)).1
   ·rw[Zg y,Zg y,Zd hi]
   ·rw[Zf y,Zf y]
  ·rw[ZD z,ZD z]
 ·rw[Zf q,Zf q]
theorem ZB8 (i:Int) (r:List Int) (s:Bool×Int×List Int):Zc7 i r s=ZdD i r s:=by
 obtain⟨m,k,o⟩:=s
 unfold Zc7 ZdD Zev
 dsimp only
 by_cases q:k<(r.length:Int)
 ·rw[Zg q,Zg q]
  refine Zv0 fun hi=>?_
  by_cases z:0<r.getD k.toNat 0
  ·rw[Zg z,Zg z,ZrX,ZrX,Zj]
  ·rw[Zf z,Zf z,ZrX,ZrX,ZrX,Zj]
 ·rw[Zf q,Zf q]
theorem ZB7 {L:Zu} (hL:Zdd L) {s:Bool×Int×List Int} (hp:OkP s.2.2):Zc6 L s=Zcy L s:=by
 obtain⟨m,i,o⟩:=s
 dsimp only at hp
 unfold Zc6 Zcy
 dsimp only
 by_cases q:i<(L.length:Int)
 ·rw[Zg q,Zg q]
  refine Zv0 fun hi=>?_
  obtain⟨g1,g2⟩:=hL _ (Zy (l:=L) (i:=i.toNat) (d:=([],0)) (by omega))
  rw[Zmq g1 g2 hp,Zjn g1 g2 hp,Zj,Zj]
  by_cases z:Zc3 (L.getD i.toNat ([],0)).1 o (L.getD i.toNat ([],0)).1.length - (L.getD i.toNat ([],0)).2<0
  ·rw[Zg z,Zg z]
  ·rw[Zf z,Zf z,Zd hi,ZzT g1 g2 hp (by omega)]
   congr 1
   funext r
   exact congrArg (fun f=>loop f (m,(0:Int),o)) (funext fun s=>ZB8 i r s)
 ·rw[Zf q,Zf q]
theorem ZB6 {L:Zu} (hL:Zdd L) (hl:L.length≤1048576) {s s':Bool×Int×List Int} (hp:OkP s.2.2) (h:Zcy L s=some (.inl s')):OkP s'.2.2:=by
 obtain⟨m,i,o⟩:=s
 dsimp only at hp
 unfold Zcy at h
 dsimp only at h
 by_cases q:i<(L.length:Int)
 ·rw[Zg q]at h
  by_cases hi:0≤i∧i<(L.length:Int)
  ·rw[Zd hi]at h
   obtain⟨g1,g2⟩:=hL _ (Zy (l:=L) (i:=i.toNat) (d:=([],0)) (by omega))
   rw[Zjn g1 g2 hp,Zj]at h
   by_cases z:Zc3 (L.getD i.toNat ([],0)).1 o (L.getD i.toNat ([],0)).1.length - (L.getD i.toNat ([],0)).2<0
   ·rw[Zg z]at h
    cases h
   ·obtain⟨r9,e9,k1,k2⟩:=Zrb g1 g2 hp
    obtain⟨md,out,e3,u1,_⟩:=ZAk hp k1 k2 m (i3:=i) ⟨by omega,by omega⟩
    rw[Zf z,e9,Zj,e3]at h
    cases h
    exact u1
  ·rw[Zuy hi]at h
   cases h
 ·rw[Zf q]at h
  cases h
theorem ZxG {L:Zu} {p:List Int} (hL:Zdd L) (hl:L.length≤1048576) (hp:OkP p):Zdl L p=Zd3 L p:=by
 unfold Zdl Zd3
 rw[ZqY (by have:=hp.1;omega),Zj]
 refine ZsE (fun s:Bool×List Int=>OkP s.2) ?_ ?_ hp
 ·rintro⟨m,o⟩ ho
  dsimp only at ho
  unfold ZeI Zer
  dsimp only
  cases m with
  |false=>rw[cff,cff]
  |true=>
   rw[ctt,ctt]
   exact ZsE (fun s:Bool×Int×List Int=>OkP s.2.2) (fun s hs=>ZB7 hL hs) (fun s s' hs h=>ZB6 hL hl hs h) ho
 ·rintro⟨m,o⟩ s' ho h
  dsimp only at ho
  unfold Zer at h
  dsimp only at h
  cases m with
  |false=>rw[cff]at h;cases h
  |true=>
   rw[ctt]at h
   obtain⟨r,e,h2|h2⟩:=ZAj hL hl ho
   ·obtain⟨md,out,rfl,⟨u1,_⟩,_⟩:=h2
    rw[e]at h
    cases h
    exact u1
   ·obtain⟨i,out,rfl,_⟩:=h2
    rw[e]at h
    cases h
end Go.AE.Y
namespace Go.AE.Y
open Go Go.AE
set_option maxHeartbeats 400000
def ZwC (D:List Int):Zu:=[(Zbo (ZbO (Zbj D)),1)]
def ZwB (D:List Int):List ZJ:=[((7:Int),((0:Int),((0:Int),(Zbo (ZbO (Zbj D)),(1:Int)))))]
theorem Zug {D:List Int} (hD:ZdF D):Zhf (Zbj D)=(true,1,Zbo (ZbO (Zbj D))):=by
 have hd:=Zhg hD
 unfold Zhf
 rw[Zxe hD,decide_eq_true (show (Zbj D).length≤40 by unfold Zbj;rw[List.length_map];omega)]
 rfl
theorem ZBo {D:List Int} {L:Zu} {S:List ZJ} (hD:ZdF D) (hl:L.length≤2000) (hS:S.length<1000) (f:Int) (m:Bool) :
  Zbz D f m L S=some (L++ZwC D,S++ZwB D):=by
 have hd:=Zhg hD
 have hlf:=Zm2 (Zbj D)
 have hol:(Zbo (ZbO (Zbj D))).length≤12:=by unfold Zbo;rw[List.length_map];exact hlf
 unfold Zbz
 refine(ZbY (f:=Zbd D L S) D 0 (fun x=>0 - x) [] (fun _=>(L++ZwC D,S++ZwB D)) (fun i out hi ho=>?_) ?_)
 ·have:=ZB.1 (hD.1 _ (Zy (l:=D) (i:=i) (d:=0) hi))
  unfold Zbd
  dsimp only
  rw[Zg (by omega),Zd ⟨by omega,by omega⟩,Int.toNat_natCast,Zi (by omega) (by omega),Zd (by simp only[Zp,List.length_cons,List.length_nil];simp at ho;omega),Zi (by omega) (by omega)]
 ·unfold Zbd ZdH ZdI
  dsimp only
  rw[Zf (by omega),List.nil_append,show D.map (fun x=>0 - x)=Zbj D from rfl,ZiM _ (by unfold Zbj;rw[List.length_map];omega),Zj,Zug hD]
  dsimp only
  rw[Zd (by simp[Zp];omega),ZCX _ (by (try dsimp only)<;>omega),Zj,Zd (by simp[Zp];omega)]
  rfl
theorem ZzW {D:List Int} {L:Zu} {S:List ZJ} (hD:ZdF D) (hl:L.length≤2000) (hS:S.length<1000) (f:Int) :
  Zcm f D L S=some (f,L++ZwC D,S++ZwB D):=by
 have hd:=Zhg hD
 have hlf:=Zm2 (Zbj D)
 have hol:(Zbo (ZbO (Zbj D))).length≤12:=by unfold Zbo;rw[List.length_map];exact hlf
 unfold Zcm
 refine(ZbY (f:=Zcw f D L S) D 0 (fun x=>0 - x) [] (fun _=>(f,L++ZwC D,S++ZwB D)) (fun i out hi ho=>?_) ?_)
 ·have:=ZB.1 (hD.1 _ (Zy (l:=D) (i:=i) (d:=0) hi))
  unfold Zcw
  dsimp only
  rw[Zg (by omega),Zd ⟨by omega,by omega⟩,Int.toNat_natCast,Zi (by omega) (by omega),Zd (by simp only[Zp,List.length_cons,List.length_nil];simp at ho;omega),Zi (by omega) (by omega)]
 ·unfold Zcw ZgX
  dsimp only
  rw[Zf (by omega),List.nil_append,show D.map (fun x=>0 - x)=Zbj D from rfl,Zi1 _ (by unfold Zbj;rw[List.length_map];omega),Zj,Zug hD]
  dsimp only
  rw[Zd (by simp[Zp];omega),Zd (by simp[Zp];omega)]
  rfl
theorem ZCG {p:List Int} {r:Int×Bool×List Bool} {q:Int} (h1:Zet p=some r) (h2:Zgh p=some q):q=r.1:=by
 unfold Zet at h1
 unfold Zgh at h2
 refine ZvS (fun (s:Int×List Bool) (t:Int)=>s.1=t) (fun r q=>q=r.1) ?_ rfl h1 h2
 rintro⟨i,o⟩ t rfl a b ha hb
 unfold Zgu at ha
 unfold Zis at hb
 dsimp only at ha hb
 by_cases c1:i<(p.length:Int)
 ·rw[Zg c1]at ha hb
  by_cases c2:0≤i∧i<(p.length:Int)
  ·rw[Zd c2]at ha hb
   by_cases c3:p.getD i.toNat 0=0
   ·rw[ZI c3]at ha hb
    by_cases c4:i64 (i+1)
    ·rw[Zd c4]at ha hb
     cases ha
     cases hb
     exact Or.inr ⟨_,_,rfl,rfl,rfl⟩
    ·rw[Zuy c4]at hb
     cases hb
   ·rw[ZD c3]at ha hb
    by_cases c5:o.length+[(decide ((0:Int)<(p.getD i.toNat 0)))].length≤Zp
    ·rw[Zd c5]at ha
     by_cases c4:i64 (i+1)
     ·rw[Zd c4]at ha hb
      cases ha
      cases hb
      exact Or.inl ⟨_,_,rfl,rfl,rfl⟩
     ·rw[Zuy c4]at hb
      cases hb
    ·rw[Zuy c5]at ha
     cases ha
  ·rw[Zuy c2]at hb
   cases hb
 ·rw[Zf c1]at ha hb
  unfold ZiT at ha
  cases ha
  cases hb
  exact Or.inr ⟨_,_,rfl,rfl,rfl⟩
end Go.AE.Y
namespace Go.AE.Y
open Go Go.AE
set_option maxHeartbeats 400000
def ZFD (c:List (Int×Int)×Int):Int:=(c.1.map (fun t=>t.1)).sum
def ZFA (c:List (Int×Int)×Int):List (Int×Int)×Int:=(c.1.map (fun t=>(t.1,0 - t.2)),max 0 (ZFD c - c.2+1))
def ZFf (L:Zu):Prop:=∀q,OkP q→¬ZFv L q
def ZFB (c:List (Int×Int)×Int):ZJ:=(7,(0,(0,c)))
inductive RupExt (L:Zu) (S:List ZJ):Zu→List ZJ→Prop where
 |refl:RupExt L S L S
 |snoc {L':Zu} {S':List ZJ} {c:List (Int×Int)×Int}:RupExt L S L' S'→ZbG c=true→c.1.length≤12→ZFf (L'++[ZFA c])→RupExt L S (L'++[c]) (S'++[ZFB c])
theorem RupExt.trans {L L' L'':Zu} {S S' S'':List ZJ} (a:RupExt L S L' S') (b:RupExt L' S' L'' S''):RupExt L S L'' S'':=by
 induction b with
 |refl=>exact a
 |snoc _ h1 h2 h3 ih=>exact ih.snoc h1 h2 h3
end Go.AE.Y
namespace Go.AE.Y
open Go Go.AE
set_option maxHeartbeats 400000
end Go.AE.Y
namespace Go.AE.Y
open Go Go.AE
set_option maxHeartbeats 400000
theorem ZDx {c:Zvw}:ZbG c=true↔(∀i,i<c.1.length→Z8 (c.1.getD i (0,0)).2=true∧1≤(c.1.getD i (0,0)).1∧(c.1.getD i (0,0)).1≤1000)∧(c.1.Pairwise (fun x y=>vof x.2<vof y.2))∧0≤c.2∧c.2≤20000:=by
 constructor
 ·intro h
  obtain⟨h1,h2⟩:=Znx h
  refine⟨h2,?_,h1⟩
  unfold ZbG at h
  simp only[Bool.and_eq_true,decide_eq_true_eq,List.all_eq_true,List.mem_range]at h
  have step:∀i,i+1<c.1.length→vof (c.1.getD i (0,0)).2<vof (c.1.getD (i+1) (0,0)).2:=fun i hi=>by
   have h3:=h.1 (i+1) hi
   unfold ZfS at h3
   simp only[Bool.and_eq_true,Bool.or_eq_true,decide_eq_true_eq,beq_iff_eq,Nat.add_sub_cancel]at h3
   have:=h3.2.2
   omega
  have far:∀k i,i+k+1<c.1.length→vof (c.1.getD i (0,0)).2<vof (c.1.getD (i+k+1) (0,0)).2:=by
   intro k
   induction k with
   |zero=>exact fun i hi=>step i hi
   |succ k ih=>
    intro i hi
    have a:=ih i (by omega)
    have b:=step (i+k+1) (by omega)
    rw[show i+(k+1)+1=i+k+1+1 by omega]
    omega
  rw[List.pairwise_iff_getElem]
  intro i j hi hj hij
  have:=far (j - i - 1) i (by omega)
  rw[show i+(j - i - 1)+1=j by omega]at this
  rwa [List.getD_eq_getElem?_getD,List.getD_eq_getElem?_getD,List.getElem?_eq_getElem hi,List.getElem?_eq_getElem hj]at this
 ·rintro⟨h1,h2,h3,h4⟩
  unfold ZbG
  simp only[Bool.and_eq_true,decide_eq_true_eq,List.all_eq_true,List.mem_range]
  refine⟨fun i hi=>?_,h3,h4⟩
  obtain⟨a,b,e⟩:=h1 i hi
  unfold ZfS
  simp only[Bool.and_eq_true,Bool.or_eq_true,decide_eq_true_eq,beq_iff_eq]
  refine⟨a,⟨b,e⟩,?_⟩
  by_cases q:i=0
  ·exact Or.inl q
  ·right
   have:=List.pairwise_iff_getElem.1 h2 (i - 1) i (by omega) hi (by omega)
   rwa [List.getD_eq_getElem?_getD,List.getD_eq_getElem?_getD,List.getElem?_eq_getElem hi,List.getElem?_eq_getElem (show i - 1<c.1.length by omega)]
theorem ZvB {c:Zvw}:ZbG c=true↔(∀t∈c.1,Z8 t.2=true∧1≤t.1∧t.1≤1000)∧(c.1.Pairwise (fun x y=>vof x.2<vof y.2))∧0≤c.2∧c.2≤20000:=by
 rw[ZDx]
 refine and_congr_left (fun _=>⟨fun h t ht=>?_,fun h i hi=>h _ (Zy hi)⟩)
 obtain⟨i,hi,rfl⟩:=List.mem_iff_getElem.1 ht
 have:=h i hi
 rwa [List.getD_eq_getElem?_getD,List.getElem?_eq_getElem hi]at this
end Go.AE.Y
namespace Go.AE.Y
open Go Go.AE
set_option maxHeartbeats 400000
def Zoo (m:Zr) (i:Nat) (c:Int) (n:Nat):List (Int×Int):=(List.range n).map (fun (k:Nat)=>(c*(k:Int),Zbh m i k))
def Zf3 (m:Zr) (r:Zz):Nat→List (Int×Int)
 |0=>[]
 |n+1=>Zf3 m r n++Zoo m (r.2.1.getD n 0).toNat (r.2.2.1.getD n 0) (Zdk m (r.2.1.getD n 0).toNat)
def ZiX (m:Zr) (r:Zz):Int×List Int:=ZcR (Zf3 m r r.2.1.length) r.2.2.2.1
def ZpK (m:Zr) (r:Zz):Zvw:=ofR (Zcz (ZiX m r).2 (ZiX m r).1)
structure ZcS (m:Zr) (r:Zz):Prop where
 vars:∀i,i<r.2.1.length→0≤r.2.1.getD i 0∧(r.2.1.getD i 0).toNat<m.1.length
 nodup:r.2.1.Nodup
 pos:1≤r.2.1.length
 lin:r.1=1→r.2.2.1.length=r.2.1.length∧(∀i,-9≤r.2.2.1.getD i 0∧r.2.2.1.getD i 0≤9) ∧ -1000≤r.2.2.2.1∧r.2.2.2.1≤1000
 two:r.1=4→r.2.1.length=2
 kind:r.1=1∨r.1=2∨r.1=3∨r.1=4
theorem ZAU {l:List Int} {n:Int} (h:ZnB l n=true):l.Nodup∧∀i,i<l.length→0≤l.getD i 0∧l.getD i 0≤n - 1:=by
 unfold ZnB at h
 rw[List.all_eq_true]at h
 have h1:∀i,i<l.length→(0≤l.getD i 0∧l.getD i 0≤n - 1)∧∀x∈l.take i,l.getD i 0≠x:=fun i hi=>by
  have:=h i (List.mem_range.2 hi)
  unfold Zll at this
  simp only[Bool.and_eq_true,decide_eq_true_eq,Bool.not_eq_true',List.any_eq_false,beq_iff_eq]at this
  exact this
 refine⟨?_,fun i hi=>(h1 i hi).1⟩
 unfold List.Nodup
 rw[List.pairwise_iff_getElem]
 intro i j hi hj hij e
 have h2:=(h1 j hj).2 l[i] (List.mem_iff_getElem.2 ⟨i,by rw[List.length_take];omega,by rw[List.getElem_take]⟩)
 rw[List.getD_eq_getElem?_getD,List.getElem?_eq_getElem hj]at h2
 exact h2 e.symm
theorem ZoN {m:Zr} {r:Zz} (hm:Zx m=true) (hr:r∈m.2):ZcS m r:=by
 have hm':=hm
 unfold Zx at hm
 simp only[Bool.and_eq_true,decide_eq_true_eq,List.all_eq_true]at hm
 have h:=hm.2.2.2.2 r hr
 unfold Zfq at h
 simp only[Bool.and_eq_true,decide_eq_true_eq]at h
 obtain⟨h1,h2,h3,h4⟩:=h
 obtain⟨n1,n2⟩:=ZAU h1
 have hk:r.1=1∧ZvQ r=true∨r.1=2∨r.1=3∨(r.1=4∧r.2.1.length=2):=by
  unfold Zf2 at h4
  by_cases k1:r.1=1
  ·rw[ZI k1]at h4
   exact Or.inl ⟨k1,h4⟩
  rw[ZD k1]at h4
  by_cases k3:r.1=3
  ·exact Or.inr (Or.inr (Or.inl k3))
  rw[ZD k3]at h4
  by_cases k4:r.1=4
  ·rw[ZI k4,decide_eq_true_eq]at h4
   exact Or.inr (Or.inr (Or.inr ⟨k4,h4⟩))
  rw[ZD k4,beq_iff_eq]at h4
  exact Or.inr (Or.inl h4)
 refine⟨fun i hi=>by have:=n2 i hi;omega,n1,h2,fun k1=>?_,fun k4=>?_,?_⟩
 ·rcases hk with⟨_,hl⟩|k|k|⟨k,_⟩
  ·unfold ZvQ at hl
   simp only[Bool.and_eq_true,decide_eq_true_eq,List.all_eq_true]at hl
   refine⟨by omega,fun i=>?_,hl.2.1.1,hl.2.1.2⟩
   rcases Nat.lt_or_ge i r.2.2.1.length with q|q
   ·have:=hl.2.2 _ (Zy (l:=r.2.2.1) (i:=i) (d:=0) q)
    unfold ZoT at this
    simp only[Bool.and_eq_true,decide_eq_true_eq]at this
    exact this.2
   ·rw[List.getD_eq_getElem?_getD,List.getElem?_eq_none q]
    decide
  ·omega
  ·omega
  ·omega
 ·rcases hk with⟨k,_⟩|k|k|⟨_,k⟩
  ·omega
  ·omega
  ·omega
  ·exact k
 ·rcases hk with⟨k,_⟩|k|k|⟨k,_⟩
  ·exact Or.inl k
  ·exact Or.inr (Or.inl k)
  ·exact Or.inr (Or.inr (Or.inl k))
  ·exact Or.inr (Or.inr (Or.inr k))
theorem ZgL {m:Zr} {r:Zz} (hm:Zx m=true) (h:ZcS m r):r.2.1.length≤5:=by
 have h5:m.1.length≤5:=by
  unfold Zx at hm
  simp only[Bool.and_eq_true,decide_eq_true_eq]at hm
  exact hm.1.2
 have hs:=ZAE (f:=fun _=>1) (n:=m.1.length) (r.2.1.map Int.toNat) (Zpd (fun a ha b hb e=>by
  obtain⟨i,hi,ei⟩:=List.mem_iff_getElem.1 ha
  obtain⟨j,hj,ej⟩:=List.mem_iff_getElem.1 hb
  have h1:=(h.vars i hi).1
  have h2:=(h.vars j hj).1
  rw[List.getD_eq_getElem?_getD,List.getElem?_eq_getElem hi]at h1
  rw[List.getD_eq_getElem?_getD,List.getElem?_eq_getElem hj]at h2
  have h1:0≤r.2.1[i]:=h1
  have h2:0≤r.2.1[j]:=h2
  omega) h.nodup) (fun x hx=>by
  obtain⟨c,hc,rfl⟩:=List.mem_map.1 hx
  obtain⟨i,hi,rfl⟩:=List.mem_iff_getElem.1 hc
  have:=(h.vars i hi).2
  rwa [List.getD_eq_getElem?_getD,List.getElem?_eq_getElem hi]at this)
 have h1:∀l:List Nat,(l.map (fun _=>(1:Int))).sum=l.length:=by
  intro l
  induction l with
  |nil=>rfl
  |cons a l ih=>rw[List.map_cons,List.sum_cons,ih,List.length_cons];omega
 have h2:∀n:Nat,Ze1 (fun _=>1) n=n:=by
  intro n
  induction n with
  |zero=>rfl
  |succ n ih=>unfold Ze1;rw[ih];omega
 have h3:=Zv7 (g:=fun i=>if i∈r.2.1.map Int.toNat then 1 else 0) (h:=fun _=>1) m.1.length (fun i _=>by split<;>omega)
 rw[h1,List.length_map]at hs
 rw[h2]at h3
 omega
theorem ZqB {l x:List Int} {i:Nat} (h:i<l.length):(ZcA l x).getD i 0=x.getD (l.getD i 0).toNat 0:=by
 unfold ZcA
 rw[ZmL (d:=0) (h:=h)]
theorem ZBk {m:Zr} {v:List Bool} {x:List Int} (hm:Zx m=true) (hd:Dec m v x) {i:Nat} (hi:i<m.1.length) (c:Int):∀n,n≤Zdk m i→ZfC v (Zoo m i c n)=if x.getD i 0<n then c*x.getD i 0 else 0
 |0,_=>by
  obtain⟨x1,x2⟩:=ZcT hd.1
  have:=x2 i (by omega)
  rw[if_neg (by omega)]
  rfl
 |n+1,hn=>by
  obtain⟨x1,x2⟩:=ZcT hd.1
  have hx:=x2 i (by omega)
  have hk:(n:Int)≤m.1.getD i 0:=(ZeG hm hi).1 (by omega)
  have ih:=ZBk hm hd hi c n (by omega)
  have e:Zoo m i c (n+1)=Zoo m i c n++[(c*(n:Int),Zbh m i n)]:=by
   unfold Zoo
   rw[List.range_succ,List.map_append]
   rfl
  rw[e,ZsR,ih,ZAD]
  dsimp only
  rw[Zk2 hm hi hk,hd.2 i hi n hk]
  by_cases q:x.getD i 0=n
  ·rw[decide_eq_true q,ctt,if_neg (by omega),if_pos (by omega),q]
   omega
  ·rw[decide_eq_false q,cff]
   by_cases q2:x.getD i 0<n
   ·rw[if_pos q2,if_pos (by omega)];omega
   ·rw[if_neg q2,if_neg (by omega)];omega
theorem ZBx {m:Zr} {r:Zz} {v:List Bool} {x:List Int} (hm:Zx m=true) (ho:ZcS m r) (hd:Dec m v x):∀n,n≤r.2.1.length→ZfC v (Zf3 m r n)=Zcn r.2.2.1 (ZcA r.2.1 x) n
 |0,_=>rfl
 |n+1,hn=>by
  obtain⟨x1,x2⟩:=ZcT hd.1
  obtain⟨v0,vi⟩:=ho.vars n (by omega)
  have hx:=x2 (r.2.1.getD n 0).toNat (by omega)
  have hs:=(ZeG hm vi (k:=(x.getD (r.2.1.getD n 0).toNat 0).toNat)).2 (by omega)
  unfold Zf3
  rw[ZsR,ZBx hm ho hd n (by omega),ZBk hm hd vi _ _ (Nat.le_refl _),if_pos (by omega),ZhN,ZqB (by omega)]
theorem Zk6 {m:Zr} (hm:Zx m=true) {i:Nat} (hi:i<m.1.length):1≤Zdk m i∧Zdk m i≤4:=by
 have:=Zeu hm hi
 unfold Zdk
 omega
theorem ZwI {a k:Int} (ha : -9≤a∧a≤9) (hk:0≤k∧k≤3) : -27≤a*k∧a*k≤27:=by
 have:k=0∨k=1∨k=2∨k=3:=by omega
 rcases this with rfl|rfl|rfl|rfl<;>omega
theorem Zqv {m:Zr} {r:Zz} (hm:Zx m=true) (ho:ZcS m r) (k1:r.1=1):∀n,n≤r.2.1.length→(Zf3 m r n).length≤4*n∧∀t∈Zf3 m r n,okS t ∧ -27≤t.1∧t.1≤27
 |0,_=>⟨Nat.le_refl _,fun t ht=>absurd ht List.not_mem_nil⟩
 |n+1,hn=>by
  obtain⟨i1,i2⟩:=Zqv hm ho k1 n (by omega)
  obtain⟨v0,vi⟩:=ho.vars n (by omega)
  have hs:=Zk6 hm vi
  obtain⟨_,hc,_⟩:=ho.lin k1
  unfold Zf3
  refine⟨?_,fun t ht=>?_⟩
  ·unfold Zoo
   rw[List.length_append,List.length_map,List.length_range]
   omega
  ·rcases List.mem_append.1 ht with h|h
   ·exact i2 t h
   ·obtain⟨k,hk,rfl⟩:=List.mem_map.1 h
    have hk:=List.mem_range.1 hk
    have hkv:=(ZeG hm vi).1 hk
    have hb:=ZwI (hc n) (k:=(k:Int)) ⟨by omega,by omega⟩
    exact⟨⟨by (try dsimp only)<;>omega,(ZBI hm vi hkv).1⟩,hb⟩
theorem Zp5 {ts:List (Int×Int)} {b:Int} (h:∀t∈ts,okS t ∧ -27≤t.1∧t.1≤27):∀n:Nat,n≤ts.length→(ZcR (ts.take n) b).2.length=13∧(b - 27*n≤(ZcR (ts.take n) b).1∧(ZcR (ts.take n) b).1≤b+27*n)∧∀j,-27*(n:Int)≤(ZcR (ts.take n) b).2.getD j 0∧(ZcR (ts.take n) b).2.getD j 0≤27*(n:Int)
 |0,_=>by
  rw[List.take_zero]
  refine⟨rfl,⟨by show b - _≤b;omega,by show b≤b+_;omega⟩,fun j=>?_⟩
  show _≤(List.replicate 13 (0:Int)).getD j 0∧(List.replicate 13 (0:Int)).getD j 0≤_
  rw[Zzc]
  omega
 |n+1,hn=>by
  obtain⟨i1,i3,i4⟩:=Zp5 h n (by omega)
  obtain⟨⟨_,o2⟩,o3⟩:=h _ (Zy (l:=ts) (i:=n) (d:=(0,0)) (by omega))
  have hl:=ZB.1 o2
  rw[Zpc (by omega)]
  generalize ZcR (ts.take n) b=s at i1 i3 i4
  generalize ts.getD n (0,0)=t at o3 hl
  unfold ZlL
  by_cases q:t.2<0
  ·rw[if_pos q]
   dsimp only
   refine⟨by rw[List.length_set];exact i1,⟨by omega,by omega⟩,fun j=>?_⟩
   have hj:=i4 j
   have hv:=i4 (0 - t.2).toNat
   rw[ZhQ]
   split<;>omega
  ·rw[if_neg q]
   dsimp only
   refine⟨by rw[List.length_set];exact i1,⟨by omega,by omega⟩,fun j=>?_⟩
   have hj:=i4 j
   have hv:=i4 t.2.toNat
   rw[ZhQ]
   split<;>omega
theorem ZvZ {net:List Int}:∀n,n≤12→(∀j,-1000≤net.getD j 0∧net.getD j 0≤1000)→(∀t∈Zci net n,(Z8 t.2=true∧1≤t.1∧t.1≤1000)∧vof t.2≤n)∧(Zci net n).Pairwise (fun x y=>vof x.2<vof y.2)
 |0,_,_=>⟨fun t ht=>absurd ht List.not_mem_nil,List.Pairwise.nil⟩
 |n+1,hn,hb=>by
  obtain⟨i1,i2⟩:=ZvZ n (by omega) hb
  have hbn:=hb (n+1)
  unfold Zci
  have one:∀t∈(if 0<net.getD (n+1) 0 then[(net.getD (n+1) 0,((n+1:Nat):Int))]else if net.getD (n+1) 0<0 then[(0 - net.getD (n+1) 0,0 - ((n+1:Nat):Int))]else[]),(Z8 t.2=true∧1≤t.1∧t.1≤1000)∧vof t.2=((n+1:Nat):Int):=fun t ht=>by
   split at ht
   ·rw[List.mem_singleton]at ht
    subst ht
    exact⟨⟨ZB.2 ⟨by (try dsimp only)<;>omega,by (try dsimp only)<;>omega,by (try dsimp only)<;>omega⟩,by (try dsimp only)<;>omega,by (try dsimp only)<;>omega⟩,by unfold vof;(try dsimp only)<;>omega⟩
   ·split at ht
    ·rw[List.mem_singleton]at ht
     subst ht
     exact⟨⟨ZB.2 ⟨by (try dsimp only)<;>omega,by (try dsimp only)<;>omega,by (try dsimp only)<;>omega⟩,by (try dsimp only)<;>omega,by (try dsimp only)<;>omega⟩,by unfold vof;(try dsimp only)<;>omega⟩
    ·exact absurd ht List.not_mem_nil
  refine⟨fun t ht=>?_,List.pairwise_append.2 ⟨i2,?_,fun x hx y hy=>?_⟩⟩
  ·rcases List.mem_append.1 ht with h|h
   ·have:=i1 t h
    exact⟨this.1,by omega⟩
   ·have:=one t h
    exact⟨this.1,by omega⟩
  ·split
   ·exact List.pairwise_singleton _ _
   ·split
    ·exact List.pairwise_singleton _ _
    ·exact List.Pairwise.nil
  ·have:=(i1 x hx).2
   have:=(one y hy).2
   omega
theorem ZzY {m:Zr} {r:Zz} (hm:Zx m=true) (ho:ZcS m r) (k1:r.1=1):(Zcz (ZiX m r).2 (ZiX m r).1).1=true:=by
 have h5:=ZgL hm ho
 obtain⟨l1,l2⟩:=Zqv hm ho k1 r.2.1.length (Nat.le_refl _)
 obtain⟨_,_,b1,b2⟩:=ho.lin k1
 obtain⟨n1,n2,n3⟩:=Zp5 (b:=r.2.2.2.1) l2 (Zf3 m r r.2.1.length).length (Nat.le_refl _)
 rw[List.take_length]at n1 n2 n3
 have hb:∀j,-1000≤(ZiX m r).2.getD j 0∧(ZiX m r).2.getD j 0≤1000:=fun j=>by
  have:=n3 j
  unfold ZiX
  omega
 have hb2 : -2000≤(ZiX m r).1∧(ZiX m r).1≤2000:=by
  unfold ZiX
  omega
 obtain⟨p1,p2⟩:=ZvZ (net:=(ZiX m r).2) 12 (Nat.le_refl _) hb
 have hneg:=ZoX (net:=(ZiX m r).2) (b:=(ZiX m r).1) (K:=1000) (by omega) (fun j=>by have:=hb j;omega) 12
 have hc:ZbG (Zci (ZiX m r).2 12,max 0 (Z5 (ZiX m r).2 (ZiX m r).1 12))=true:=ZvB.2 ⟨fun t ht=>(p1 t ht).1,p2,by (try dsimp only)<;>omega,by (try dsimp only)<;>omega⟩
 unfold Zcz
 rw[hc,ctt]
theorem ZEm {m:Zr} {r:Zz} {v:List Bool} {x:List Int} (hm:Zx m=true) (ho:ZcS m r) (hd:Dec m v x) (k1:r.1=1):Zbn v (ZpK m r)=holdsB r (ZcA r.2.1 x):=by
 obtain⟨_,l2⟩:=Zqv hm ho k1 r.2.1.length (Nat.le_refl _)
 have hlen:(ZcA r.2.1 x).length=r.2.1.length:=List.length_map ..
 have e:=ZBx hm ho hd r.2.1.length (Nat.le_refl _)
 have hn:=ZCW (b:=r.2.2.2.1) (v:=v) (fun t ht=>(l2 t ht).1)
 unfold ZpK
 rw[(Zz7 (ZzY hm ho k1)).1]
 unfold ZiX
 rw[hn,e]
 unfold holdsB
 rw[ZI k1,hlen]
def ZdG (m:Zr) (r:Zz) (k:Nat):List Int:=(r.2.1.filter (fun c=>decide ((k:Int)≤m.1.getD c.toNat 0))).map (fun c=>Zbh m c.toNat k)
def Zlu (l:List Int):List Int:=l.mergeSort (fun a b=>decide (a≤b))
def ZpZ (m:Zr) (r:Zz):Zu:=(List.range 4).flatMap (fun k=>if 1<(ZdG m r k).length then[Zh3 (Zlu (ZdG m r k))]else[])
theorem Zjv {m:Zr} {r:Zz} (ho:ZcS m r) {c:Int} (hc:c∈r.2.1):0≤c∧c.toNat<m.1.length:=by
 obtain⟨i,hi,rfl⟩:=List.mem_iff_getElem.1 hc
 have:=ho.vars i hi
 rwa [List.getD_eq_getElem?_getD,List.getElem?_eq_getElem hi]at this
theorem ZmK {m:Zr} {r:Zz} (hm:Zx m=true) (ho:ZcS m r) {k:Nat}:(ZdG m r k).Nodup∧∀y∈ZdG m r k,∃c,c∈r.2.1∧(k:Int)≤m.1.getD c.toNat 0∧y=Zbh m c.toNat k:=by
 refine⟨Zpd (fun a ha b hb e=>?_) (ho.nodup.filter _),fun y hy=>?_⟩
 ·obtain⟨a1,a2⟩:=List.mem_filter.1 ha
  obtain⟨b1,b2⟩:=List.mem_filter.1 hb
  obtain⟨a3,a4⟩:=Zjv ho a1
  obtain⟨b3,b4⟩:=Zjv ho b1
  have:=(Zsh hm a4 (of_decide_eq_true a2) b4 (of_decide_eq_true b2) e).1
  omega
 ·obtain⟨c,hc,rfl⟩:=List.mem_map.1 hy
  obtain⟨c1,c2⟩:=List.mem_filter.1 hc
  exact⟨c,c1,of_decide_eq_true c2,rfl⟩
theorem ZDC {v:List Int}:Zq9 v=true↔v.Nodup:=by
 unfold Zq9 Zjm List.Nodup
 rw[List.all_eq_true,List.pairwise_iff_getElem]
 constructor
 ·intro h i j hi hj hij e
  have:=h j (List.mem_range.2 hj)
  rw[Bool.not_eq_true',List.any_eq_false]at this
  refine this v[i] (List.mem_iff_getElem.2 ⟨i,by rw[List.length_take];omega,by rw[List.getElem_take]⟩) ?_
  rw[List.getD_eq_getElem?_getD,List.getElem?_eq_getElem hj]
  exact beq_iff_eq.2 e.symm
 ·intro h j hj
  have hj:=List.mem_range.1 hj
  rw[Bool.not_eq_true',List.any_eq_false]
  intro y hy e
  obtain⟨i,hi,rfl⟩:=List.mem_iff_getElem.1 hy
  rw[List.length_take]at hi
  have e:=beq_iff_eq.1 e
  rw[List.getD_eq_getElem?_getD,List.getElem?_eq_getElem hj,List.getElem_take]at e
  exact h i j (by omega) hj (by omega) e.symm
theorem ZDy {m:Zr} {r:Zz} {v:List Bool} {x:List Int} (hm:Zx m=true) (ho:ZcS m r) (hd:Dec m v x) (k2:r.1=2):(∀c∈ZpZ m r,Zbn v c=true)↔holdsB r (ZcA r.2.1 x)=true:=by
 obtain⟨x1,x2⟩:=ZcT hd.1
 have hcell:∀c∈r.2.1,0≤x.getD c.toNat 0∧x.getD c.toNat 0≤m.1.getD c.toNat 0:=fun c hc=>by
  obtain⟨c0,c1⟩:=Zjv ho hc
  exact x2 c.toNat (by omega)
 have hh:holdsB r (ZcA r.2.1 x)=Zq9 (ZcA r.2.1 x):=by
  unfold holdsB
  rw[ZD (by omega),ZI k2]
 have hev:∀k,Zbn v (Zh3 (Zlu (ZdG m r k)))=decide ((ZdG m r k).countP (ZO v)≤1):=fun k=>by
  have hp:(Zlu (ZdG m r k)).Perm (ZdG m r k):=List.mergeSort_perm _ _
  rw[ZwG,hp.countP_eq]
  intro y hy
  obtain⟨c,c1,c2,rfl⟩:=(ZmK hm ho).2 y (hp.mem_iff.1 hy)
  obtain⟨c3,c4⟩:=Zjv ho c1
  have:=ZcN hm c4 c2
  omega
 have hall:(∀c∈ZpZ m r,Zbn v c=true)↔∀k,k<4→(ZdG m r k).countP (ZO v)≤1:=by
  unfold ZpZ
  constructor
  ·intro h k hk
   by_cases q:1<(ZdG m r k).length
   ·have:=h _ (List.mem_flatMap.2 ⟨k,List.mem_range.2 hk,by rw[if_pos q];exact List.mem_cons_self⟩)
    rw[hev,decide_eq_true_eq]at this
    exact this
   ·have:=List.countP_le_length (p:=ZO v) (l:=ZdG m r k)
    omega
  ·intro h c hc
   obtain⟨k,hk,hc⟩:=List.mem_flatMap.1 hc
   split at hc
   ·rw[List.mem_singleton]at hc
    subst hc
    rw[hev,decide_eq_true_eq]
    exact h k (List.mem_range.1 hk)
   ·exact absurd hc List.not_mem_nil
 rw[hall,hh,ZDC]
 have hlit:∀c∈r.2.1,∀k:Nat,(k:Int)≤m.1.getD c.toNat 0→ZO v (Zbh m c.toNat k)=decide (x.getD c.toNat 0=k):=fun c hc k hk=>by
  obtain⟨c0,c1⟩:=Zjv ho hc
  rw[Zk2 hm c1 hk,hd.2 c.toNat c1 k hk]
 constructor
 ·intro h
  unfold ZcA
  refine Zpd (fun a ha b hb e=>?_) ho.nodup
  have ha1:=hcell a ha
  have hb1:=hcell b hb
  obtain⟨a0,a1⟩:=Zjv ho ha
  obtain⟨b0,b1⟩:=Zjv ho hb
  have hs:=Zeu hm a1
  have hk:=(Zmk (ZmK hm ho).1).1 (h (x.getD a.toNat 0).toNat (by omega)) (Zbh m a.toNat (x.getD a.toNat 0).toNat) (List.mem_map.2 ⟨a,List.mem_filter.2 ⟨ha,decide_eq_true (by omega)⟩,rfl⟩) (Zbh m b.toNat (x.getD a.toNat 0).toNat) (List.mem_map.2 ⟨b,List.mem_filter.2 ⟨hb,decide_eq_true (by omega)⟩,rfl⟩)
   (by rw[hlit a ha _ (by omega),decide_eq_true_eq];omega) (by rw[hlit b hb _ (by omega),decide_eq_true_eq];omega)
  have:=(Zsh hm a1 (by omega) b1 (by omega) hk).1
  omega
 ·intro h k _
  rw[Zmk (ZmK hm ho).1]
  intro y hy z hz py pz
  obtain⟨a,ha,ka,rfl⟩:=(ZmK hm ho).2 y hy
  obtain⟨b,hb,kb,rfl⟩:=(ZmK hm ho).2 z hz
  rw[hlit a ha k ka,decide_eq_true_eq]at py
  rw[hlit b hb k kb,decide_eq_true_eq]at pz
  have hab:a=b:=by
   unfold ZcA List.Nodup at h
   rw[List.pairwise_map]at h
   by_cases e:a=b
   ·exact e
   ·exfalso
    obtain⟨i,hi,ei⟩:=List.mem_iff_getElem.1 ha
    obtain⟨j,hj,ej⟩:=List.mem_iff_getElem.1 hb
    rw[List.pairwise_iff_getElem]at h
    rcases Nat.lt_trichotomy i j with q|q|q
    ·have:=h i j hi hj q
     rw[ei,ej,py,pz]at this
     exact this rfl
    ·subst q
     rw[ei]at ej
     exact e ej
    ·have:=h j i hj hi q
     rw[ei,ej,py,pz]at this
     exact this rfl
  rw[hab]
end Go.AE.Y
namespace Go.AE.Y
open Go Go.AE
set_option maxHeartbeats 400000
theorem ZEs (l:List Int):∀a:Int,l.foldl (fun a n=>a+(n+1)) a=a+(l.map (fun n=>n+1)).sum:=by
 induction l with
 |nil=>intro a;exact(Int.add_zero a).symm
 |cons x l ih=>
  intro a
  rw[List.foldl_cons,ih,List.map_cons,List.sum_cons]
  omega
theorem Zzo {m:Zr}:∀n,n≤m.1.length→ZE m n=Ze1 (fun i=>m.1.getD i 0+1) n
 |0,_=>rfl
 |n+1,h=>by
  rw[Zhm (by omega),Zzo n (by omega)]
  rfl
def smM (m:Zr) (r:Zz):Zr:=(r.2.1.map (fun c=>m.1.getD c.toNat 0),[])
theorem ZwR {m:Zr} {r:Zz} (hm:Zx m=true) (ho:ZcS m r):Zx (smM m r)=true:=by
 have h5:=ZgL hm ho
 have hs:Zlc (smM m r).1≤12:=by
  have h12:=(ZiE hm m.1.length (Nat.le_refl _)).2
  rw[Zzo _ (Nat.le_refl _)]at h12
  have e:Zlc (smM m r).1=((r.2.1.map Int.toNat).map (fun i=>m.1.getD i 0+1)).sum:=by
   unfold Zlc smM
   rw[ZEs,Int.zero_add,List.map_map,List.map_map]
   rfl
  rw[e,ZAE (n:=m.1.length) _ (Zpd (fun a ha b hb h=>by
   have:=(Zjv ho ha).1
   have:=(Zjv ho hb).1
   omega) ho.nodup) (fun x hx=>by
   obtain⟨c,hc,rfl⟩:=List.mem_map.1 hx
   exact(Zjv ho hc).2)]
  refine Int.le_trans (Zv7 _ (fun i hi=>?_)) h12
  have:=Zeu hm hi
  split<;>omega
 unfold Zx
 simp only[Bool.and_eq_true,decide_eq_true_eq,List.all_eq_true]
 refine⟨⟨?_,?_⟩,?_,?_,hs,fun r hr=>absurd hr List.not_mem_nil⟩
 ·show 1≤(r.2.1.map _).length
  rw[List.length_map];exact ho.pos
 ·show (r.2.1.map _).length≤5
  rw[List.length_map];exact h5
 ·show ([]:List Zz).length≤8
  exact Nat.zero_le _
 ·intro x hx
  obtain⟨c,hc,rfl⟩:=List.mem_map.1 hx
  have:=Zeu hm (Zjv ho hc).2
  unfold Zdc
  rw[Bool.and_eq_true,decide_eq_true_eq,decide_eq_true_eq]
  omega
def Zkj (m:Zr) (r:Zz) (vals:List Int):List Int:=(List.range r.2.1.length).map (fun i=>0 - Zbh m (r.2.1.getD i 0).toNat (vals.getD i 0).toNat)
def ZnA (m:Zr) (r:Zz):Zu:=((Zru (smM m r) (ZnX (smM m r))).filter (fun vals=>!holdsB r vals)).map (fun vals=>ZhV (Zkj m r vals))
theorem ZC5 {m:Zr} {r:Zz} {i:Nat} (h:i<r.2.1.length):(smM m r).1.getD i 0=m.1.getD (r.2.1.getD i 0).toNat 0:=by
 unfold smM
 rw[ZmL (d:=0) (h:=h)]
theorem ZB5 {m:Zr} {r:Zz} {x:List Int} (ho:ZcS m r) (hx:ZX m x=true):ZX (smM m r) (ZcA r.2.1 x)=true:=by
 obtain⟨x1,x2⟩:=ZcT hx
 have hlen:(ZcA r.2.1 x).length=r.2.1.length:=List.length_map ..
 have hlen2:(smM m r).1.length=r.2.1.length:=List.length_map ..
 unfold ZX cellAt
 simp only[Bool.and_eq_true,decide_eq_true_eq,List.all_eq_true,List.mem_range]
 refine⟨by omega,fun i hi=>?_⟩
 have hi':i<r.2.1.length:=by omega
 have:=(ho.vars i hi').2
 rw[ZqB hi',ZC5 hi']
 exact x2 _ (by omega)
theorem ZsD {m:Zr} {r:Zz} {vals:List Int} (hm:Zx m=true) (ho:ZcS m r) (hv:ZX (smM m r) vals=true):Zch (Zkj m r vals)=true∧∀i,i<r.2.1.length→0≤vals.getD i 0∧vals.getD i 0≤m.1.getD (r.2.1.getD i 0).toNat 0:=by
 obtain⟨v1,v2⟩:=ZcT hv
 have hlen2:(smM m r).1.length=r.2.1.length:=List.length_map ..
 have hr:∀i,i<r.2.1.length→0≤vals.getD i 0∧vals.getD i 0≤m.1.getD (r.2.1.getD i 0).toNat 0:=fun i hi=>by
  have:=v2 i (by omega)
  rwa [ZC5 hi]at this
 have hneg:∀y∈Zkj m r vals,-12≤y∧y ≤ -1:=fun y hy=>by
  obtain⟨i,hi,rfl⟩:=List.mem_map.1 hy
  have hi:=List.mem_range.1 hi
  have:=hr i hi
  have:=ZcN hm (ho.vars i hi).2 (k:=(vals.getD i 0).toNat) (by omega)
  omega
 refine⟨?_,hr⟩
 unfold Zch
 rw[Bool.and_eq_true,List.all_eq_true,List.all_eq_true]
 refine⟨fun y hy=>ZB.2 (by have:=hneg y hy;omega),fun y hy=>?_⟩
 rw[Bool.not_eq_true',List.any_eq_false]
 intro z hz e
 have:=hneg y hy
 have:=hneg z hz
 have:=beq_iff_eq.1 e
 omega
theorem Zyj {m:Zr} {r:Zz} {v:List Bool} {x vals:List Int} (hm:Zx m=true) (ho:ZcS m r) (hd:Dec m v x) (hv:ZX (smM m r) vals=true):Zbn v (ZhV (Zkj m r vals))=true↔vals≠ZcA r.2.1 x:=by
 obtain⟨l1,l2⟩:=ZsD hm ho hv
 have hlen:(ZcA r.2.1 x).length=r.2.1.length:=List.length_map ..
 have hlen2:(smM m r).1.length=r.2.1.length:=List.length_map ..
 have hvl:=(ZcT hv).1
 have hlit:∀i,i<r.2.1.length→ZO v (0 - Zbh m (r.2.1.getD i 0).toNat (vals.getD i 0).toNat) = !decide (x.getD (r.2.1.getD i 0).toNat 0=vals.getD i 0):=fun i hi=>by
  have h1:=l2 i hi
  have h2:=(ho.vars i hi).2
  rw[ZCP hm h2 (by omega),hd.2 _ h2 _ (by omega),show (((vals.getD i 0).toNat:Nat):Int)=vals.getD i 0 by omega]
 rw[Zwj l1,List.any_eq_true]
 constructor
 ·rintro⟨y,hy,py⟩ e
  obtain⟨i,hi,rfl⟩:=List.mem_map.1 hy
  have hi:=List.mem_range.1 hi
  rw[hlit i hi,Bool.not_eq_true',decide_eq_false_iff_not,e,ZqB hi]at py
  exact py rfl
 ·intro hne
  by_cases q:∃i,i<r.2.1.length∧x.getD (r.2.1.getD i 0).toNat 0≠vals.getD i 0
  ·obtain⟨i,hi,h⟩:=q
   exact⟨_,List.mem_map.2 ⟨i,List.mem_range.2 hi,rfl⟩,by rw[hlit i hi,decide_eq_false h];rfl⟩
  ·exfalso
   refine hne (Zq7 (by omega) (fun i hi=>?_))
   have hi':i<r.2.1.length:=by omega
   rw[ZqB hi']
   by_cases e:x.getD (r.2.1.getD i 0).toNat 0=vals.getD i 0
   ·exact e.symm
   ·exact absurd ⟨i,hi',e⟩ q
theorem ZDB {m:Zr} {r:Zz} {v:List Bool} {x:List Int} (hm:Zx m=true) (ho:ZcS m r) (hd:Dec m v x):(∀c∈ZnA m r,Zbn v c=true)↔holdsB r (ZcA r.2.1 x)=true:=by
 have hsm:=ZwR hm ho
 unfold ZnA
 constructor
 ·intro h
  cases hq:holdsB r (ZcA r.2.1 x)with
  |true=>rfl
  |false=>
   exfalso
   have hp:=ZB5 ho hd.1
   have:=h _ (List.mem_map.2 ⟨ZcA r.2.1 x,List.mem_filter.2 ⟨(ZxD hsm).2 hp,by rw[hq];rfl⟩,rfl⟩)
   exact(Zyj hm ho hd hp).1 this rfl
 ·intro h c hc
  obtain⟨vals,hv,rfl⟩:=List.mem_map.1 hc
  obtain⟨v1,v2⟩:=List.mem_filter.1 hv
  refine(Zyj hm ho hd ((ZxD hsm).1 v1)).2 (fun e=>?_)
  rw[e,h]at v2
  cases v2
def Zmp (m:Zr) (r:Zz):Zu:=if r.1=1 then[ZpK m r]else if r.1=2 then ZpZ m r else ZnA m r
def Zcl (m:Zr):Zu:=(List.range m.1.length).flatMap (Zli m)++m.2.flatMap (Zmp m)
def Zzx (m:Zr):Bool×Zu:=bif Zx m&&decide ((Zcl m).length≤400)then(true,Zcl m)else(false,[])
theorem ZAo {m:Zr} {r:Zz} {v:List Bool} {x:List Int} (hm:Zx m=true) (hr:r∈m.2) (hd:Dec m v x):(∀c∈Zmp m r,Zbn v c=true)↔holdsB r (ZcA r.2.1 x)=true:=by
 have ho:=ZoN hm hr
 unfold Zmp
 by_cases k1:r.1=1
 ·rw[if_pos k1,←ZEm hm ho hd k1]
  exact⟨fun h=>h _ List.mem_cons_self,fun h c hc=>by rw[List.mem_singleton]at hc;rw[hc];exact h⟩
 rw[if_neg k1]
 by_cases k2:r.1=2
 ·rw[if_pos k2]
  exact ZDy hm ho hd k2
 rw[if_neg k2]
 exact ZDB hm ho hd
theorem ZEd {m:Zr} {v:List Bool} (hm:Zx m=true):ZeT (Zcl m) v↔∃x,Dec m v x∧Zr0 m x=true:=by
 unfold ZeT Zcl
 constructor
 ·intro h
  obtain⟨x,hd⟩:=ZCv hm (fun i hi c hc=>h c (List.mem_append_left _ (List.mem_flatMap.2 ⟨i,List.mem_range.2 hi,hc⟩)))
  refine⟨x,hd,?_⟩
  unfold Zr0
  rw[List.all_eq_true]
  intro r hr
  exact(ZAo hm hr hd).1 (fun c hc=>h c (List.mem_append_right _ (List.mem_flatMap.2 ⟨r,hr,hc⟩)))
 ·rintro⟨x,hd,hs⟩ c hc
  unfold Zr0 at hs
  rw[List.all_eq_true]at hs
  rcases List.mem_append.1 hc with h|h
  ·obtain⟨i,hi,hc⟩:=List.mem_flatMap.1 h
   exact ZCA hm hd i (List.mem_range.1 hi) c hc
  ·obtain⟨r,hr,hc⟩:=List.mem_flatMap.1 h
   exact(ZAo hm hr hd).2 (hs r hr) c hc
end Go.AE.Y
namespace Go.AE.Y
open Go Go.AE
set_option maxHeartbeats 400000
theorem ZqC {n i:Nat} (h:i<n):(List.range n).getD i 0=i:=by
 rw[List.getD_eq_getElem?_getD,List.getElem?_eq_getElem (by rw[List.length_range];exact h),List.getElem_range]
 rfl
theorem ZwL (vs:List Int):vs.map (fun x=>((1:Int),0 - x))=Zbo (Zbj vs):=by
 unfold Zbo Zbj
 rw[List.map_map]
 rfl
theorem ZpT {vs:List Int} (hl:vs.length≤1000) (hv:∀x∈vs,-1000≤x∧x≤1000):Zgi vs=some ((Zh3 vs).2,(Zh3 vs).1):=by
 unfold Zgi
 rw[Zi (by omega) (by omega)]
 show _=some ((vs.length:Int) - 1,Zbo (Zbj vs))
 rw[←ZwL]
 refine ZbY (f:=ZfG vs) vs 0 (fun x=>((1:Int),0 - x)) [] (fun o=>((vs.length:Int) - 1,o)) (fun i out hi ho=>?_) ?_
 ·have:=hv _ (Zy (l:=vs) (i:=i) (d:=0) hi)
  have ho:out.length=i:=by rw[ho];simp
  unfold ZfG
  dsimp only
  rw[Zg (by omega),Zd ⟨by omega,by omega⟩,Int.toNat_natCast,Zi (by omega) (by omega),Zd (by simp only[Zp,List.length_cons,List.length_nil];omega),Zi (by omega) (by omega)]
 ·unfold ZfG
  dsimp only
  rw[Zf (by omega)]
theorem Zr2 {vs:List Int} (hl:vs.length≤1000) (hv:∀x∈vs,-1000≤x∧x≤1000):Zjy vs=some ((Zh3 vs).2,(Zh3 vs).1):=by
 unfold Zjy
 rw[Zi (by omega) (by omega)]
 show _=some ((vs.length:Int) - 1,Zbo (Zbj vs))
 rw[←ZwL]
 refine ZbY (f:=Ziw vs) vs 0 (fun x=>((1:Int),0 - x)) [] (fun o=>((vs.length:Int) - 1,o)) (fun i out hi ho=>?_) ?_
 ·have:=hv _ (Zy (l:=vs) (i:=i) (d:=0) hi)
  have ho:out.length=i:=by rw[ho];simp
  unfold Ziw
  dsimp only
  rw[Zg (by omega),Zd ⟨by omega,by omega⟩,Int.toNat_natCast,Zi (by omega) (by omega),Zd (by simp only[Zp,List.length_cons,List.length_nil];omega),Zi (by omega) (by omega)]
 ·unfold Ziw
  dsimp only
  rw[Zf (by omega)]
theorem ZDk (m:Zr) (i:Nat):(Zc0 m i).length=Zdk m i:=by
 unfold Zc0
 rw[List.length_map,List.length_range]
theorem Zwd {m:Zr} (hm:Zx m=true) {i:Nat} (hi:i<m.1.length):∀x∈Zc0 m i,1≤x∧x≤12:=fun x hx=>by
 obtain⟨k,hk,rfl⟩:=List.mem_map.1 hx
 have:=ZcN hm hi ((ZeG hm hi).1 (List.mem_range.1 hk))
 omega
theorem Zqf {m:Zr} (hm:Zx m=true) {i:Nat} (hi:i<m.1.length):(Zdk m i:Int)=m.1.getD i 0+1:=by
 have:=(Zk6 hm hi).1
 unfold Zdk at this ⊢
 omega
theorem ZrN {m:Zr} (hm:Zx m=true) {i:Nat} (hi:i<m.1.length):Zep m i=some (Zc0 m i):=by
 have hz:=Zqf hm hi
 have h4:=Zk6 hm hi
 unfold Zep
 rw[Zd ⟨by omega,by omega⟩,Int.toNat_natCast,Zi (by omega) (by omega)]
 refine ZbY (f:=Zeg m i) (List.range (Zdk m i)) 0 (Zbh m i) [] (fun o=>o) (fun k out hk ho=>?_) ?_
 ·rw[List.length_range]at hk
  have ho:out.length=k:=by rw[ho];simp
  unfold Zeg
  dsimp only
  rw[Int.toNat_natCast,Zg (by omega),Zhv hm hi (by omega),Zj,Zd (by simp only[Zp,List.length_cons,List.length_nil];omega),Zi (by omega) (by omega),ZqC hk]
  rfl
 ·rw[List.length_range]
  unfold Zeg
  dsimp only
  rw[Int.toNat_natCast,Zf (by omega)]
theorem Zq2 {l:List Int} (h:Zch l=true) (hl:l.length≤40):Zhf l=(true,(ZhV l).2,(ZhV l).1):=by
 unfold Zhf
 rw[decide_eq_true hl,h]
 rfl
theorem ZxT {m:Zr} (hm:Zx m=true) {i:Nat} (hi:i<m.1.length):Zma m i=some (Zli m i):=by
 have hz:=Zqf hm hi
 have h4:=Zk6 hm hi
 obtain⟨v1,_,_,_,v5⟩:=ZsY hm hi
 have hin:=Zwd hm hi
 have hfin:Ziu (Zc0 m i)=some (Zli m i):=by
  unfold Ziu
  rw[Zi1 _ (by omega),Zj,Zq2 v1 (by omega),Zr2 (by omega) (fun x hx=>by have:=hin x hx;omega),Zj]
  unfold Zli
  generalize ZhV (Zc0 m i)=a
  generalize Zh3 (Zc0 m i)=b
  rfl
 unfold Zma
 have:=ZbY (f:=Ziv m i) (List.range (Zdk m i)) 0 (Zbh m i) [] (fun o=>Zli m i) (fun k out hk ho=>?_) ?_
 ·exact this
 ·rw[List.length_range]at hk
  have ho:out.length=k:=by rw[ho];simp
  unfold Ziv
  dsimp only
  rw[Zd ⟨by omega,by omega⟩,Int.toNat_natCast,Zg (by omega),Zhi hm hi (by omega),Zj,Zd (by simp only[Zp,List.length_cons,List.length_nil];omega),Zi (by omega) (by omega),ZqC hk]
  rfl
 ·rw[List.length_range]
  unfold Ziv
  dsimp only
  rw[Zd ⟨by omega,by omega⟩,Int.toNat_natCast,Zf (by omega),List.nil_append]
  show up (Ziu (Zc0 m i))=_
  rw[hfin]
  rfl
theorem Zlt {m:Zr} {r:Zz} (hm:Zx m=true) (ho:ZcS m r) {i:Nat} (hi:i<r.2.1.length):(0≤r.2.1.getD i 0∧(r.2.1.getD i 0).toNat<m.1.length)∧(Zdk m (r.2.1.getD i 0).toNat:Int)=m.1.getD (r.2.1.getD i 0).toNat 0+1∧Zdk m (r.2.1.getD i 0).toNat≤4∧r.2.1.length≤5:=by
 have h:=ho.vars i hi
 exact⟨h,Zqf hm h.2,(Zk6 hm h.2).2,ZgL hm ho⟩
theorem ZAW {m:Zr} {r:Zz} (hm:Zx m=true) (ho:ZcS m r) (k1:r.1=1):Zbk m r=some [ZpK m r]:=by
 obtain⟨l1,l2,l3,l4⟩:=ho.lin k1
 have h5:=ZgL hm ho
 have hfin:Zef r (Zf3 m r r.2.1.length)=some [ZpK m r]:=by
  obtain⟨c1,c2⟩:=Zqv hm ho k1 r.2.1.length (Nat.le_refl _)
  unfold Zef
  rw[Zwt (fun t ht=>(c2 t ht).1) (by omega) ⟨by omega,by omega⟩,Zj]
  unfold ZpK ZiX
  generalize Zcz _ _=q
  rfl
 unfold Zbk
 rw[ZI k1]
 refine ZC (fun s:Int×List (Int×Int)=>∃i:Nat,s.1=i∧i≤r.2.1.length∧s.2=Zf3 m r i) (fun s=>r.2.1.length - s.1.toNat) (fun _=>[ZpK m r]) ?_ _ ⟨0,rfl,Nat.zero_le _,rfl⟩
 rintro⟨s,out⟩ ⟨i,hi1,hi,ho'⟩
 dsimp only at hi1 ho'
 subst hi1
 unfold Zgs
 dsimp only
 rcases Nat.lt_or_ge i r.2.1.length with q|q
 ·left
  obtain⟨⟨a0,a1⟩,a2,a3,_⟩:=Zlt hm ho q
  have hc:=l2 i
  obtain⟨c1,_⟩:=Zqv hm ho k1 i hi
  rw[Zg (by omega),Zd ⟨by omega,by omega⟩,Int.toNat_natCast,Zd ⟨by omega,by omega⟩,Zi (by omega) (by omega)]
  have hl:loop (ZcK m r i) ((0:Int),out)=some (Sum.inl ((i:Int)+1,Zf3 m r (i+1)):(Int×List (Int×Int))⊕(List Zvw)):=by
   have:=ZbY (f:=ZcK m r i) (List.range (Zdk m (r.2.1.getD i 0).toNat)) 0 (fun (k:Nat)=>(r.2.2.1.getD i 0*(k:Int),Zbh m (r.2.1.getD i 0).toNat k)) out (fun o=>Sum.inl ((i:Int)+1,o)) (fun k o hk hko=>?_) ?_
   ·rw[this,ho']
    rfl
   ·rw[List.length_range]at hk
    have hko:o.length≤40:=by rw[hko,ho'];omega
    have hb:=ZwI (a:=r.2.2.1.getD i 0) (k:=k) hc ⟨by omega,by omega⟩
    have eb:=Zhv hm a1 (k:=k) (by omega)
    rw[show (((r.2.1.getD i 0).toNat:Nat):Int)=r.2.1.getD i 0 by omega]at eb
    unfold ZcK
    dsimp only
    rw[Int.toNat_natCast,Zg (by omega),Zd ⟨by omega,by omega⟩,Zi (by omega) (by omega),eb,Zj,Zd (by simp only[Zp,List.length_cons,List.length_nil];omega),Zi (by omega) (by omega),ZqC hk]
    rfl
   ·rw[List.length_range]
    unfold ZcK
    dsimp only
    rw[Int.toNat_natCast,Zf (by omega),Zi (by omega) (by omega)]
  rw[hl]
  exact⟨_,rfl,⟨i+1,by simp,by omega,rfl⟩,by (try dsimp only)<;>omega,rfl⟩
 ·right
  have:i=r.2.1.length:=by omega
  subst this
  rw[Zf (by omega),ho',hfin]
  rfl
theorem Zvx {s:Int×List Int} {t:Int×Int} (h:0<t.2):ZlL s t=(s.1,s.2.set t.2.toNat (s.2.getD t.2.toNat 0+t.1)):=by
 unfold ZlL
 rw[if_neg (by omega)]
theorem Zz5 {b:Int} {j:Nat}:∀(ts:List (Int×Int)) (s:Int×List Int),(∀t∈ts,0<t.2∧t.2.toNat≠j)→(ts.foldl ZlL s).2.getD j 0=s.2.getD j 0
 |[],_,_=>rfl
 |t::ts,s,h=>by
  rw[List.foldl_cons,Zz5 (b:=b) ts (ZlL s t) (fun x hx=>h x (List.mem_cons_of_mem _ hx))]
  obtain⟨h1,h2⟩:=h t List.mem_cons_self
  rw[Zvx h1]
  exact ZN h2
theorem ZBy:∀(ts:List (Int×Int)) (s:Int×List Int),(∀t∈ts,0<t.2)→(ts.foldl ZlL s).1=s.1
 |[],_,_=>rfl
 |t::ts,s,h=>by
  rw[List.foldl_cons,ZBy ts (ZlL s t) (fun x hx=>h x (List.mem_cons_of_mem _ hx))]
  rw[Zvx (h t List.mem_cons_self)]
theorem ZDw (m:Zr) (i:Nat) (c:Int) (n:Nat):Zoo m i c (n+1)=Zoo m i c n++[(c*(n:Int),Zbh m i n)]:=by
 unfold Zoo
 rw[List.range_succ,List.map_append]
 rfl
theorem ZvR {m:Zr} {r:Zz} {t:Int×Int}:∀n,t∈Zf3 m r n→∃i k,i<n∧k<Zdk m (r.2.1.getD i 0).toNat∧t.2=Zbh m (r.2.1.getD i 0).toNat k
 |0,h=>absurd h List.not_mem_nil
 |n+1,h=>by
  rcases List.mem_append.1 h with q|q
  ·obtain⟨i,k,h1,h2,h3⟩:=ZvR n q
   exact⟨i,k,by omega,h2,h3⟩
  ·obtain⟨k,hk,rfl⟩:=List.mem_map.1 q
   exact⟨n,k,by omega,List.mem_range.1 hk,rfl⟩
theorem ZAn {m:Zr} {r:Zz} (ho:ZcS m r) {i j:Nat} (hi:i<r.2.1.length) (hj:j<r.2.1.length) (h:(r.2.1.getD i 0).toNat=(r.2.1.getD j 0).toNat):i=j:=by
 have h1:=(ho.vars i hi).1
 have h2:=(ho.vars j hj).1
 have e:r.2.1.getD i 0=r.2.1.getD j 0:=by omega
 rw[List.getD_eq_getElem?_getD,List.getD_eq_getElem?_getD,List.getElem?_eq_getElem hi,List.getElem?_eq_getElem hj]at e
 exact(List.getElem_inj ho.nodup).1 e
theorem ZEl {m:Zr} {r:Zz} (hm:Zx m=true) (ho:ZcS m r) {i k:Nat} (hi:i<r.2.1.length) (hk:k<Zdk m (r.2.1.getD i 0).toNat):∀t∈Zf3 m r i++Zoo m (r.2.1.getD i 0).toNat (r.2.2.1.getD i 0) k,0<t.2∧t.2.toNat≠(Zbh m (r.2.1.getD i 0).toNat k).toNat:=fun t ht=>by
 have hv:=(ho.vars i hi).2
 have hk':=(ZeG hm hv).1 hk
 have r1:=ZcN hm hv hk'
 rcases List.mem_append.1 ht with q|q
 ·obtain⟨i',k',h1,h2,h3⟩:=ZvR i q
  have hv':=(ho.vars i' (by omega)).2
  have h2':=(ZeG hm hv').1 h2
  have r2:=ZcN hm hv' h2'
  rw[h3]
  refine⟨by omega,fun e=>?_⟩
  have:=(Zsh hm hv' h2' hv hk' (by omega)).1
  have:=ZAn ho (by omega) hi this
  omega
 ·obtain⟨k',h1,rfl⟩:=List.mem_map.1 q
  have h1:=List.mem_range.1 h1
  have h2':=(ZeG hm hv).1 (show k'<Zdk m (r.2.1.getD i 0).toNat by omega)
  have r2:=ZcN hm hv h2'
  dsimp only
  refine⟨by omega,fun e=>?_⟩
  have:=(Zsh hm hv h2' hv hk' (by omega)).2
  omega
theorem ZDF {m:Zr} {r:Zz} (hm:Zx m=true) (ho:ZcS m r) {b:Int} {i k:Nat} (hi:i<r.2.1.length) (hk:k<Zdk m (r.2.1.getD i 0).toNat) :
  (ZcR (Zf3 m r i++Zoo m (r.2.1.getD i 0).toNat (r.2.2.1.getD i 0) (k+1)) b).2=(ZcR (Zf3 m r i++Zoo m (r.2.1.getD i 0).toNat (r.2.2.1.getD i 0) k) b).2.set (Zbh m (r.2.1.getD i 0).toNat k).toNat (r.2.2.1.getD i 0*(k:Int)):=by
 have hn:=ZEl hm ho hi hk
 have hv:=(ho.vars i hi).2
 have r1:=ZcN hm hv ((ZeG hm hv).1 hk)
 have h0:=Zz5 (b:=b) _ (b,List.replicate 13 0) hn
 rw[Zzc]at h0
 rw[ZDw,←List.append_assoc]
 unfold ZcR
 rw[List.foldl_append]
 show (ZlL _ (r.2.2.1.getD i 0*(k:Int),Zbh m (r.2.1.getD i 0).toNat k)).2=_
 rw[Zvx (show 0<Zbh m (r.2.1.getD i 0).toNat k by omega)]
 dsimp only
 rw[h0,Int.zero_add]
theorem ZBc {m:Zr} {r:Zz} (hm:Zx m=true) (ho:ZcS m r) (k1:r.1=1):Zjs m r=some [ZpK m r]:=by
 obtain⟨l1,l2,l3,l4⟩:=ho.lin k1
 have h5:=ZgL hm ho
 obtain⟨c1,c2⟩:=Zqv hm ho k1 r.2.1.length (Nat.le_refl _)
 have hpos:∀t∈Zf3 m r r.2.1.length,0<t.2:=fun t ht=>by
  obtain⟨i,k,h1,h2,h3⟩:=ZvR _ ht
  have hv:=(ho.vars i h1).2
  have:=ZcN hm hv ((ZeG hm hv).1 h2)
  omega
 have hfin:Zjc r (ZcR (Zf3 m r r.2.1.length) r.2.2.2.1).2=some [ZpK m r]:=by
  obtain⟨n1,_,n3⟩:=Zp5 (b:=r.2.2.2.1) c2 (Zf3 m r r.2.1.length).length (Nat.le_refl _)
  rw[List.take_length]at n1 n3
  unfold Zjc
  rw[ZqH n1 (fun j=>by have:=n3 j;omega) ⟨by omega,by omega⟩,Zj]
  unfold ZpK ZiX
  have e:(ZcR (Zf3 m r r.2.1.length) r.2.2.2.1).1=r.2.2.2.1:=ZBy _ _ hpos
  rw[e]
  generalize Zcz _ _=q
  rfl
 unfold Zjs
 rw[Zd ⟨by omega,by simp only[Zp];omega,rfl⟩]
 refine ZC (fun s:Int×List Int=>∃i:Nat,s.1=i∧i≤r.2.1.length∧s.2=(ZcR (Zf3 m r i) r.2.2.2.1).2) (fun s=>r.2.1.length - s.1.toNat) (fun _=>[ZpK m r]) ?_ _ ⟨0,rfl,Nat.zero_le _,rfl⟩
 rintro⟨s,net⟩ ⟨i,hi1,hi,ho'⟩
 dsimp only at hi1 ho'
 subst hi1
 unfold ZmX
 dsimp only
 rcases Nat.lt_or_ge i r.2.1.length with q|q
 ·left
  obtain⟨⟨a0,a1⟩,a2,a3,_⟩:=Zlt hm ho q
  have hc:=l2 i
  rw[Zg (by omega)]
  have hl:loop (Zjd m r i) ((0:Int),net)=some (Sum.inl ((i:Int)+1,(ZcR (Zf3 m r (i+1)) r.2.2.2.1).2):(Int×List Int)⊕(List Zvw)):=by
   refine ZC (fun s:Int×List Int=>∃k:Nat,s.1=k∧k≤Zdk m (r.2.1.getD i 0).toNat∧s.2.length=13∧s.2=(ZcR (Zf3 m r i++Zoo m (r.2.1.getD i 0).toNat (r.2.2.1.getD i 0) k) r.2.2.2.1).2) (fun s=>Zdk m (r.2.1.getD i 0).toNat - s.1.toNat) (fun _=>_) ?_ _ ⟨0,rfl,Nat.zero_le _,?_,?_⟩
   ·rintro⟨s,net2⟩ ⟨k,hk1,hk,hlen,hnet⟩
    dsimp only at hk1 hlen hnet
    subst hk1
    unfold Zjd
    dsimp only
    rw[Zd ⟨by omega,by omega⟩,Int.toNat_natCast,Zd ⟨by omega,by omega⟩]
    rcases Nat.lt_or_ge k (Zdk m (r.2.1.getD i 0).toNat)with q2|q2
    ·left
     have hb:=ZwI (a:=r.2.2.1.getD i 0) (k:=k) hc ⟨by omega,by omega⟩
     have eb:=Zhi hm a1 (k:=k) (by omega)
     rw[show (((r.2.1.getD i 0).toNat:Nat):Int)=r.2.1.getD i 0 by omega]at eb
     have rm:=ZcN hm a1 ((ZeG hm a1).1 q2)
     have ev:(1:Int)+k+ZE m (r.2.1.getD i 0).toNat=Zbh m (r.2.1.getD i 0).toNat k:=rfl
     rw[ev]at eb
     rw[Zg (by omega),Zd ⟨by omega,by omega⟩,eb,Zj,Zd ⟨by omega,by omega⟩,Zi (by omega) (by omega),Zd ⟨by omega,by omega⟩,Zi (by omega) (by omega)]
     exact⟨_,rfl,⟨k+1,by simp,by omega,by dsimp only;rw[List.length_set];exact hlen,by dsimp only;rw[hnet,ZDF hm ho q q2]⟩,by (try dsimp only)<;>omega,rfl⟩
    ·right
     have:k=Zdk m (r.2.1.getD i 0).toNat:=by omega
     subst this
     rw[Zf (by omega),Zi (by omega) (by omega),hnet]
     rfl
   ·obtain⟨c1,c2⟩:=Zqv hm ho k1 i hi
    have:=(Zp5 (b:=r.2.2.2.1) c2 (Zf3 m r i).length (Nat.le_refl _)).1
    rw[List.take_length]at this
    dsimp only
    rw[ho',this]
   ·dsimp only
    rw[ho']
    show _=(ZcR (Zf3 m r i++[]) r.2.2.2.1).2
    rw[List.append_nil]
  rw[hl]
  exact⟨_,rfl,⟨i+1,by simp,by omega,rfl⟩,by (try dsimp only)<;>omega,rfl⟩
 ·right
  have:i=r.2.1.length:=by omega
  subst this
  rw[Zf (by omega),ho',hfin]
  rfl
end Go.AE.Y
namespace Go.AE.Y
open Go Go.AE
set_option maxHeartbeats 400000
theorem ZwD {β R:Type} {f:Int×List β→Option ((Int×List β)⊕R)} (n:Nat) (p:Nat→Bool) (g:Nat→β) (fin:R)
  (h:∀(i:Nat) (out:List β),i<n→out.length≤n→f ((i:Int),out)=some (.inl ((i:Int)+1,bif p i then out++[g i]else out)))
  (hn:f ((n:Int),((List.range n).filter p).map g)=some (.inr fin)):loop f ((0:Int),[])=some fin:=by
 refine ZC (fun s:Int×List β=>∃i:Nat,s.1=i∧i≤n∧s.2=((List.range i).filter p).map g) (fun s=>n - s.1.toNat) (fun _=>fin) ?_ _ ⟨0,rfl,Nat.zero_le _,rfl⟩
 rintro⟨i,out⟩ ⟨j,hj,hl,ho⟩
 dsimp only at hj ho
 subst hj
 rcases Nat.lt_or_ge j n with q|q
 ·left
  have hlen:out.length≤n:=by
   rw[ho,List.length_map]
   have:=List.length_filter_le p (List.range j)
   rw[List.length_range]at this
   omega
  rw[h j out q hlen]
  refine⟨_,rfl,⟨j+1,by simp,by omega,?_⟩,by (try dsimp only)<;>omega,rfl⟩
  dsimp only
  rw[List.range_succ,List.filter_append,List.map_append,ho]
  cases hp:p j with
  |true=>rw[ctt,List.filter_cons_of_pos hp];rfl
  |false=>rw[cff,List.filter_cons_of_neg (by rw[hp];decide)];exact(List.append_nil _).symm
 ·right
  have:j=n:=by omega
  rw[ho,this]
  exact hn
theorem ZBp {α β:Type} (l:List α) (d:α) (p:α→Bool) (g:α→β):(l.filter p).map g=((List.range l.length).filter (fun i=>p (l.getD i d))).map (fun i=>g (l.getD i d)):=by
 have e:(List.range l.length).map (fun i=>l.getD i d)=l:=by
  refine List.ext_getElem (by rw[List.length_map,List.length_range]) (fun i h1 h2=>?_)
  rw[List.getElem_map,List.getElem_range,List.getD_eq_getElem?_getD,List.getElem?_eq_getElem h2]
  rfl
 have:=List.filter_map (f:=fun i=>l.getD i d) (p:=p) (l:=List.range l.length)
 rw[e]at this
 rw[this,List.map_map]
 rfl
theorem ZyN {l l':List Int} (h:l.Pairwise (· ≤ ·)) (h':l'.Pairwise (· ≤ ·)) (hp:l.Perm l'):l=l':=
 List.Perm.eq_of_pairwise (le:=fun x y=>x≤y) (fun _ _ _ _ h1 h2=>Int.le_antisymm h1 h2) h h' hp
theorem Zyo (l:List Int):(Zlu l).Pairwise (· ≤ ·):=ZAu l (fun x=>x)
theorem Zlv (l:List Int):(Zlu l).Perm l:=List.mergeSort_perm l _
theorem ZDO {l:List Int} (h:l.length≤4000000000):Zzd l=some (Zlu l):=if_pos h
theorem ZDb {l:List Int} {k:Nat} (h:k+1<l.length):((l.set (k+1) (l.getD k 0)).set k (l.getD (k+1) 0)).Perm l:=by
 have:=List.set_set_perm (i:=k+1) (j:=k) h (show k<l.length by omega)
 rw[List.getD_eq_getElem?_getD,List.getD_eq_getElem?_getD,List.getElem?_eq_getElem h,List.getElem?_eq_getElem (show k<l.length by omega)]
 exact this
theorem ZEA {l:List Int} (h:∀a b,a<b→b<l.length→l.getD a 0≤l.getD b 0):l.Pairwise (· ≤ ·):=by
 rw[List.pairwise_iff_getElem]
 intro i j hi hj hij
 have:=h i j hij hj
 rwa [List.getD_eq_getElem?_getD,List.getD_eq_getElem?_getD,List.getElem?_eq_getElem hi,List.getElem?_eq_getElem hj]at this
theorem ZxU {l:List Int} (hn:l.length≤1000) {i:Nat} (hi:i<l.length) {o:List Int} (hp:o.Perm l) (hs:∀a b,a<b→b<i→o.getD a 0≤o.getD b 0) :
  ∃r:(Int×List Int)⊕List Int,loop (Zjf i) ((i:Int),o)=some r∧∃o':List Int,r=Sum.inl ((i:Int)+1,o')∧o'.Perm l∧∀a b,a<b→b<i+1→o'.getD a 0≤o'.getD b 0:=by
 refine Zdv (fun s:Int×List Int=>∃k:Nat,s.1=k∧k≤i∧s.2.Perm l∧∀a b,a<b→b≤i→b≠k→s.2.getD a 0≤s.2.getD b 0) (fun s=>s.1.toNat) (fun r:(Int×List Int)⊕List Int=>∃o':List Int,r=Sum.inl ((i:Int)+1,o')∧o'.Perm l∧∀a b,a<b→b<i+1→o'.getD a 0≤o'.getD b 0) ?_ _ ⟨i,rfl,Nat.le_refl _,hp,fun a b h1 h2 h3=>hs a b h1 (by omega)⟩
 rintro⟨s,o⟩ ⟨k,hk1,hk,hp,hs⟩
 dsimp only at hk1 hp hs
 subst hk1
 have hl:=hp.length_eq
 unfold Zjf
 dsimp only
 cases k with
 |zero=>
  right
  rw[Zf (by omega),Zi (by omega) (by omega)]
  exact⟨_,rfl,o,rfl,hp,fun a b h1 h2=>hs a b h1 (by omega) (by omega)⟩
 |succ k=>
  rw[Zg (by omega),Zd ⟨by omega,by omega⟩,Zi (by omega) (by omega),Zd ⟨by omega,by omega⟩,show (((k+1:Nat):Int) - 1).toNat=k by omega,Int.toNat_natCast]
  by_cases q:o.getD (k+1) 0<o.getD k 0
  ·left
   rw[Zg q,Zd ⟨by omega,by omega⟩,Zi (by omega) (by omega),Zd ⟨by omega,by omega⟩,Zd ⟨by omega,by omega⟩,Zi (by omega) (by omega),Zd ⟨by omega,by rw[List.length_set];omega⟩,Zi (by omega) (by omega)]
   have hget:∀j,((o.set (k+1) (o.getD k 0)).set k (o.getD (k+1) 0)).getD j 0=if j=k then o.getD (k+1) 0 else if j=k+1 then o.getD k 0 else o.getD j 0:=fun j=>by
    by_cases e:j=k
    ·rw[if_pos e,e,ZbL (by rw[List.length_set];omega)]
    ·rw[if_neg e,ZN (by omega)]
     by_cases e2:j=k+1
     ·rw[if_pos e2,e2,ZbL (by omega)]
     ·rw[if_neg e2,ZN (by omega)]
   refine⟨_,rfl,⟨k,by omega,by omega,(ZDb (by omega)).trans hp,fun a b h1 h2 h3=>?_⟩,by dsimp only;omega⟩
   dsimp only
   rw[hget a,hget b,if_neg h3]
   by_cases eb:b=k+1
   ·rw[if_pos eb]
    by_cases ea:a=k
    ·rw[if_pos ea];omega
    ·rw[if_neg ea,if_neg (by omega)]
     exact hs a k (by omega) (by omega) (by omega)
   ·rw[if_neg eb]
    by_cases ea:a=k
    ·rw[if_pos ea]
     exact hs (k+1) b (by omega) h2 eb
    ·rw[if_neg ea]
     by_cases ea2:a=k+1
     ·rw[if_pos ea2]
      exact hs k b (by omega) h2 eb
     ·rw[if_neg ea2]
      exact hs a b h1 h2 eb
  ·right
   rw[Zf q,Zi (by omega) (by omega)]
   refine⟨_,rfl,o,rfl,hp,fun a b h1 h2=>?_⟩
   by_cases e:b=k+1
   ·subst e
    by_cases e2:a=k
    ·rw[e2];omega
    ·have:=hs a k (by omega) (by omega) (by omega)
     omega
   ·exact hs a b h1 (by omega) e
theorem Zv6 {l:List Int} (hn:l.length≤1000):Zjt l=some (Zlu l):=by
 unfold Zjt
 rw[Zd (by simp only[Zp,List.length_nil];omega),List.nil_append]
 have:=Zdv (f:=Zje) (fun s:Int×List Int=>∃i:Nat,s.1=i∧i≤l.length∧s.2.Perm l∧∀a b,a<b→b<i→s.2.getD a 0≤s.2.getD b 0) (fun s=>l.length - s.1.toNat) (fun r=>r=Zlu l) ?_ ((0:Int),l) ⟨0,rfl,Nat.zero_le _,List.Perm.refl _,fun a b h1 h2=>by omega⟩
 ·obtain⟨r,e,h⟩:=this
  rw[e,h]
 rintro⟨s,o⟩ ⟨i,hi1,hi,hp,hs⟩
 dsimp only at hi1 hp hs
 subst hi1
 have hl:=hp.length_eq
 unfold Zje
 dsimp only
 rcases Nat.lt_or_ge i l.length with q|q
 ·left
  obtain⟨r,e,o',e2,h3,h4⟩:=ZxU hn q hp hs
  rw[Zg (by omega),e,e2]
  exact⟨_,rfl,⟨i+1,by simp,by omega,h3,h4⟩,by dsimp only;omega⟩
 ·right
  rw[Zf (by omega)]
  refine⟨_,rfl,?_⟩
  exact ZyN (ZEA (fun a b h1 h2=>hs a b h1 (by omega))) (Zyo l) (hp.trans (Zlv l).symm)
theorem Zsp {m:Zr} {r:Zz} (hm:Zx m=true) (ho:ZcS m r) (k:Nat):(∀y∈ZdG m r k,1≤y∧y≤12)∧(ZdG m r k).length≤5:=by
 refine⟨fun y hy=>?_,?_⟩
 ·obtain⟨c,c1,c2,rfl⟩:=(ZmK hm ho).2 y hy
  have:=ZcN hm (Zjv ho c1).2 c2
  omega
 ·unfold ZdG
  rw[List.length_map]
  have:=List.length_filter_le (fun c:Int=>decide ((k:Int)≤m.1.getD c.toNat 0)) r.2.1
  have:=ZgL hm ho
  omega
def ZiL (m:Zr) (r:Zz) (k:Nat):Zu:=if 1<(ZdG m r k).length then[Zh3 (Zlu (ZdG m r k))]else[]
theorem Zzw {m:Zr} {r:Zz} (hm:Zx m=true) (ho:ZcS m r) (k:Nat):(∀x∈Zlu (ZdG m r k),-1000≤x∧x≤1000)∧(Zlu (ZdG m r k)).length≤1000:=by
 obtain⟨h1,h2⟩:=Zsp hm ho k
 refine⟨fun x hx=>?_,?_⟩
 ·have:=h1 x ((Zlv _).mem_iff.1 hx)
  omega
 ·rw[(Zlv _).length_eq];omega
theorem Zso (m:Zr) (r:Zz) (k:Nat):(List.range (k+1)).flatMap (ZiL m r)=(List.range k).flatMap (ZiL m r)++ZiL m r k:=by
 rw[List.range_succ,List.flatMap_append,List.flatMap_cons,List.flatMap_nil,List.append_nil]
theorem Zq3 (m:Zr) (r:Zz):∀k,((List.range k).flatMap (ZiL m r)).length≤k
 |0=>Nat.le_refl _
 |k+1=>by
  have:=Zq3 m r k
  have h2:(ZiL m r k).length≤1:=by
   unfold ZiL
   split
   ·exact Nat.le_refl _
   ·exact Nat.zero_le _
  rw[Zso,List.length_append]
  omega
theorem ZzP {m:Zr} {r:Zz} (hm:Zx m=true) (ho:ZcS m r) (k2:r.1=2):Zbk m r=some (ZpZ m r):=by
 have h5:=ZgL hm ho
 unfold Zbk
 rw[ZD (by omega),ZI k2]
 refine ZC (fun s:Int×Zu=>∃k:Nat,s.1=k∧k≤4∧s.2=(List.range k).flatMap (ZiL m r)) (fun s=>4 - s.1.toNat) (fun _=>ZpZ m r) ?_ _ ⟨0,rfl,by omega,rfl⟩
 rintro⟨s,out⟩ ⟨k,hk1,hk,hout⟩
 dsimp only at hk1 hout
 subst hk1
 have hol:out.length≤k:=by rw[hout];exact Zq3 m r k
 unfold Zgt
 dsimp only
 rcases Nat.lt_or_ge k 4 with q|q
 ·left
  have hin:=Zsp hm ho k
  obtain⟨d1,d2⟩:=Zzw hm ho k
  have hj:Zdg k out (ZdG m r k)=some (Sum.inl ((k:Int)+1,(List.range (k+1)).flatMap (ZiL m r))):=by
   unfold Zdg
   rw[Zso,←hout]
   unfold ZiL
   by_cases q2:1<(ZdG m r k).length
   ·rw[if_pos q2,Zg (by omega),ZDO (by omega),Zj,ZpT d2 d1,Zj,Zd (by simp only[Zp,List.length_cons,List.length_nil];omega),Zi (by omega) (by omega)]
   ·rw[if_neg q2,Zf (by omega),Zi (by omega) (by omega),List.append_nil]
  have hl:loop (Zdi m r k out) ((0:Int),[])=some (Sum.inl ((k:Int)+1,(List.range (k+1)).flatMap (ZiL m r)):(Int×Zu)⊕Zu):=by
   refine ZwD r.2.1.length (fun i=>decide ((k:Int)≤m.1.getD (r.2.1.getD i 0).toNat 0)) (fun i=>Zbh m (r.2.1.getD i 0).toNat k) _ (fun i o hi ho2=>?_) ?_
   ·obtain⟨⟨a0,a1⟩,a2,a3,_⟩:=Zlt hm ho hi
    have eb:=Zhv hm a1 (k:=k) (by omega)
    rw[show (((r.2.1.getD i 0).toNat:Nat):Int)=r.2.1.getD i 0 by omega,show (1:Int)+k+ZE m (r.2.1.getD i 0).toNat=Zbh m (r.2.1.getD i 0).toNat k from rfl]at eb
    unfold Zdi
    dsimp only
    rw[Zg (by omega),Zd ⟨by omega,by omega⟩,Int.toNat_natCast,Zd ⟨by omega,by omega⟩]
    by_cases q3:(k:Int)≤m.1.getD (r.2.1.getD i 0).toNat 0
    ·rw[Zg q3,eb,Zj,Zd (by simp only[Zp,List.length_cons,List.length_nil];omega),Zi (by omega) (by omega),decide_eq_true q3]
     rfl
    ·rw[Zf q3,Zi (by omega) (by omega),decide_eq_false q3]
     rfl
   ·have e:=ZBp r.2.1 0 (fun c=>decide ((k:Int)≤m.1.getD c.toNat 0)) (fun c=>Zbh m c.toNat k)
    rw[←e]
    unfold Zdi
    dsimp only
    rw[Zf (by omega)]
    show up (Zdg k out (ZdG m r k))=_
    rw[hj]
    rfl
  rw[Zg (by omega),hl]
  exact⟨_,rfl,⟨k+1,by simp,by omega,rfl⟩,by (try dsimp only)<;>omega,rfl⟩
 ·right
  have:k=4:=by omega
  rw[Zf (by omega),hout,this]
  rfl
theorem ZAw {m:Zr} {r:Zz} (hm:Zx m=true) (ho:ZcS m r):ZgF m r=some (ZpZ m r):=by
 have h5:=ZgL hm ho
 unfold ZgF
 refine ZC (fun s:Int×Zu=>∃k:Nat,s.1=k∧k≤4∧s.2=(List.range k).flatMap (ZiL m r)) (fun s=>4 - s.1.toNat) (fun _=>ZpZ m r) ?_ _ ⟨0,rfl,by omega,rfl⟩
 rintro⟨s,out⟩ ⟨k,hk1,hk,hout⟩
 dsimp only at hk1 hout
 subst hk1
 have hol:out.length≤k:=by rw[hout];exact Zq3 m r k
 unfold Zj3
 dsimp only
 rcases Nat.lt_or_ge k 4 with q|q
 ·left
  have hin:=Zsp hm ho k
  obtain⟨d1,d2⟩:=Zzw hm ho k
  have hj:ZeJ k out (ZdG m r k)=some (Sum.inl ((k:Int)+1,(List.range (k+1)).flatMap (ZiL m r))):=by
   unfold ZeJ
   rw[Zso,←hout]
   unfold ZiL
   by_cases q2:1<(ZdG m r k).length
   ·rw[if_pos q2,Zg (by omega),Zv6 (by omega),Zj,Zr2 d2 d1,Zj,Zd (by simp only[Zp,List.length_cons,List.length_nil];omega),Zi (by omega) (by omega)]
   ·rw[if_neg q2,Zf (by omega),Zi (by omega) (by omega),List.append_nil]
  have hl:loop (ZeK m r k out) ((0:Int),[])=some (Sum.inl ((k:Int)+1,(List.range (k+1)).flatMap (ZiL m r)):(Int×Zu)⊕Zu):=by
   refine ZwD r.2.1.length (fun i=>decide ((k:Int)≤m.1.getD (r.2.1.getD i 0).toNat 0)) (fun i=>Zbh m (r.2.1.getD i 0).toNat k) _ (fun i o hi ho2=>?_) ?_
   ·obtain⟨⟨a0,a1⟩,a2,a3,_⟩:=Zlt hm ho hi
    have eb:=Zhi hm a1 (k:=k) (by omega)
    rw[show (((r.2.1.getD i 0).toNat:Nat):Int)=r.2.1.getD i 0 by omega,show (1:Int)+k+ZE m (r.2.1.getD i 0).toNat=Zbh m (r.2.1.getD i 0).toNat k from rfl]at eb
    unfold ZeK
    dsimp only
    rw[Zg (by omega),Zd ⟨by omega,by omega⟩,Int.toNat_natCast,Zd ⟨by omega,by omega⟩]
    by_cases q3:(k:Int)≤m.1.getD (r.2.1.getD i 0).toNat 0
    ·rw[Zg q3,Zd ⟨by omega,by omega⟩,eb,Zj,Zd (by simp only[Zp,List.length_cons,List.length_nil];omega),Zi (by omega) (by omega),decide_eq_true q3]
     rfl
    ·rw[Zf q3,Zi (by omega) (by omega),decide_eq_false q3]
     rfl
   ·have e:=ZBp r.2.1 0 (fun c=>decide ((k:Int)≤m.1.getD c.toNat 0)) (fun c=>Zbh m c.toNat k)
    rw[←e]
    unfold ZeK
    dsimp only
    rw[Zf (by omega)]
    show up (ZeJ k out (ZdG m r k))=_
    rw[hj]
    rfl
  rw[Zg (by omega),hl]
  exact⟨_,rfl,⟨k+1,by simp,by omega,rfl⟩,by (try dsimp only)<;>omega,rfl⟩
 ·right
  have:k=4:=by omega
  rw[Zf (by omega),hout,this]
  rfl
end Go.AE.Y
namespace Go.AE.Y
open Go Go.AE
set_option maxHeartbeats 400000
structure Zsj (m:Zr) (r:Zz) (vals:List Int) (i:Nat) (x:List Int):Prop where
 len:x.length=m.1.length
 dig:∀j,j<m.1.length→0≤x.getD j 0∧x.getD j 0≤m.1.getD j 0
 same:∀j,j<i→x.getD (r.2.1.getD j 0).toNat 0=vals.getD j 0
theorem Zyf {m:Zr} (hm:Zx m=true) (r:Zz) (vals:List Int):Zsj m r vals 0 (List.replicate m.1.length 0):=by
 have h:=ZcT (Zp7 hm)
 exact⟨h.1,fun j hj=>h.2 j (by rw[h.1];exact hj),fun j hj=>absurd hj (Nat.not_lt_zero _)⟩
theorem Zye {m:Zr} {r:Zz} {vals x:List Int} (ho:ZcS m r) (hv:∀i,i<r.2.1.length→0≤vals.getD i 0∧vals.getD i 0≤m.1.getD (r.2.1.getD i 0).toNat 0) {i:Nat} (hi:i<r.2.1.length) (h:Zsj m r vals i x):Zsj m r vals (i+1) (x.set (r.2.1.getD i 0).toNat (vals.getD i 0)):=by
 have hc:=(ho.vars i hi).2
 refine⟨by rw[List.length_set];exact h.len,fun j hj=>?_,fun j hj=>?_⟩
 ·by_cases e:j=(r.2.1.getD i 0).toNat
  ·rw[e,ZbL (by rw[h.len];exact hc)]
   exact hv i hi
  ·rw[ZN (by omega)]
   exact h.dig j hj
 ·by_cases e:j=i
  ·rw[e,ZbL (by rw[h.len];exact hc)]
  ·rw[ZN (fun q=>e (ZAn ho (by omega) hi q.symm))]
   exact h.same j (by omega)
theorem Zyd {m:Zr} {r:Zz} {vals x:List Int} (hl:vals.length=r.2.1.length) (h:Zsj m r vals r.2.1.length x):ZX m x=true∧ZcA r.2.1 x=vals:=by
 refine⟨?_,Zq7 (by unfold ZcA;rw[List.length_map,hl]) (fun i hi=>?_)⟩
 ·unfold ZX cellAt
  simp only[Bool.and_eq_true,decide_eq_true_eq,List.all_eq_true,List.mem_range]
  exact⟨h.len,fun i hi=>h.dig i (by have:=h.len;omega)⟩
 ·have hi':i<r.2.1.length:=by unfold ZcA at hi;rwa [List.length_map]at hi
  rw[ZqB hi']
  exact h.same i hi'
theorem ZBt {m:Zr} {r:Zz} {vals:List Int} (hm:Zx m=true) (ho:ZcS m r) (hv:∀i,i<r.2.1.length→0≤vals.getD i 0∧vals.getD i 0≤m.1.getD (r.2.1.getD i 0).toNat 0):∀i,i≤r.2.1.length→∃x,Zsj m r vals i x
 |0,_=>⟨_,Zyf hm r vals⟩
 |i+1,hi=>by
  obtain⟨x,hx⟩:=ZBt hm ho hv i (by omega)
  exact⟨_,Zye ho hv (by omega) hx⟩
theorem Zri (m:Zr) (r:Zz) (vals:List Int):(Zkj m r vals).length=r.2.1.length:=by
 unfold Zkj
 rw[List.length_map,List.length_range]
def Zwq (m:Zr) (r:Zz) (l:List (List Int)):Zu:=(l.filter (fun vals=>!holdsB r vals)).map (fun vals=>ZhV (Zkj m r vals))
def Zga (m:Zr) (r:Zz) (vals:List Int):Zu:=bif holdsB r vals then[]else[ZhV (Zkj m r vals)]
theorem Zp1 (m:Zr) (r:Zz) (v:List Int) (l:List (List Int)):Zwq m r (v::l)=Zga m r v++Zwq m r l:=by
 unfold Zwq Zga
 cases h:holdsB r v with
 |true=>rw[List.filter_cons_of_neg (by rw[h];decide),ctt,List.nil_append]
 |false=>rw[List.filter_cons_of_pos (by rw[h];rfl),cff];rfl
theorem ZvF {m:Zr} {r:Zz} (hm:Zx m=true) (hs:ZcU r) (hr:r∈m.2) {vals:List Int} (hv:ZX (smM m r) vals=true) {out:Zu} (hout:out.length≤100000) :
  Zcg r m vals out=some (true,out++Zga m r vals):=by
 have ho:=ZoN hm hr
 have h5:=ZgL hm ho
 obtain⟨l1,l2⟩:=ZsD hm ho hv
 have hvl:vals.length=r.2.1.length:=by
  have:=(ZcT hv).1
  unfold smM at this
  rwa [List.length_map]at this
 obtain⟨x,hx⟩:=ZBt hm ho l2 r.2.1.length (Nat.le_refl _)
 obtain⟨x1,x2⟩:=Zyd hvl hx
 have hrb:=ZwF hm r hr
 have hok:=ZAh hm hs x1 hrb
 rw[x2]at hok
 unfold Zcg Zga
 rw[Zt4 hs (Zv1 hrb).2.2 hok,Zj]
 cases holdsB r vals with
 |true=>rw[cnt,ctt,List.append_nil]
 |false=>
  rw[cnf,cff]
  have hfin:ZbU out (Zkj m r vals)=some (true,out++[ZhV (Zkj m r vals)]):=by
   unfold ZbU
   rw[ZiM _ (by rw[Zri];omega),Zj,Zq2 l1 (by rw[Zri];omega),Zd (by simp only[Zp,List.length_cons,List.length_nil];omega)]
  have:=ZbY (f:=ZbV r m vals out) (List.range r.2.1.length) 0 (fun i=>0 - Zbh m (r.2.1.getD i 0).toNat (vals.getD i 0).toNat) [] (fun _=>(true,out++[ZhV (Zkj m r vals)])) (fun i o hi ho2=>?_) ?_
  ·exact this
  ·rw[List.length_range]at hi
   have ho2:o.length=i:=by rw[ho2];simp
   obtain⟨⟨a0,a1⟩,a2,a3,_⟩:=Zlt hm ho hi
   have hvi:=l2 i hi
   have eb:=Zhv hm a1 (k:=(vals.getD i 0).toNat) (by omega)
   rw[show (((r.2.1.getD i 0).toNat:Nat):Int)=r.2.1.getD i 0 by omega,show (1:Int)+((vals.getD i 0).toNat:Nat)+ZE m (r.2.1.getD i 0).toNat=Zbh m (r.2.1.getD i 0).toNat (vals.getD i 0).toNat from rfl,show (((vals.getD i 0).toNat:Nat):Int)=vals.getD i 0 by omega]at eb
   have rm:=ZcN hm a1 (k:=(vals.getD i 0).toNat) (by omega)
   unfold ZbV
   dsimp only
   rw[Zg (by omega),Zd ⟨by omega,by omega⟩,Zd ⟨by omega,by omega⟩,Int.toNat_natCast,eb,Zj,Zi (by omega) (by omega),Zd (by simp only[Zp,List.length_cons,List.length_nil];omega),Zi (by omega) (by omega),ZqC hi]
  ·rw[List.length_range,List.nil_append]
   unfold ZbV
   dsimp only
   rw[Zf (by omega)]
   show up (ZbU out (Zkj m r vals))=_
   rw[hfin]
   rfl
theorem ZBE (m:Zr) (r:Zz):(smM m r).1.length=r.2.1.length:=List.length_map ..
theorem ZzQ {m:Zr} {r:Zz} (hm:Zx m=true) (hs:ZcU r) (hr:r∈m.2) (h1:r.1≠1) (h2:r.1≠2):Zbk m r=some (ZnA m r):=by
 have ho:=ZoN hm hr
 have h5:=ZgL hm ho
 have hsm:=ZwR hm ho
 have hz:ZX (smM m r) (ZnX (smM m r))=true:=Zp7 hsm
 have hlen:=ZBE m r
 have hfin:Zdh m r (smM m r).1=some (ZnA m r):=by
  unfold Zdh
  rw[Zd ⟨by omega,by simp only[Zp];omega,rfl⟩,Int.toNat_natCast]
  have key:Zbf (smM m r).1 (List.replicate (smM m r).1.length 0) r m=some (ZnA m r):=by
   unfold Zbf
   rw[ZCq (by rw[List.length_replicate];omega),Zj]
   refine(ZC (f:=ZbB (smM m r).1 r m) (fun s:List Int×Zu=>ZX (smM m r) s.1=true∧s.2.length+muF s.1≤2000) (fun s=>muF s.1) (fun s=>s.2++Zwq m r (Zru (smM m r) s.1)) ?_ _ ⟨hz,by unfold muF;simp;omega⟩).trans (by rw[List.nil_append];rfl)
   rintro⟨x,out⟩ ⟨hx,hb⟩
   dsimp only at hx hb ⊢
   obtain⟨x1,x2⟩:=Ze8 hx
   have hp:=(Zqx hsm hx).1
   have hst:(Zga m r x).length≤1:=by
    unfold Zga
    cases holdsB r x with
    |true=>exact Nat.zero_le _
    |false=>exact Nat.le_refl _
   unfold ZbB
   dsimp only
   rw[ZvF hm hs hr hx (by omega),Zj,ctt,Zi (by omega) (by omega),ZDH (X:=(List Int×Zu)⊕Zu) hsm hx (fun y=>.inl (y,out++Zga m r x)) (.inr (out++Zga m r x)) (f:=Zct (smM m r).1 (true,out++Zga m r x)) (g:=ZbA (true,out++Zga m r x)) (fun i y=>rfl) (fun i y=>rfl),Zvy hsm hx]
   cases hq:(ZbC (smM m r) x).1 with
   |true=>
    left
    have hmu:=ZrT hsm hx hq
    refine⟨_,rfl,⟨Zm7 hx,by dsimp only;rw[List.length_append];omega⟩,hmu,?_⟩
    dsimp only
    rw[ctt,Zp1,List.append_assoc]
   |false=>
    right
    rw[cff,cff,Zp1]
    show some (Sum.inr (out++Zga m r x))=some (Sum.inr (out++(Zga m r x++[])))
    rw[List.append_nil]
  rw[key,Zj]
 unfold Zbk
 rw[ZD h1,ZD h2]
 have:=ZbY (f:=Zdj m r) r.2.1 0 (fun c=>m.1.getD c.toNat 0) [] (fun _=>ZnA m r) (fun i o hi ho2=>?_) ?_
 ·exact this
 ·have ho2:o.length=i:=by rw[ho2];simp
  have hv:=ho.vars i hi
  unfold Zdj
  dsimp only
  rw[Zg (by omega),Zd ⟨by omega,by omega⟩,Int.toNat_natCast,Zd ⟨by omega,by omega⟩,Zd (by simp only[Zp,List.length_cons,List.length_nil];omega),Zi (by omega) (by omega)]
 ·rw[List.nil_append]
  unfold Zdj
  dsimp only
  rw[Zf (by omega)]
  show up (Zdh m r (smM m r).1)=_
  rw[hfin]
  rfl
theorem ZAx {m:Zr} {r:Zz} (hm:Zx m=true) (hs:ZcU r) (hr:r∈m.2):Zjr m r=some (ZnA m r):=by
 have ho:=ZoN hm hr
 have h5:=ZgL hm ho
 have hsm:=ZwR hm ho
 have hz:ZX (smM m r) (ZnX (smM m r))=true:=Zp7 hsm
 have hlen:=ZBE m r
 have hrb:=ZwF hm r hr
 obtain⟨m1,m2,m3⟩:=Zd0 hm
 have hsame:(((smM m r).1,[]):Zr)=smM m r:=rfl
 have hfin:ZgG m r (smM m r).1=some (ZnA m r):=by
  unfold ZgG
  rw[Zd ⟨by omega,by simp only[Zp];omega,rfl⟩,Int.toNat_natCast]
  refine(ZC (f:=Zja m r (smM m r).1) (fun s:Bool×Zu×List Int=>ZX (smM m r) s.2.2=true∧(s.1=true→s.2.1.length+muF s.2.2≤2000)) (fun s=>bif s.1 then 1+muF s.2.2 else 0) (fun s=>s.2.1++bif s.1 then Zwq m r (Zru (smM m r) s.2.2)else[]) ?_ (true,[],List.replicate r.2.1.length 0) ⟨by rw[←hlen];exact hz,fun _=>by unfold muF;simp;omega⟩).trans (by rw[←hlen];rfl)
  rintro⟨go,out,x⟩ ⟨hx,hb⟩
  dsimp only at hx hb ⊢
  obtain⟨x1,x2⟩:=Ze8 hx
  have hvl:x.length=r.2.1.length:=by omega
  have hp:=(Zqx hsm hx).1
  obtain⟨l1,l2⟩:=ZsD hm ho hx
  unfold Zja
  dsimp only
  cases go with
  |false=>
   right
   rw[cff,cff,List.append_nil]
  |true=>
   left
   have hb:=hb rfl
   have hnx:Zjx (smM m r) x=some (ZbC (smM m r) x):=ZxP hsm hx
   have hj3:∀o:Zu,ZgI (smM m r).1 x o=some (Sum.inl ((ZbC (smM m r) x).1,o,(ZbC (smM m r) x).2)):=fun o=>by
    unfold ZgI
    rw[hsame,hnx,Zj]
   have hj2:∀y,Zsj m r x r.2.1.length y→ZgH r (smM m r).1 out x (y,Zkj m r x)=some (Sum.inl ((ZbC (smM m r) x).1,out++Zga m r x,(ZbC (smM m r) x).2)):=fun y hy=>by
    obtain⟨y1,y2⟩:=Zyd hvl hy
    unfold ZgH Zga
    dsimp only
    rw[ZwV hm hs y1 hrb,Zj,y2]
    cases holdsB r x with
    |true=>rw[cnt,ctt,List.append_nil,hj3]
    |false=>rw[cnf,cff,Zi1 _ (by rw[Zri];omega),Zj,Zq2 l1 (by rw[Zri];omega),Zd (by simp only[Zp,List.length_cons,List.length_nil];omega),hj3]
   have hl:loop (Zjb m r (smM m r).1 out x) ((0:Int),List.replicate m.1.length 0,[])=some (Sum.inl ((ZbC (smM m r) x).1,out++Zga m r x,(ZbC (smM m r) x).2):(Bool×Zu×List Int)⊕Zu):=by
    refine ZC (fun s:Int×List Int×List Int=>∃i:Nat,s.1=i∧i≤r.2.1.length∧Zsj m r x i s.2.1∧s.2.2=(List.range i).map (fun i=>0 - Zbh m (r.2.1.getD i 0).toNat (x.getD i 0).toNat)) (fun s=>r.2.1.length - s.1.toNat) (fun _=>_) ?_ _ ⟨0,rfl,Nat.zero_le _,Zyf hm r x,rfl⟩
    rintro⟨s,y,lits⟩ ⟨i,hi1,hi,hy,hlits⟩
    dsimp only at hi1 hy hlits
    subst hi1
    have hll:lits.length=i:=by rw[hlits,List.length_map,List.length_range]
    unfold Zjb
    dsimp only
    rcases Nat.lt_or_ge i r.2.1.length with q|q
    ·left
     obtain⟨⟨a0,a1⟩,a2,a3,_⟩:=Zlt hm ho q
     have hvi:=l2 i q
     have hyl:=hy.len
     have eb:=Zhi hm a1 (k:=(x.getD i 0).toNat) (by omega)
     rw[show (((r.2.1.getD i 0).toNat:Nat):Int)=r.2.1.getD i 0 by omega,show (1:Int)+((x.getD i 0).toNat:Nat)+ZE m (r.2.1.getD i 0).toNat=Zbh m (r.2.1.getD i 0).toNat (x.getD i 0).toNat from rfl,show (((x.getD i 0).toNat:Nat):Int)=x.getD i 0 by omega]at eb
     have rm:=ZcN hm a1 (k:=(x.getD i 0).toNat) (by omega)
     rw[Zg (by omega),Zd ⟨by omega,by omega⟩,Zd ⟨by omega,by omega⟩,Int.toNat_natCast,Zd ⟨by omega,by omega⟩]
     unfold ZmW
     rw[Zd ⟨by omega,by omega⟩,Zd ⟨by omega,by omega⟩,Int.toNat_natCast,eb,Zj,Zi (by omega) (by omega),Zd (by simp only[Zp,List.length_cons,List.length_nil];omega),Zi (by omega) (by omega)]
     refine⟨_,rfl,⟨i+1,by simp,by omega,Zye ho l2 q hy,?_⟩,by (try dsimp only)<;>omega,rfl⟩
     dsimp only
     rw[hlits,List.range_succ,List.map_append]
     rfl
    ·right
     have:i=r.2.1.length:=by omega
     subst this
     rw[Zf (by omega),hlits]
     show up (ZgH r (smM m r).1 out x (y,Zkj m r x))=_
     rw[hj2 y hy]
     rfl
   rw[ctt,Zd ⟨by omega,by simp only[Zp];omega,rfl⟩,Int.toNat_natCast,hl]
   have hst:(Zga m r x).length≤1:=by
    unfold Zga
    cases holdsB r x with
    |true=>exact Nat.zero_le _
    |false=>exact Nat.le_refl _
   have has:=Zvy hsm hx
   cases hq:(ZbC (smM m r) x).1 with
   |true=>
    have hmu:=ZrT hsm hx hq
    rw[hq,ctt]at has
    refine⟨_,rfl,⟨Zm7 hx,fun _=>by dsimp only;rw[List.length_append];omega⟩,by show 1+muF (ZbC (smM m r) x).2<1+muF x;omega,?_⟩
    dsimp only
    rw[ctt,ctt,has,Zp1,List.append_assoc]
   |false=>
    rw[hq,cff]at has
    refine⟨_,rfl,⟨Zm7 hx,fun h=>by cases h⟩,by show 0<1+muF x;omega,?_⟩
    dsimp only
    rw[cff,ctt,has,Zp1,List.append_nil]
    show out++Zga m r x=out++(Zga m r x++[])
    rw[List.append_nil]
 unfold Zjr
 have:=ZbY (f:=ZgJ m r) r.2.1 0 (fun c=>m.1.getD c.toNat 0) [] (fun _=>ZnA m r) (fun i o hi ho2=>?_) ?_
 ·exact this
 ·have ho2:o.length=i:=by rw[ho2];simp
  have hv:=ho.vars i hi
  unfold ZgJ
  dsimp only
  rw[Zg (by omega),Zd ⟨by omega,by omega⟩,Int.toNat_natCast,Zd ⟨by omega,by omega⟩,Zd (by simp only[Zp,List.length_cons,List.length_nil];omega),Zi (by omega) (by omega)]
 ·rw[List.nil_append]
  unfold ZgJ
  dsimp only
  rw[Zf (by omega)]
  show up (ZgG m r (smM m r).1)=_
  rw[hfin]
  rfl
end Go.AE.Y
namespace Go.AE.Y
open Go Go.AE
set_option maxHeartbeats 400000
theorem ZBD {m:Zr}:∀n x,(ZoO m n x).length≤n+1
 |0,_=>Nat.le_refl _
 |n+1,x=>by
  show (x::bif (ZbC m x).1 then ZoO m n (ZbC m x).2 else[]).length≤n+1+1
  rw[List.length_cons]
  cases (ZbC m x).1 with
  |true=>have:=ZBD (m:=m) n (ZbC m x).2;rw[ctt];omega
  |false=>rw[cff];exact Nat.succ_le_succ (Nat.zero_le _)
theorem Zuz {m:Zr} {r:Zz}:(Zmp m r).length≤1025:=by
 unfold Zmp
 split
 ·simp
 ·split
  ·have:=Zq3 m r 4
   have e:ZpZ m r=(List.range 4).flatMap (ZiL m r):=rfl
   rw[e]
   omega
  ·unfold ZnA
   rw[List.length_map]
   have:=List.length_filter_le (fun vals=>!holdsB r vals) (Zru (smM m r) (ZnX (smM m r)))
   have:=ZBD (m:=smM m r) 1024 (ZnX (smM m r))
   unfold Zru at *
   omega
theorem ZzS {m:Zr} {r:Zz} (hm:Zx m=true) (hs:ZcU r) (hr:r∈m.2):Zbk m r=some (Zmp m r):=by
 have ho:=ZoN hm hr
 unfold Zmp
 by_cases k1:r.1=1
 ·rw[if_pos k1];exact ZAW hm ho k1
 ·rw[if_neg k1]
  by_cases k2:r.1=2
  ·rw[if_pos k2];exact ZzP hm ho k2
  ·rw[if_neg k2];exact ZzQ hm hs hr k1 k2
theorem ZAA {m:Zr} {r:Zz} (hm:Zx m=true) (hs:ZcU r) (hr:r∈m.2):Zmb m r=some (Zmp m r):=by
 have ho:=ZoN hm hr
 unfold Zmp Zmb
 by_cases k1:r.1=1
 ·rw[if_pos k1,ZI k1,ZBc hm ho k1,Zj]
 ·rw[if_neg k1,ZD k1]
  by_cases k2:r.1=2
  ·rw[if_pos k2,ZI k2,ZAw hm ho,Zj]
  ·rw[if_neg k2,ZD k2,ZAx hm hs hr,Zj]
def ZlZ (m:Zr) (n:Nat):Zu:=(List.range n).flatMap (Zli m)
def Zk4 (m:Zr) (n:Nat):Zu:=ZlZ m m.1.length++(m.2.take n).flatMap (Zmp m)
theorem Zrw (m:Zr) (n:Nat):ZlZ m (n+1)=ZlZ m n++Zli m n:=by
 unfold ZlZ
 rw[List.range_succ,List.flatMap_append,List.flatMap_cons,List.flatMap_nil,List.append_nil]
theorem ZpX (m:Zr):∀n,(ZlZ m n).length=2*n
 |0=>rfl
 |n+1=>by
  rw[Zrw,List.length_append,ZpX m n]
  show 2*n+2=_
  omega
theorem ZrA {m:Zr} {n:Nat} (h:n<m.2.length):Zk4 m (n+1)=Zk4 m n++Zmp m (m.2.getD n (0,[],[],0,[])):=by
 unfold Zk4
 rw[ZsV (0,[],[],0,[]) h,List.flatMap_append,List.flatMap_cons,List.flatMap_nil,List.append_nil,List.append_assoc]
theorem ZsM {m:Zr}:∀n,n≤m.2.length→(Zk4 m n).length≤2*m.1.length+1025*n
 |0,_=>by
  unfold Zk4
  rw[List.take_zero,List.flatMap_nil,List.append_nil,ZpX]
  omega
 |n+1,h=>by
  have:=ZsM (m:=m) n (by omega)
  have:=Zuz (m:=m) (r:=m.2.getD n (0,[],[],0,[]))
  rw[ZrA (by omega),List.length_append]
  omega
theorem Zwm (m:Zr):Zcl m=Zk4 m m.2.length:=by
 unfold Zcl Zk4 ZlZ
 rw[List.take_length]
theorem Ztr (m:Zr) (h:ZeH m):Zgr m=some (Zzx m):=by
 unfold Zgr Zzx
 rw[ZkQ m h,Zj]
 cases hm:Zx m with
 |false=>rw[cnf,Bool.false_and,cff]
 |true=>
  obtain⟨m1,m2,m3⟩:=Zd0 hm
  rw[cnt,Bool.true_and]
  have h2:ZgO (Zcl m)=some (bif decide ((Zcl m).length≤400)then(true,Zcl m)else(false,[])):=by
   unfold ZgO
   by_cases q:(Zcl m).length≤400
   ·rw[Zf (by omega),decide_eq_true q,ctt]
   ·rw[Zg (by omega),decide_eq_false q,cff]
  have h1:ZgN m (ZlZ m m.1.length)=some (bif decide ((Zcl m).length≤400)then(true,Zcl m)else(false,[])):=by
   unfold ZgN
   refine ZC (f:=ZgP m) (fun s:Int×Zu=>∃i:Nat,s.1=i∧i≤m.2.length∧s.2=Zk4 m i) (fun s=>m.2.length - s.1.toNat) (fun _=>_) ?_ _ ⟨0,rfl,Nat.zero_le _,by unfold Zk4;rw[List.take_zero,List.flatMap_nil,List.append_nil]⟩
   rintro⟨s,out⟩ ⟨i,hi1,hi,ho⟩
   dsimp only at hi1 ho
   subst hi1
   unfold ZgP
   dsimp only
   rcases Nat.lt_or_ge i m.2.length with q|q
   ·left
    have hr:=Zy (l:=m.2) (i:=i) (d:=(0,[],[],0,[])) q
    have hl:=ZsM (m:=m) i hi
    have hl2:=Zuz (m:=m) (r:=m.2.getD i (0,[],[],0,[]))
    rw[Zg (by omega),Zd ⟨by omega,by omega⟩,Int.toNat_natCast,ZzS hm (h.2.2 _ hr) hr,Zj,Zd (by rw[ho];simp only[Zp];omega),Zi (by omega) (by omega)]
    exact⟨_,rfl,⟨i+1,by simp,by omega,by dsimp only;rw[ho,ZrA q]⟩,by (try dsimp only)<;>omega,rfl⟩
   ·right
    have:i=m.2.length:=by omega
    rw[Zf (by omega),ho,this,←Zwm,h2]
    rfl
  refine ZC (f:=ZgQ m) (fun s:Int×Zu=>∃i:Nat,s.1=i∧i≤m.1.length∧s.2=ZlZ m i) (fun s=>m.1.length - s.1.toNat) (fun _=>_) ?_ _ ⟨0,rfl,Nat.zero_le _,rfl⟩
  rintro⟨s,out⟩ ⟨i,hi1,hi,ho⟩
  dsimp only at hi1 ho
  subst hi1
  unfold ZgQ
  dsimp only
  rcases Nat.lt_or_ge i m.1.length with q|q
  ·left
   obtain⟨v1,_,_,_,v5⟩:=ZsY hm q
   have hin:=Zwd hm q
   have hl:=ZpX m i
   rw[Zg (by omega),ZrN hm q,Zj,ZiM _ (by omega),Zj,Zq2 v1 (by omega),ZpT (by omega) (fun x hx=>by have:=hin x hx;omega),Zj,Zd (by rw[ho];simp only[Zp,List.length_cons,List.length_nil];omega),Zi (by omega) (by omega)]
   refine⟨_,rfl,⟨i+1,by simp,by omega,?_⟩,by (try dsimp only)<;>omega,rfl⟩
   dsimp only
   rw[ho,Zrw]
   unfold Zli
   generalize ZhV (Zc0 m i)=a
   generalize Zh3 (Zc0 m i)=b
   rfl
  ·right
   have:i=m.1.length:=by omega
   rw[Zf (by omega),ho,this,h1]
   rfl
theorem ZtF (m:Zr) (h:ZeH m):ZgC m=some (Zzx m):=by
 unfold ZgC Zzx
 rw[Zk7 m h,Zj]
 cases hm:Zx m with
 |false=>rw[cnf,Bool.false_and,cff]
 |true=>
  obtain⟨m1,m2,m3⟩:=Zd0 hm
  rw[cnt,Bool.true_and]
  have h2:ZgU (Zcl m)=some (bif decide ((Zcl m).length≤400)then(true,Zcl m)else(false,[])):=by
   unfold ZgU
   by_cases q:(Zcl m).length≤400
   ·rw[Zf (by omega),decide_eq_true q,ctt]
   ·rw[Zg (by omega),decide_eq_false q,cff]
  have h1:ZgT m (ZlZ m m.1.length)=some (bif decide ((Zcl m).length≤400)then(true,Zcl m)else(false,[])):=by
   unfold ZgT
   refine ZC (f:=ZgV m) (fun s:Int×Zu=>∃i:Nat,s.1=i∧i≤m.2.length∧s.2=Zk4 m i) (fun s=>m.2.length - s.1.toNat) (fun _=>_) ?_ _ ⟨0,rfl,Nat.zero_le _,by unfold Zk4;rw[List.take_zero,List.flatMap_nil,List.append_nil]⟩
   rintro⟨s,out⟩ ⟨i,hi1,hi,ho⟩
   dsimp only at hi1 ho
   subst hi1
   unfold ZgV
   dsimp only
   rcases Nat.lt_or_ge i m.2.length with q|q
   ·left
    have hr:=Zy (l:=m.2) (i:=i) (d:=(0,[],[],0,[])) q
    have hl:=ZsM (m:=m) i hi
    have hl2:=Zuz (m:=m) (r:=m.2.getD i (0,[],[],0,[]))
    rw[Zg (by omega),Zd ⟨by omega,by omega⟩,Int.toNat_natCast,ZAA hm (h.2.2 _ hr) hr,Zj,Zd (by rw[ho];simp only[Zp];omega),Zi (by omega) (by omega)]
    exact⟨_,rfl,⟨i+1,by simp,by omega,by dsimp only;rw[ho,ZrA q]⟩,by (try dsimp only)<;>omega,rfl⟩
   ·right
    have:i=m.2.length:=by omega
    rw[Zf (by omega),ho,this,←Zwm,h2]
    rfl
  refine ZC (f:=ZgW m) (fun s:Int×Zu=>∃i:Nat,s.1=i∧i≤m.1.length∧s.2=ZlZ m i) (fun s=>m.1.length - s.1.toNat) (fun _=>_) ?_ _ ⟨0,rfl,Nat.zero_le _,rfl⟩
  rintro⟨s,out⟩ ⟨i,hi1,hi,ho⟩
  dsimp only at hi1 ho
  subst hi1
  unfold ZgW
  dsimp only
  rcases Nat.lt_or_ge i m.1.length with q|q
  ·left
   have hl:=ZpX m i
   have hc:(Zli m i).length=2:=rfl
   rw[Zg (by omega),ZxT hm q,Zj,Zd (by rw[ho];simp only[Zp];omega),Zi (by omega) (by omega)]
   exact⟨_,rfl,⟨i+1,by simp,by omega,by dsimp only;rw[ho,Zrw]⟩,by (try dsimp only)<;>omega,rfl⟩
  ·right
   have:i=m.1.length:=by omega
   rw[Zf (by omega),ho,this,h1]
   rfl
theorem ZDU {m:Zr} {i k:Nat} (h:k<Zdk m i):(Zc0 m i).getD k 0=Zbh m i k:=by
 unfold Zc0
 rw[ZmL (d:=0) (h:=by rw[List.length_range];exact h),ZqC h]
theorem ZCz {m:Zr} {v:List Bool} {x:List Int} (hm:Zx m=true) (hd:Dec m v x) {i k:Nat} (hi:i<m.1.length) (hk:k<Zdk m i):v.getD (Zbh m i k - 1).toNat false=decide (x.getD i 0=k):=by
 have h:=hd.2 i hi k ((ZeG hm hi).1 hk)
 unfold trV at h
 rw[←h]
 congr 1
 unfold Zbh
 omega
theorem ZCB {m:Zr} {v:List Bool} {x:List Int} (hm:Zx m=true) (hd:Dec m v x) {i:Nat} (hi:i<m.1.length):x.length=m.1.length∧0≤x.getD i 0∧x.getD i 0<Zdk m i:=by
 obtain⟨x1,x2⟩:=ZcT hd.1
 have:=x2 i (by omega)
 have:=Zqf hm hi
 exact⟨x1,by omega,by omega⟩
theorem Zxh {m:Zr} {v:List Bool} {x:List Int} (h:ZeH m) (hm:Zx m=true) (hv:v.length=12) (hd:Dec m v x):Zeo m v=some (true,x):=by
 obtain⟨m1,m2,m3⟩:=Zd0 hm
 obtain⟨x1,x2⟩:=ZcT hd.1
 unfold Zeo
 rw[ZkQ m h,Zj,hm,cnt,Zbi (by omega)]
 refine ZC (f:=ZfY m v) (fun s:Int×List Int=>∃i:Nat,s.1=i∧i≤m.1.length∧s.2=x.take i) (fun s=>m.1.length - s.1.toNat) (fun _=>(true,x)) ?_ _ ⟨0,rfl,Nat.zero_le _,rfl⟩
 rintro⟨s,out⟩ ⟨i,hi1,hi,ho⟩
 dsimp only at hi1 ho
 subst hi1
 unfold ZfY
 dsimp only
 rcases Nat.lt_or_ge i m.1.length with q|q
 ·left
  obtain⟨_,d1,d2⟩:=ZCB hm hd q
  have h4:=Zk6 hm q
  have hvl:=ZDk m i
  have hol:out.length=i:=by rw[ho,List.length_take];omega
  have hl:loop (ZfZ v i (Zc0 m i)) ((0:Int),(0:Int),out)=some (Sum.inl ((i:Int)+1,out++[x.getD i 0]):(Int×List Int)⊕(Bool×List Int)):=by
   refine ZC (fun s:Int×Int×List Int=>∃k:Nat,s.2.1=k∧k≤Zdk m i∧s.1=(if x.getD i 0<k then 1 else 0)∧s.2.2=(if x.getD i 0<k then out++[x.getD i 0]else out)) (fun s=>Zdk m i - s.2.1.toNat) (fun _=>_) ?_ _ ⟨0,rfl,Nat.zero_le _,by dsimp only;rw[if_neg (by omega)],by dsimp only;rw[if_neg (by omega)]⟩
   rintro⟨c,s,o⟩ ⟨k,hk1,hk,hc,ho2⟩
   dsimp only at hk1 hc ho2
   subst hk1
   have hcb:0≤c∧c≤1:=by rw[hc];split<;>omega
   have hob:o.length≤6:=by
    rw[ho2]
    split
    ·rw[List.length_append,List.length_singleton];omega
    ·omega
   unfold ZfZ
   dsimp only
   rcases Nat.lt_or_ge k (Zdk m i)with q2|q2
   ·left
    have rm:=ZcN hm q ((ZeG hm q).1 q2)
    have hda:=ZCz hm hd q q2
    rw[Zg (by omega),Zd ⟨by omega,by omega⟩,Int.toNat_natCast,ZDU q2,Zi (by omega) (by omega),Zd ⟨by omega,by omega⟩,hda]
    by_cases e:x.getD i 0=k
    ·rw[decide_eq_true e,ctt,Zd (by simp only[Zp,List.length_cons,List.length_nil];omega),Zi (by omega) (by omega),Zi (by omega) (by omega)]
     refine⟨_,rfl,⟨k+1,by simp,by omega,?_,?_⟩,by (try dsimp only)<;>omega,rfl⟩
     ·dsimp only
      rw[hc,if_neg (by omega),if_pos (by omega)]
      rfl
     ·dsimp only
      rw[ho2,if_neg (by omega),if_pos (by omega),e]
    ·rw[decide_eq_false e,cff,Zi (by omega) (by omega)]
     refine⟨_,rfl,⟨k+1,by simp,by omega,?_,?_⟩,by (try dsimp only)<;>omega,rfl⟩
     ·dsimp only
      rw[hc]
      by_cases e2:x.getD i 0<k
      ·rw[if_pos e2,if_pos (by omega)]
      ·rw[if_neg e2,if_neg (by omega)]
     ·dsimp only
      rw[ho2]
      by_cases e2:x.getD i 0<k
      ·rw[if_pos e2,if_pos (by omega)]
      ·rw[if_neg e2,if_neg (by omega)]
   ·right
    rw[if_pos (by omega)]at hc ho2
    rw[Zf (by omega),hc,ho2]
    unfold ZiP
    dsimp only
    rw[Zbi (by omega),Zi (by omega) (by omega)]
    rfl
  rw[Zg (by omega),ZrN hm q,Zj,hl]
  exact⟨_,rfl,⟨i+1,by simp,by omega,by dsimp only;rw[ho,ZsV 0 (by omega)]⟩,by (try dsimp only)<;>omega,rfl⟩
 ·right
  have:i=m.1.length:=by omega
  rw[Zf (by omega),ho,this,←x1,List.take_length]
theorem ZxN {m:Zr} {v:List Bool} {x:List Int} (h:ZeH m) (hm:Zx m=true) (hv:v.length=12) (hd:Dec m v x):ZfN m v=some (true,x):=by
 obtain⟨m1,m2,m3⟩:=Zd0 hm
 obtain⟨x1,x2⟩:=ZcT hd.1
 unfold ZfN
 rw[Zk7 m h,Zj,hm,cnt,Zbi (by omega)]
 refine ZC (f:=Zf5 m v) (fun s:Int×List Int=>∃i:Nat,s.1=i∧i≤m.1.length∧s.2=x.take i) (fun s=>m.1.length - s.1.toNat) (fun _=>(true,x)) ?_ _ ⟨0,rfl,Nat.zero_le _,rfl⟩
 rintro⟨s,out⟩ ⟨i,hi1,hi,ho⟩
 dsimp only at hi1 ho
 subst hi1
 unfold Zf5
 dsimp only
 rcases Nat.lt_or_ge i m.1.length with q|q
 ·left
  obtain⟨_,d1,d2⟩:=ZCB hm hd q
  have h4:=Zk6 hm q
  have hz:=Zqf hm q
  have hol:out.length=i:=by rw[ho,List.length_take];omega
  have hl:loop (Zf6 m v i out) ((-1:Int),(0:Int),(0:Int))=some (Sum.inl ((i:Int)+1,out++[x.getD i 0]):(Int×List Int)⊕(Bool×List Int)):=by
   refine ZC (fun s:Int×Int×Int=>∃k:Nat,s.2.2=k∧k≤Zdk m i∧s.2.1=(if x.getD i 0<k then 1 else 0)∧s.1=(if x.getD i 0<k then x.getD i 0 else -1)) (fun s=>Zdk m i - s.2.2.toNat) (fun _=>_) ?_ _ ⟨0,rfl,Nat.zero_le _,by dsimp only;rw[if_neg (by omega)],by dsimp only;rw[if_neg (by omega)]⟩
   rintro⟨v1,c,s⟩ ⟨k,hk1,hk,hc,hv1⟩
   dsimp only at hk1 hc hv1
   subst hk1
   have hcb:0≤c∧c≤1:=by rw[hc];split<;>omega
   unfold Zf6
   dsimp only
   rw[Zd ⟨by omega,by omega⟩,Int.toNat_natCast]
   rcases Nat.lt_or_ge k (Zdk m i)with q2|q2
   ·left
    have rm:=ZcN hm q ((ZeG hm q).1 q2)
    have hda:=ZCz hm hd q q2
    have eb:=Zhi hm q (k:=k) (by omega)
    rw[show (1:Int)+k+ZE m i=Zbh m i k from rfl]at eb
    rw[Zg (by omega),eb,Zj,Zi (by omega) (by omega),Zd ⟨by omega,by omega⟩,hda]
    by_cases e:x.getD i 0=k
    ·rw[decide_eq_true e,ctt,Zi (by omega) (by omega),Zi (by omega) (by omega)]
     refine⟨_,rfl,⟨k+1,by simp,by omega,?_,?_⟩,by (try dsimp only)<;>omega,rfl⟩
     ·dsimp only
      rw[hc,if_neg (by omega),if_pos (by omega)]
      rfl
     ·dsimp only
      rw[if_pos (by omega),e]
    ·rw[decide_eq_false e,cff,Zi (by omega) (by omega)]
     refine⟨_,rfl,⟨k+1,by simp,by omega,?_,?_⟩,by (try dsimp only)<;>omega,rfl⟩
     ·dsimp only
      rw[hc]
      by_cases e2:x.getD i 0<k
      ·rw[if_pos e2,if_pos (by omega)]
      ·rw[if_neg e2,if_neg (by omega)]
     ·dsimp only
      rw[hv1]
      by_cases e2:x.getD i 0<k
      ·rw[if_pos e2,if_pos (by omega)]
      ·rw[if_neg e2,if_neg (by omega)]
   ·right
    rw[if_pos (by omega)]at hc hv1
    rw[Zf (by omega),hc,hv1,Zbi (by omega),Zd (by simp only[Zp,List.length_cons,List.length_nil];omega),Zi (by omega) (by omega)]
  rw[Zg (by omega),hl]
  exact⟨_,rfl,⟨i+1,by simp,by omega,by dsimp only;rw[ho,ZsV 0 (by omega)]⟩,by (try dsimp only)<;>omega,rfl⟩
 ·right
  have:i=m.1.length:=by omega
  rw[Zf (by omega),ho,this,←x1,List.take_length]
end Go.AE.Y
