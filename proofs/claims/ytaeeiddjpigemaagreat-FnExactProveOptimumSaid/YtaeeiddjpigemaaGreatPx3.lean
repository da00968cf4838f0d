/-
  Plain laws of the models, in one text. No conditions.
-/
import Derived.Test.YtaeeiddjpigemaaGreatPx2
import Derived.Test.YtaeeiddjpigemaaGreatPx1
namespace Go.AE.Y
open Go Go.AE
set_option maxHeartbeats 400000
theorem Zzt {l:List Int} (h:Zch l=true):ZbG (ZhV l)=true∧(ZhV l).1.length≤12:=by
 refine⟨ZtU (fun x hx=>(Zf4 h).1 x ((Zm3 h x).1 hx)) (Zrh h),?_⟩
 show (Zbo (ZbO l)).length≤12
 unfold Zbo
 rw[List.length_map]
 exact Zm2 l
theorem Zzu {vs:List Int} (h1:∀x∈vs,1≤x∧x≤12) (h2:vs.Pairwise (· < ·)) (h3:1≤vs.length) (h4:vs.length≤12):ZbG (Zh3 vs)=true∧(Zh3 vs).1.length≤12:=by
 have hm:∀t∈(Zh3 vs).1,∃x∈vs,t=(1,0 - x):=fun t ht=>by
  have ht:t∈Zbo (Zbj vs):=ht
  rw[←ZwL]at ht
  obtain⟨x,hx,e⟩:=List.mem_map.1 ht
  exact⟨x,hx,e.symm⟩
 refine⟨ZvB.2 ⟨fun t ht=>?_,?_,?_,?_⟩,?_⟩
 ·obtain⟨x,hx,rfl⟩:=hm t ht
  have:=h1 x hx
  exact⟨ZB.2 (by (try dsimp only)<;>omega),by (try dsimp only)<;>omega,by (try dsimp only)<;>omega⟩
 ·show (Zbo (Zbj vs)).Pairwise _
  rw[←ZwL,List.pairwise_map]
  refine h2.imp_of_mem (fun {a b} ha hb hab=>?_)
  have:=h1 a ha
  have:=h1 b hb
  unfold vof
  dsimp only
  omega
 ·show 0≤(vs.length:Int) - 1
  omega
 ·show (vs.length:Int) - 1≤20000
  omega
 ·show (Zbo (Zbj vs)).length≤12
  rw[←ZwL,List.length_map]
  exact h4
theorem ZDj (m:Zr) (i:Nat):(Zc0 m i).Pairwise (· < ·):=by
 unfold Zc0
 rw[List.pairwise_map]
 refine List.pairwise_lt_range.imp (fun h=>?_)
 unfold Zbh
 omega
theorem ZDP {l:List Int} (h:l.Nodup):(Zlu l).Pairwise (· < ·):=by
 have h1:=Zyo l
 have h2:(Zlu l).Nodup:=(Zlv l).nodup_iff.2 h
 exact(h1.and h2).imp (fun h=>by have:=h.1;have:=h.2;omega)
theorem ZEc {m:Zr} (hm:Zx m=true):∀c∈Zcl m,ZbG c=true∧c.1.length≤12:=fun c hc=>by
 unfold Zcl at hc
 rcases List.mem_append.1 hc with q|q
 ·obtain⟨i,hi,hc⟩:=List.mem_flatMap.1 q
  have hi:=List.mem_range.1 hi
  obtain⟨v1,_,_,v4,v5⟩:=ZsY hm hi
  unfold Zli at hc
  rcases List.mem_cons.1 hc with e|e
  ·rw[e];exact Zzt v1
  ·rw[List.mem_singleton.1 e]
   exact Zzu (Zwd hm hi) (ZDj m i) v4 (by omega)
 ·obtain⟨r,hr,hc⟩:=List.mem_flatMap.1 q
  have ho:=ZoN hm hr
  unfold Zmp at hc
  by_cases k1:r.1=1
  ·rw[if_pos k1,List.mem_singleton]at hc
   rw[hc]
   obtain⟨e,h⟩:=Zz7 (ZzY hm ho k1)
   refine⟨h,?_⟩
   unfold ZpK
   rw[e]
   exact ZoM _ 12
  ·rw[if_neg k1]at hc
   by_cases k2:r.1=2
   ·rw[if_pos k2]at hc
    obtain⟨k,hk,hc⟩:=List.mem_flatMap.1 hc
    have hin:=Zsp hm ho k
    have hnd:=(ZmK hm ho (k:=k)).1
    by_cases q2:1<(ZdG m r k).length
    ·rw[if_pos q2,List.mem_singleton]at hc
     rw[hc]
     have hl:=(Zlv (ZdG m r k)).length_eq
     exact Zzu (fun x hx=>hin.1 x ((Zlv _).mem_iff.1 hx)) (ZDP hnd) (by omega) (by omega)
    ·rw[if_neg q2]at hc
     exact absurd hc List.not_mem_nil
   ·rw[if_neg k2]at hc
    obtain⟨vals,hv,rfl⟩:=List.mem_map.1 hc
    have hcell:=(ZxD (ZwR hm ho)).1 (List.mem_filter.1 hv).1
    exact Zzt (ZsD hm ho hcell).1
theorem Zvs {m:Zr} {c x:List Int} {v:List Bool} (hm:Zx m=true) (hd:Dec m v x):∀n,n≤m.1.length→ZdK (ZcQ m c m.1.length) v (ZE m n).toNat=0 - Zcn c x n
 |0,_=>by
  show ZdK _ _ (Zlc []).toNat=0 - 0
  rfl
 |n+1,h=>by
  obtain⟨b0,s0,s3,b1,b12⟩:=Ze6 hm (show n<m.1.length by omega)
  obtain⟨x1,x2⟩:=ZcT hd.1
  have hxn:=x2 n (by omega)
  have ih:=Zvs (c:=c) hm hd n (by omega)
  have hb:=Zw5 (net:=ZcQ m c m.1.length) (v:=v) (b:=(ZE m n).toNat) (c:=c.getD n 0) (x:=x.getD n 0) (s:=m.1.getD n 0) hxn
   (fun k hk=>by
    have:=Zz4 (c:=c) hm m.1.length (Nat.le_refl _) n (by omega) k hk
    rwa [show 1+k+(ZE m n).toNat=(ZE m n).toNat+k+1 by omega]at this)
   (fun k hk=>by
    have:=hd.2 n (by omega) k hk
    unfold trV at this
    rwa [show ((k:Int)+ZE m n).toNat=(ZE m n).toNat+k by omega]at this)
   (m.1.getD n 0+1).toNat (by omega)
  rw[show (ZE m (n+1)).toNat=(ZE m n).toNat+(m.1.getD n 0+1).toNat by omega,hb,ih,if_pos (by omega),ZhN]
  rw[Int.sub_mul]
  omega
theorem ZB2 {m:Zr} {c x:List Int} {v:List Bool} {most:Int} (hm:Zx m=true) (hd:Dec m v x):Zbn v (Zci (ZcQ m c m.1.length) 12,max 0 (Z5 (ZcQ m c m.1.length) (0 - most) 12))=decide (Zcn c x x.length≤most):=by
 obtain⟨x1,x2⟩:=ZcT hd.1
 have hb:=ZiE hm m.1.length (Nat.le_refl _)
 obtain⟨p1,p2⟩:=ZxV (net:=ZcQ m c m.1.length) (v:=v) (b:=0 - most) 12
 have h1:=Zvs (c:=c) hm hd m.1.length (Nat.le_refl _)
 have h2:=Zyu (net:=ZcQ m c m.1.length) (v:=v) (b:=(ZE m m.1.length).toNat) (fun j hj=>Zpb hm m.1.length (Nat.le_refl _) j (Or.inr hj)) (12 - (ZE m m.1.length).toNat)
 rw[show (ZE m m.1.length).toNat+(12 - (ZE m m.1.length).toNat)=12 by omega,h1,←x1]at h2
 unfold Zbn
 dsimp only
 rw[←x1]at p1 p2 ⊢
 generalize ZfC v (Zci (ZcQ m c x.length) 12)=S at p1 p2 ⊢
 generalize ZdK (ZcQ m c x.length) v 12=T at p1 h2
 generalize Z5 (ZcQ m c x.length) (0 - most) 12=N at p1 ⊢
 by_cases q:Zcn c x x.length≤most
 ·rw[decide_eq_true q]
  exact decide_eq_true (by omega)
 ·rw[decide_eq_false q]
  exact decide_eq_false (by omega)
def obC (m:Zr) (c:List Int) (most:Int):Zvw:=(Zci (ZcQ m c m.1.length) 12,max 0 (Z5 (ZcQ m c m.1.length) (0 - most) 12))
theorem Zz9 {m:Zr} {c:List Int} {most:Int} (hm:Zx m=true) (hc:ZlV m c=true) (hb : -1000≤most∧most≤1000):Zp8 m c most=(true,(obC m c most).2,(obC m c most).1)∧ZbG (obC m c most)=true∧(obC m c most).1.length≤12:=by
 obtain⟨c1,c2⟩:=ZwJ hc
 have hn:∀j,-1000≤(ZcQ m c m.1.length).getD j 0∧(ZcQ m c m.1.length).getD j 0≤1000:=fun j=>by
  have:=ZsG hm c2 m.1.length (Nat.le_refl _) j
  omega
 obtain⟨p1,p2⟩:=ZvZ (net:=ZcQ m c m.1.length) 12 (Nat.le_refl _) hn
 have hneg:=ZoX (net:=ZcQ m c m.1.length) (b:=0 - most) (K:=1000) (by omega) (fun j=>by have:=hn j;omega) 12
 have hcon:ZbG (Zci (ZcQ m c m.1.length) 12,max 0 (Z5 (ZcQ m c m.1.length) (0 - most) 12))=true:=ZvB.2 ⟨fun t ht=>(p1 t ht).1,p2,by (try dsimp only)<;>omega,by (try dsimp only)<;>omega⟩
 refine⟨?_,hcon,ZoM _ 12⟩
 unfold Zp8
 rw[hm,hc,decide_eq_true hb.1,decide_eq_true hb.2,Bool.and_self,Bool.and_self,ctt]
 unfold Zcz
 rw[hcon,ctt]
 rfl
theorem ZEr {m:Zr} {c x:List Int} {v:List Bool} {most:Int} (hm:Zx m=true) (hd:Dec m v x):Zbn v (obC m c most)=decide (Zcn c x x.length≤most):=ZB2 hm hd
theorem ZuT {m:Zr} {c x:List Int} (hm:Zx m=true) (hc:ZlV m c=true) (hx:ZX m x=true):(∀i,i<x.length → -27≤c.getD i 0*x.getD i 0∧c.getD i 0*x.getD i 0≤27)∧c.length=x.length∧x.length≤5∧1≤x.length∧∀n:Nat,n≤x.length → -27*(n:Int)≤Zcn c x n∧Zcn c x n≤27*n:=by
 obtain⟨c1,c2⟩:=ZwJ hc
 obtain⟨x1,x2⟩:=ZcT hx
 obtain⟨m1,m2,_⟩:=Zd0 hm
 have hb:∀i,i<x.length → -27≤c.getD i 0*x.getD i 0∧c.getD i 0*x.getD i 0≤27:=fun i hi=>by
  have h1:=x2 i hi
  have h2:=Zk6 hm (i:=i) (by omega)
  have h3:=Zqf hm (i:=i) (by omega)
  exact ZwI (c2 i) ⟨h1.1,by omega⟩
 refine⟨hb,by omega,by omega,by omega,fun n=>?_⟩
 induction n with
 |zero=>intro _;exact⟨Int.le_refl _,Int.le_refl _⟩
 |succ n ih=>
  intro hn
  have:=ih (by omega)
  have:=hb n (by omega)
  rw[ZhN]
  omega
end Go.AE.Y
namespace Go.AE.Y
open Go Go.AE
set_option maxHeartbeats 400000
def conv (r:VR):SR:=(bif r.1 then 1 else bif r.2.2.1 then 0 else 2,r.2.1,r.2.2.2.1,r.2.2.2.2.1,r.2.2.2.2.2)
def ZsJ (r:VR):Prop:=r.1=false→r.2.2.2.1=[]
theorem ZEg {D:List Int} {L:Zu} {S:List ZJ} {fuel:Int} {rec1:List Int→Int→Bool→Zu→List ZJ→Option VR} {rec2:Int→List Int→Zu→List ZJ→Option SR}
  (hrec:∀(l:Int) (L':Zu) (S':List ZJ) (f':Int),ZdF (D++[l])→Zdd L'→L'.length≤400+S'.length→S'.length≤1000→Zgo S'→(0≤f'∧f'≤2000)→∃r,rec1 (D++[l]) f' false L' S'=some r∧Zj7 (D++[l]) L' S' f' r∧rec2 f' (D++[l]) L' S'=some (conv r)∧(Zgo r.2.2.2.2.2∧ZsJ r))
  (hD:ZdF D) (hL:Zdd L) (hl:L.length≤400+S.length) (hS:S.length<1000) (hw:Zgo S) (hf:1≤fuel∧fuel≤2000) {r:VR} {q:SR}
  (e:ZV D fuel false L S rec1 (Zew D D.length)=some r) (e2:ZbT fuel D L S rec2 (Zew D D.length)=some q):q=conv r∧ZsJ r:=by
 have hd:=Zhg hD
 obtain⟨p1,p2,p3,p4,p5⟩:=Znm hD D.length (Nat.le_refl _)
 unfold ZV at e
 unfold ZbT at e2
 obtain⟨⟨i,out⟩,e1,⟨t1,t2,t3⟩,hc⟩:=ZpV hL (by omega) p1
 dsimp only at t1 t2 t3 hc
 rw[e1,Zj]at e
 rw[ZxG hL (by omega) p1,e1,Zj]at e2
 dsimp only at e e2
 rcases hc with⟨rfl,hk⟩|⟨h0,hk⟩
 ·rw[Zg (by omega)]at e
  rw[Zf (by omega)]at e2
  obtain⟨r4,e4,h⟩:=Zqo t1
  obtain⟨r5,e5,_⟩:=Zr1 t1
  have e6:=ZCG e4 e5
  rw[e4,Zj]at e
  rw[e5,Zj]at e2
  rcases h with⟨rfl,ht⟩|⟨k,hk12,hk0,rfl⟩
  ·dsimp only at e e6
   subst e6
   rw[ctt]at e
   rw[ZI rfl]at e2
   have h12:=t1.1
   have e7:loop (Zck fuel L S (-1,out)) ((0:Int),([]:List Bool))=some (1,fuel - 1,out.map (fun n=>decide (0<n)),L,S):=by
    refine(ZbY (f:=Zck fuel L S (-1,out)) out 0 (fun n=>decide (0<n)) [] (fun o=>(1,fuel - 1,o,L,S)) (fun i o hi ho=>?_) ?_)
    ·unfold Zck
     dsimp only
     rw[Zg (by omega),Zd ⟨by omega,by omega⟩,Int.toNat_natCast,Zd (by simp only[Zp,List.length_cons,List.length_nil];simp at ho;omega),Zi (by omega) (by omega)]
    ·unfold Zck Zi8
     dsimp only
     rw[Zf (by omega),List.nil_append]
     rfl
   rw[e7]at e2
   have a1:=Option.some.inj e
   have a2:=Option.some.inj e2
   rw[←a1,←a2]
   exact⟨rfl,fun h=>by cases h⟩
  ·dsimp only at e e6
   subst e6
   rw[cff,Zi (by omega) (by omega)]at e
   rw[ZD (by omega),Zi (by omega) (by omega)]at e2
   have hvar:∀l:Int,vof l=(k:Int)+1→∀i,i<D.length→vof (D.getD i 0)≠vof l:=fun l hl i hi=>by
    rw[hl]
    exact p3 k (t3 k hk0) i hi
   refine ZvS (fun (s:Int×Int×Bool×Zu×List ZJ) (t:Int×Int×Zu×List ZJ)=>t=(s.1,s.2.1,s.2.2.2.1,s.2.2.2.2)∧∃n:Nat,s.1=n∧n≤2∧(0≤s.2.1∧s.2.1≤fuel)∧s.2.2.1=false∧Ext L S s.2.2.2.1 s.2.2.2.2∧Zgo s.2.2.2.2) (fun r q=>q=conv r∧ZsJ r) ?_ ⟨rfl,0,rfl,by omega,⟨by (try dsimp only)<;>omega,by (try dsimp only)<;>omega⟩,rfl,Ext.refl hL (by omega),hw⟩ e e2
   rintro⟨s,f,m,L',S'⟩ t ⟨ht,n,hs,hn,hf',hm,hx,hw'⟩ a b ha hb
   dsimp only at ht hs hf' hm hx hw'
   subst ht
   subst hs
   subst hm
   unfold ZbX at ha
   unfold ZdA at hb
   dsimp only at ha hb
   rcases Nat.lt_or_ge n 2 with h1|h1
   ·have hlit:∃l,[((k:Int)+1),(0 - ((k:Int)+1))].getD n 0=l∧vof l=(k:Int)+1∧Z8 l=true:=by
     have:n=0∨n=1:=by omega
     rcases this with rfl|rfl
     ·exact⟨(k:Int)+1,rfl,by unfold vof;omega,ZB.2 ⟨by omega,by omega,by omega⟩⟩
     ·exact⟨0 - ((k:Int)+1),rfl,by unfold vof;omega,ZB.2 ⟨by omega,by omega,by omega⟩⟩
    obtain⟨l,el,hv,hli⟩:=hlit
    have hlen:=hx.len
    have htop:=hx.top
    obtain⟨⟨ok,f8,mu,vals,L8,S8⟩,e8,⟨f1,x1,sa1,no1⟩,e9,w8,n8⟩:=hrec l L' S' f (ZvC hD hli (hvar l hv)) hx.good (by omega) htop hw' ⟨by omega,by omega⟩
    rw[Zg (by simp;omega),Zd ⟨by omega,by simp;omega⟩,Int.toNat_natCast,el,ZqY (by omega),Zj,Zd (by simp[Zp];omega),e8,Zj]at ha
    rw[Zg (by simp;omega),Zd ⟨by omega,by simp;omega⟩,Zd (by simp[Zp];omega),Zd (by simp[Zp];omega),List.nil_append,Int.toNat_natCast,el,e9,Zj]at hb
    unfold Zf9 conv at hb
    dsimp only at ha hb f1 x1 w8
    cases ok with
    |true=>
     rw[ctt]at ha hb
     rw[ZdV (by decide)]at hb
     exact Or.inr ⟨_,_,(Option.some.inj ha).symm,(Option.some.inj hb).symm,rfl,fun h=>by cases h⟩
    |false=>
     rw[cff]at ha hb
     cases mu with
     |true=>
      rw[ctt]at ha hb
      rw[ZdV (by decide)]at hb
      exact Or.inr ⟨_,_,(Option.some.inj ha).symm,(Option.some.inj hb).symm,rfl,fun _=>n8 rfl⟩
     |false=>
      rw[cff,Zi (by omega) (by omega)]at ha
      rw[cff,Zbi rfl,Zi (by omega) (by omega)]at hb
      exact Or.inl ⟨_,_,(Option.some.inj ha).symm,(Option.some.inj hb).symm,rfl,n+1,by simp,by omega,⟨by (try dsimp only)<;>omega,by (try dsimp only)<;>omega⟩,rfl,hx.trans x1,w8⟩
   ·have hn2:n=2:=by omega
    have hlen:=hx.len
    rw[Zf (by simp;omega)]at ha hb
    unfold Zdt at ha
    unfold Zf8 at hb
    dsimp only at ha hb
    by_cases q3:1000≤(S'.length:Int)
    ·rw[Zg q3]at ha hb
     exact Or.inr ⟨_,_,(Option.some.inj ha).symm,(Option.some.inj hb).symm,rfl,fun _=>rfl⟩
    ·rw[Zf q3]at ha hb
     unfold Zbq at ha
     dsimp only at ha
     rw[ZBo hD (by omega) (by omega),Zj]at ha
     rw[ZzW hD (by omega) (by omega),Zj]at hb
     exact Or.inr ⟨_,_,(Option.some.inj ha).symm,(Option.some.inj hb).symm,rfl,fun _=>rfl⟩
 ·rw[Zf (by omega)]at e
  rw[Zg h0]at e2
  unfold Zbq at e
  dsimp only at e
  rw[ZBo hD (by omega) (by omega),Zj]at e
  rw[ZzW hD (by omega) (by omega),Zj]at e2
  have a1:=Option.some.inj e
  have a2:=Option.some.inj e2
  rw[←a1,←a2]
  exact⟨rfl,fun _=>rfl⟩
theorem ZDM {D:List Int} {L:Zu} {S:List ZJ} {fuel:Int} {rec1:List Int→Int→Bool→Zu→List ZJ→Option VR} {rec2:Int→List Int→Zu→List ZJ→Option SR}
  (hrec:∀(l:Int) (L':Zu) (S':List ZJ) (f':Int),ZdF (D++[l])→Zdd L'→L'.length≤400+S'.length→S'.length≤1000→Zgo S'→(0≤f'∧f'≤2000)→∃r,rec1 (D++[l]) f' false L' S'=some r∧Zj7 (D++[l]) L' S' f' r∧rec2 f' (D++[l]) L' S'=some (conv r)∧(Zgo r.2.2.2.2.2∧ZsJ r))
  (hD:ZdF D) (hL:Zdd L) (hl:L.length≤400+S.length) (hS:S.length≤1000) (hw:Zgo S) (hf:0≤fuel∧fuel≤2000) {r:VR} {q:SR}
  (e:ZH rec1 D fuel false L S=some r) (e2:Z7 rec2 fuel D L S=some q):q=conv r∧ZsJ r:=by
 have hd:=Zhg hD
 unfold ZH at e
 unfold Z7 at e2
 by_cases q1:fuel=0
 ·rw[ZI q1]at e e2
  have a1:=Option.some.inj e
  have a2:=Option.some.inj e2
  rw[←a1,←a2]
  exact⟨rfl,fun _=>rfl⟩
 rw[ZD q1]at e e2
 by_cases q2:1000≤(S.length:Int)
 ·rw[Zg q2]at e e2
  have a1:=Option.some.inj e
  have a2:=Option.some.inj e2
  rw[←a1,←a2]
  exact⟨rfl,fun _=>rfl⟩
 rw[Zf q2,Zi (by omega) (by omega),Zd ⟨by omega,by simp only[Zp];omega,rfl⟩]at e e2
 refine ZvS (fun (s:Int×List Int) (t:Int×List Int)=>s=t∧∃n:Nat,s.1=n∧n≤D.length∧s.2=Zew D n) (fun r q=>q=conv r∧ZsJ r) ?_ ⟨rfl,0,rfl,Nat.zero_le _,rfl⟩ e e2
 rintro⟨s,o⟩ t ⟨ht,n,hs,hn,ho⟩ a b ha hb
 dsimp only at hs ho
 subst ht
 subst hs
 subst ho
 unfold Zbr at ha
 unfold ZcZ at hb
 dsimp only at ha hb
 rcases Nat.lt_or_ge n D.length with h1|h1
 ·have hli:=hD.1 _ (Zy (l:=D) (i:=n) (d:=0) h1)
  have hlit:=ZB.1 hli
  have h12:=(Znm hD n hn).1.1
  have hvv:vof (D.getD n 0)=if 0<D.getD n 0 then D.getD n 0 else 0 - D.getD n 0:=by unfold vof;split<;>omega
  rw[Zg (by omega),Zd ⟨by omega,by omega⟩,Int.toNat_natCast,ZmV hli (Znm hD n hn).1,Zj,Zi (by omega) (by omega)]at hb
  have ea:a = .inl ((n:Int)+1,Zew D (n+1)):=by
   rw[Zg (by omega),Zd ⟨by omega,by omega⟩,Int.toNat_natCast,Zfb (by omega),Zj]at ha
   have e:Zew D (n+1)=ZdM (D.getD n 0) (Zew D n):=rfl
   rw[e]
   unfold ZdM
   by_cases q:0<D.getD n 0
   ·rw[if_pos q]at hvv
    rw[hvv,Zi (by omega) (by omega),Zd ⟨by omega,by omega⟩,Zf (by omega),Zi (by omega) (by omega)]at ha
    rw[if_pos q]
    exact(Option.some.inj ha).symm
   ·rw[if_neg q]at hvv
    rw[hvv,Zi (by omega) (by omega),Zd ⟨by omega,by omega⟩,Zg (by omega),Zi (by omega) (by omega),Zi (by omega) (by omega),Zd ⟨by omega,by rw[List.length_set];omega⟩,Zi (by omega) (by omega),List.set_set]at ha
    rw[if_neg q]
    exact(Option.some.inj ha).symm
  exact Or.inl ⟨_,_,ea,(Option.some.inj hb).symm,rfl,n+1,by simp,by omega,rfl⟩
 ·have:n=D.length:=by omega
  subst this
  rw[Zf (by omega)]at ha hb
  cases hj:ZV D fuel false L S rec1 (Zew D D.length)with
  |none=>rw[hj]at ha;cases ha
  |some r=>
   cases hk:ZbT fuel D L S rec2 (Zew D D.length)with
   |none=>rw[hk]at hb;cases hb
   |some q=>
    rw[hj]at ha
    rw[hk]at hb
    exact Or.inr ⟨r,q,(Option.some.inj ha).symm,(Option.some.inj hb).symm,ZEg hrec hD hL hl (by omega) hw ⟨by omega,by omega⟩ hj hk⟩
theorem Zx6 {D:List Int} {L:Zu} {S:List ZJ} {fuel:Int} {rec1:List Int→Int→Bool→Zu→List ZJ→Option VR} {rec2:Int→List Int→Zu→List ZJ→Option SR}
  (hrec:∀(l:Int) (L':Zu) (S':List ZJ) (f':Int),ZdF (D++[l])→Zdd L'→L'.length≤400+S'.length→S'.length≤1000→Zgo S'→(0≤f'∧f'≤2000)→∃r,rec1 (D++[l]) f' false L' S'=some r∧Zj7 (D++[l]) L' S' f' r∧rec2 f' (D++[l]) L' S'=some (conv r)∧(Zgo r.2.2.2.2.2∧ZsJ r))
  (hrec1:∀(l:Int) (L':Zu) (S':List ZJ) (f':Int),ZdF (D++[l])→Zdd L'→L'.length≤400+S'.length→S'.length≤1000→(0≤f'∧f'≤2000)→∃r,rec1 (D++[l]) f' false L' S'=some r∧Zj7 (D++[l]) L' S' f' r)
  (hrec2:∀(l:Int) (L':Zu) (S':List ZJ) (f':Int),ZdF (D++[l])→Zdd L'→L'.length≤400+S'.length→S'.length≤1000→Zgo S'→(0≤f'∧f'≤2000)→∃r,rec2 f' (D++[l]) L' S'=some r∧SeaOk L' S' f' r.2.2.2.1 r.2.2.2.2 r.2.1)
  (hD:ZdF D) (hL:Zdd L) (hl:L.length≤400+S.length) (hS:S.length≤1000) (hw:Zgo S) (hf:0≤fuel∧fuel≤2000) :
  ∃r,ZH rec1 D fuel false L S=some r∧Zj7 D L S fuel r∧Z7 rec2 fuel D L S=some (conv r)∧(Zgo r.2.2.2.2.2∧ZsJ r):=by
 obtain⟨r,e,hr⟩:=Zw7 hrec1 hD hL hl hS hf
 obtain⟨q,e2,hq⟩:=Zvp hrec2 hD hL hl hS hw hf
 obtain⟨h,hn⟩:=ZDM hrec hD hL hl hS hw hf e e2
 subst h
 exact⟨r,e,hr,e2,hq.few,hn⟩
theorem Zvq:∀(n:Nat) (D:List Int) (L:Zu) (S:List ZJ) (fuel:Int),ZdF D→Zdd L→L.length≤400+S.length→S.length≤1000→Zgo S→(0≤fuel∧fuel≤2000)→13≤n+D.length →
  ∃r,ZA n D fuel false L S=some r∧Zj7 D L S fuel r∧ZR n fuel D L S=some (conv r)∧(Zgo r.2.2.2.2.2∧ZsJ r)
 |0,D,L,S,fuel,hD,_,_,_,_,_,hn=>by have:=Zhg hD;omega
 |n+1,D,L,S,fuel,hD,hL,hl,hS,hw,hf,hn=>by
  show ∃r,ZH (ZA n) D fuel false L S=some r∧Zj7 D L S fuel r∧Z7 (ZR n) fuel D L S=some (conv r)∧_
  have hlen:∀l:Int,13≤n+(D++[l]).length:=fun l=>by rw[List.length_append,List.length_singleton];omega
  exact Zx6 (fun l L' S' f' h1 h2 h3 h4 h5 h6=>Zvq n (D++[l]) L' S' f' h1 h2 h3 h4 h5 h6 (hlen l))
   (fun l L' S' f' h1 h2 h3 h4 h5=>Zwe n (D++[l]) L' S' f' h1 h2 h3 h4 h5 (hlen l))
   (fun l L' S' f' h1 h2 h3 h4 h5 h6=>ZuB n (D++[l]) L' S' f' h1 h2 h3 h4 h5 h6 (hlen l)) hD hL hl hS hw hf
end Go.AE.Y
namespace Go.AE.Y
open Go Go.AE
set_option maxHeartbeats 400000
abbrev ZFs:=Int×List Bool×List ZJ
structure ZE0 (x:Zu) (f:Int) (r:ZFs):Prop where
 top:r.2.2.length≤1000
 few:Zgo r.2.2
 steps:r.1≠2→r.2.2=[]
 bad:¬(Zmo x=true∧0≤f∧f≤2000)→r=(3,[],[])
 good:Zmo x=true→0≤f∧f≤2000→(r.1=1∧r.2.1.length=12∧ZeT x r.2.1)∨(r.1=2∧r.2.1=[]∧∀v,¬ZeT x v)∨(r.1=0∧r.2.1=[])
theorem Zyh (f:Int):Zjw f=some (decide (0≤f)&&decide (f≤2000)):=by
 unfold Zjw
 rw[ZcL,Zj]
theorem ZDK {r:SR} (htop:r.2.2.2.2.length≤1000) (hw:Zgo r.2.2.2.2):loop (Zdz r) ((0:Int),([]:List ZJ))=some (r.1,([]:List Bool),r.2.2.2.2):=by
 have:=ZbY (f:=Zdz r) r.2.2.2.2 zS (fun s=>s) [] (fun o=>(r.1,([]:List Bool),o)) (fun i o hi ho=>?_) ?_
 ·rw[List.map_id']at this
  exact this
 ·have hm:=hw _ (Zy (l:=r.2.2.2.2) (i:=i) (d:=zS) hi)
  change(r.2.2.2.2.getD i (0,(0,(0,([],0))))).2.2.2.1.length≤12 at hm
  unfold Zdz
  dsimp only
  rw[Zg (by omega),Zd ⟨by omega,by omega⟩,Int.toNat_natCast,ZCM _ (by omega),Zj]
  dsimp only
  rw[Zd (by simp only[Zp,List.length_cons,List.length_nil];simp at ho;omega),Zi (by omega) (by omega)]
  rfl
 ·unfold Zdz Zi4
  dsimp only
  rw[Zf (by omega),List.nil_append,List.map_id']
  rfl
theorem ZCf {x:Zu} (hs:ZrZ x) (f:Int):∃r,ZdC x f=some r∧ZfQ x f=some r∧ZE0 x f r:=by
 have hnil:Zgo []:=fun s h=>absurd h List.not_mem_nil
 unfold ZdC ZfQ
 rw[Zsx x hs,ZsP x hs,Zj,Zj]
 cases hp:Zmo x with
 |false=>
  rw[cnf,cnf]
  exact⟨_,rfl,rfl,by simp,hnil,fun _=>rfl,fun _=>rfl,fun h=>by rw[hp]at h;cases h⟩
 |true=>
  rw[cnt,cnt,Zyh,Zj]
  by_cases q1:0≤f
  ·rw[decide_eq_true q1,ZEQ,Zf (by omega)]
   by_cases q2:f≤2000
   ·rw[decide_eq_true q2,cnt,Zf (by omega)]
    have hall:=ZCY hp
    have hlen:x.length≤400:=by
     unfold Zmo at hp
     simp only[Bool.and_eq_true,decide_eq_true_eq]at hp
     exact hp.2
    have hg:Zdd x:=fun c hc=>⟨hall c hc,hs.2 c hc⟩
    have hd:ZdF []:=⟨fun x hx=>absurd hx List.not_mem_nil,fun i j hi=>by simp at hi⟩
    obtain⟨r,e,hv,e2,hw,hn⟩:=Zx6 (D:=[]) (L:=x) (S:=[]) (fuel:=f) (rec1:=ZA 64) (rec2:=ZR 64)
     (fun l L' S' f' h1 h2 h3 h4 h5 h6=>Zvq 64 ([]++[l]) L' S' f' h1 h2 h3 h4 h5 h6 (by simp))
     (fun l L' S' f' h1 h2 h3 h4 h5=>Zwe 64 ([]++[l]) L' S' f' h1 h2 h3 h4 h5 (by simp))
     (fun l L' S' f' h1 h2 h3 h4 h5 h6=>ZuB 64 ([]++[l]) L' S' f' h1 h2 h3 h4 h5 h6 (by simp)) hd hg (by simp;omega) (by simp) hnil ⟨q1,q2⟩
    have e':Zco 64 [] f false x=some r:=by
     rw[←e]
     exact ZAT (Zco 63) [] f false x
    rw[Zx3 x (by omega),Zj,e',Zj,Zd (by simp[Zp];omega),List.nil_append,ZzI,e2,Zj]
    have htop:=hv.ext.top
    have hsat:=hv.sat
    have hno:=hv.no
    obtain⟨ok,f8,mu,vals,L8,S8⟩:=r
    dsimp only at htop hw hsat hno
    unfold conv
    dsimp only
    cases ok with
    |true=>
     rw[ctt,ctt,ZdV (by decide)]
     exact⟨_,rfl,rfl,by simp,hnil,fun _=>rfl,fun h=>absurd ⟨hp,q1,q2⟩ h,fun _ _=>Or.inl ⟨rfl,hsat rfl⟩⟩
    |false=>
     have hvals:vals=[]:=hn rfl
     subst hvals
     rw[cff,cff]
     cases mu with
     |true=>
      rw[ctt,ctt,ZdV (by decide)]
      exact⟨_,rfl,rfl,by simp,hnil,fun _=>rfl,fun h=>absurd ⟨hp,q1,q2⟩ h,fun _ _=>Or.inr (Or.inr ⟨rfl,rfl⟩)⟩
     |false=>
      rw[cff,cff,Zbi rfl]
      refine⟨_,rfl,ZDK (r:=(2,f8,[],L8,S8)) htop hw,htop,hw,fun h=>absurd rfl h,fun h=>absurd ⟨hp,q1,q2⟩ h,fun _ _=>Or.inr (Or.inl ⟨rfl,rfl,fun v h=>hno rfl rfl v h (fun x hx=>absurd hx List.not_mem_nil)⟩)⟩
   ·rw[decide_eq_false q2,cnf,Zg (by omega)]
    exact⟨_,rfl,rfl,by simp,hnil,fun _=>rfl,fun _=>rfl,fun _ h=>absurd h.2 q2⟩
  ·rw[decide_eq_false q1,show (false&&decide (f≤2000))=false from Bool.false_and _,cnf,Zg (by omega)]
   exact⟨_,rfl,rfl,by simp,hnil,fun _=>rfl,fun _=>rfl,fun _ h=>absurd h.1 q1⟩
end Go.AE.Y
namespace Go.AE.Y
open Go Go.AE
set_option maxHeartbeats 400000
def ZdB (m:Zr) (c best:List Int):Zu:=if best=[]then Zcl m else Zcl m++[obC m c (Zcn c best best.length - 1)]
abbrev ZDq:=Int×List Int×List ZJ
def Zy4 (m:Zr) (best:List Int):Prop:=best=[]∨(ZX m best=true∧Zr0 m best=true)
def ZB1 (c best:List Int):Nat:=if best=[]then 1000 else(Zcn c best best.length+200).toNat
structure ZDZ (Q:Zu→List ZJ→Prop) (m:Zr) (c:List Int) (r:ZDq):Prop where
 kind:r.1=0∨r.1=1∨r.1=2
 top:r.2.2.length≤1000
 few:Zgo r.2.2
 best:Zy4 m r.2.1
 none:r.1=2→r.2.1=[]∧(∀v,¬ZeT (Zcl m) v)
 opt:r.1=1→r.2.1≠[]∧(∀v,¬ZeT (ZdB m c r.2.1) v)
 steps:r.1≠0→Q (ZdB m c r.2.1) r.2.2
theorem ZAm {m:Zr} {c best:List Int} (hm:Zx m=true) (hc:ZlV m c=true) (hl:(Zcl m).length<400) (hb:Zy4 m best):ZrZ (ZdB m c best)∧Zmo (ZdB m c best)=true∧(best≠[] → -1000≤Zcn c best best.length - 1∧Zcn c best best.length - 1≤1000 ∧ -135≤Zcn c best best.length∧Zcn c best best.length≤135):=by
 have he:=ZEc hm
 have hv:best≠[] → -1000≤Zcn c best best.length - 1∧Zcn c best best.length - 1≤1000 ∧ -135≤Zcn c best best.length∧Zcn c best best.length≤135:=fun hne=>by
  rcases hb with e|⟨h1,_⟩
  ·exact absurd e hne
  ·obtain⟨_,_,b3,_,b5⟩:=ZuT hm hc h1
   have:=b5 best.length (Nat.le_refl _)
   omega
 have hall:∀x∈ZdB m c best,ZbG x=true∧x.1.length≤12:=fun x hx=>by
  unfold ZdB at hx
  by_cases e:best=[]
  ·rw[if_pos e]at hx
   exact he x hx
  ·rw[if_neg e]at hx
   rcases List.mem_append.1 hx with q|q
   ·exact he x q
   ·rw[List.mem_singleton.1 q]
    have:=hv e
    exact(Zz9 hm hc ⟨by omega,by omega⟩).2
 have hlen:(ZdB m c best).length≤400:=by
  unfold ZdB
  split
  ·omega
  ·rw[List.length_append,List.length_singleton];omega
 refine⟨⟨by omega,fun x hx=>by have:=(hall x hx).2;omega⟩,?_,hv⟩
 unfold Zmo
 rw[Bool.and_eq_true,List.all_eq_true,decide_eq_true_eq]
 exact⟨fun x hx=>(hall x hx).1,hlen⟩
theorem ZCZ {m:Zr} {c best:List Int} {v:List Bool} (hm:Zx m=true) (hs:ZeT (ZdB m c best) v):∃x,Dec m v x∧Zr0 m x=true∧(best≠[]→Zcn c x x.length≤Zcn c best best.length - 1):=by
 have h1:ZeT (Zcl m) v:=fun y hy=>hs y (by unfold ZdB;split;exact hy;exact List.mem_append_left _ hy)
 obtain⟨x,hd,hx⟩:=(ZEd hm).1 h1
 refine⟨x,hd,hx,fun hne=>?_⟩
 have h2:=hs (obC m c (Zcn c best best.length - 1)) (by unfold ZdB;rw[if_neg hne];exact List.mem_append_right _ (List.mem_singleton.2 rfl))
 rw[ZEr hm hd,decide_eq_true_eq]at h2
 exact h2
theorem ZBW {l:List Int} (h:l≠[]):l.isEmpty=false:=by
 cases l with
 |nil=>exact absurd rfl h
 |cons a l=>rfl
theorem ZBv {l:List Int} (h:l≠[]):0<l.length:=List.length_pos_iff.2 h
theorem ZB9 {Q:Zu→List ZJ→Prop} {m:Zr} {c:List Int} {f:Int} (hQ:∀x r,ZrZ x→ZdC x f=some r→r.1=2→r.2.2.length≤1000→Q x r.2.2) (h:ZeH m) (hm:Zx m=true) (hc:ZlV m c=true) (hcl:c.length≤1048576) (hl:(Zcl m).length<400) (hf:0≤f∧f≤2000):∀(n:Nat) (best:List Int),Zy4 m best→ZB1 c best≤n →
  ∃r:ZDq,loop (Zbe m c f (true,Zcl m)) (ZdB m c best,best)=some r∧loop (ZbS m c f (true,Zcl m)) best=some r∧ZDZ Q m c r:=by
 intro n
 induction n with
 |zero=>
  intro best hb hn
  exfalso
  obtain⟨_,_,hv⟩:=ZAm hm hc hl hb
  unfold ZB1 at hn
  by_cases e:best=[]
  ·rw[if_pos e]at hn;omega
  ·rw[if_neg e]at hn
   have:=hv e
   omega
 |succ n ih=>
  intro best hb hn
  obtain⟨hs,hp,hv⟩:=ZAm hm hc hl hb
  obtain⟨q,e1,e2,hok⟩:=ZCf hs f
  obtain⟨m1,m2,m3⟩:=Zd0 hm
  have hspec:ZbS m c f (true,Zcl m) best=Zcj m f best (ZdB m c best):=by
   unfold ZbS ZdB
   rw[Zd (by simp only[Zp,List.length_nil];omega)]
   by_cases e:best=[]
   ·rw[if_pos e,e,Zf (by simp),List.nil_append]
   ·have hbc:ZX m best=true:=by
     rcases hb with q|q
     ·exact absurd q e
     ·exact q.1
    obtain⟨b1,b2,b3,b4,b5⟩:=ZuT hm hc hbc
    have:=ZBv e
    have hve:=hv e
    rw[if_neg e,Zg (by omega),ZwY b2 b3 b1,Zj,Zi (by omega) (by omega),ZqG m c _ h hcl,Zj,(Zz9 hm hc ⟨by omega,by omega⟩).1]
    unfold Zi3
    dsimp only
    rw[Zd (by simp only[Zp,List.nil_append,List.length_cons,List.length_nil];omega),List.nil_append]
  rcases hok.good hp hf with⟨q1,q2,q3⟩|⟨q1,q2,q3⟩|⟨q1,q2⟩
  ·
   obtain⟨x,hd,hx,hlt⟩:=ZCZ hm q3
   have hxc:=hd.1
   obtain⟨b1,b2,b3,b4,b5⟩:=ZuT hm hc hxc
   have hxne:x≠[]:=fun e=>by rw[e]at b4;simp at b4
   have hbx:=b5 x.length (Nat.le_refl _)
   obtain⟨r,r1,r2,r3⟩:=ih x (Or.inr ⟨hxc,hx⟩) (by
    unfold ZB1 at hn ⊢
    rw[if_neg hxne]
    by_cases e:best=[]
    ·rw[if_pos e]at hn;omega
    ·rw[if_neg e]at hn
     have:=hlt e
     have:=hv e
     omega)
   have hj:∀(i1:List Int),Zdy m i1 q ()=some (.inl x):=fun i1=>by
    unfold Zdy
    rw[ZD (by omega),ZxN h hm q2 hd,Zj]
   have e:ZdB m c x=Zcl m++[obC m c (Zcn c x x.length - 1)]:=by unfold ZdB;rw[if_neg hxne]
   have hi:Zbe m c f (true,Zcl m) (ZdB m c best,best)=some (.inl (ZdB m c x,x)):=by
    rw[e]
    unfold Zbe
    dsimp only
    rw[e1,Zj,ZD (by omega),ZD (by omega),Zbi (by omega),Zxh h hm q2 hd,Zj,Zwu b2 b3 b1,Zj,Zi (by omega) (by omega),Zqn m c _ h hcl,Zj,(Zz9 hm hc ⟨by omega,by omega⟩).1]
    unfold ZiQ
    dsimp only
    rw[Zx3 _ (by omega),Zj,Zd (by simp only[Zp,List.length_cons,List.length_nil];omega),Zd hxne]
   have hs':ZbS m c f (true,Zcl m) best=some (.inl x):=by
    rw[hspec]
    unfold Zcj
    rw[e2,Zj,ZD (by omega),ZD (by omega),hj]
   refine⟨r,?_,?_,r3⟩
   ·rw[Zes,hi];exact r1
   ·rw[Zes,hs'];exact r2
  ·
   have hw:=hQ _ _ hs e1 q1 hok.top
   by_cases e:best=[]
   ·refine⟨(2,[],q.2.2),?_,?_,⟨Or.inr (Or.inr rfl),hok.top,hok.few,Or.inl rfl,fun _=>⟨rfl,fun v hv=>q3 v (by unfold ZdB;rw[if_pos e];exact hv)⟩,fun h=>absurd h (by show ¬(2:Int)=1;decide),fun _=>by rw[←e];exact hw⟩⟩
    ·have hi:Zbe m c f (true,Zcl m) (ZdB m c best,best)=some (.inr (2,[],q.2.2)):=by
      unfold Zbe
      dsimp only
      rw[e1,Zj,ZI q1,e]
      rfl
     rw[Zes,hi]
     rfl
    ·have hs':ZbS m c f (true,Zcl m) best=some (.inr (2,[],q.2.2)):=by
      rw[hspec]
      unfold Zcj
      rw[e2,Zj,ZD (by omega),ZI q1,e,q1]
      rfl
     rw[Zes,hs']
     rfl
   ·refine⟨(1,best,q.2.2),?_,?_,⟨Or.inr (Or.inl rfl),hok.top,hok.few,hb,fun h=>absurd h (by show ¬(1:Int)=2;decide),fun _=>⟨e,q3⟩,fun _=>hw⟩⟩
    ·have hi:Zbe m c f (true,Zcl m) (ZdB m c best,best)=some (.inr (1,best,q.2.2)):=by
      unfold Zbe
      dsimp only
      rw[e1,Zj,ZI q1,ZBW e,cff,ZI q1]
     rw[Zes,hi]
     rfl
    ·have hs':ZbS m c f (true,Zcl m) best=some (.inr (1,best,q.2.2)):=by
      have:=ZBv e
      rw[hspec]
      unfold Zcj Zdy
      rw[e2,Zj,ZD (by omega),ZI q1,ZD (by omega),ZI q1]
     rw[Zes,hs']
     rfl
  ·
   refine⟨(0,best,[]),?_,?_,⟨Or.inl rfl,Nat.zero_le _,fun s hs=>absurd hs List.not_mem_nil,hb,fun h=>absurd h (by show ¬(0:Int)=2;decide),fun h=>absurd h (by show ¬(0:Int)=1;decide),fun h=>absurd rfl h⟩⟩
   ·have hi:Zbe m c f (true,Zcl m) (ZdB m c best,best)=some (.inr (0,best,[])):=by
     unfold Zbe
     dsimp only
     rw[e1,Zj,ZD (by omega),ZD (by omega),ZdV (by omega)]
    rw[Zes,hi]
    rfl
   ·have hs':ZbS m c f (true,Zcl m) best=some (.inr (0,best,[])):=by
     rw[hspec]
     unfold Zcj
     rw[e2,Zj,ZI q1,q1]
    rw[Zes,hs']
    rfl
theorem ZCa {Q:Zu→List ZJ→Prop} {m:Zr} {c:List Int} (f:Int) (hQ:∀x r,ZrZ x→ZdC x f=some r→r.1=2→r.2.2.length≤1000→Q x r.2.2) (h:ZeH m) (hcl:c.length≤1048576):∃r:ZDq,Zeq m c f=some r∧ZfP m c f=some r ∧
  (r=(3,[],[])∨((Zx m=true∧ZlV m c=true∧(Zcl m).length<400∧0≤f∧f≤2000)∧ZDZ Q m c r)):=by
 unfold Zeq ZfP ZnD
 rw[Ztr m h,Zj,ZtF m h,Zj]
 unfold Zzx
 cases hm:Zx m with
 |false=>
  rw[Bool.false_and,cff]
  exact⟨_,rfl,rfl,Or.inl rfl⟩
 |true=>
  rw[Bool.true_and]
  by_cases q4:(Zcl m).length≤400
  case neg=>
   rw[decide_eq_false q4,cff]
   exact⟨_,rfl,rfl,Or.inl rfl⟩
  rw[decide_eq_true q4,ctt,ctt,Zj]
  dsimp only
  rw[cnt,ZnZ m c hcl,Zj,Zrl m c h hcl,Zj,hm,Bool.true_and,Zyh,Zj]
  by_cases q:(Zcl m).length<400
  case neg=>
   rw[decide_eq_false (by omega),cnf]
   cases ZlV m c with
   |false=>rw[cnf];exact⟨_,rfl,rfl,Or.inl rfl⟩
   |true=>
    rw[cnt]
    by_cases f1:f<0
    ·rw[Zg f1];exact⟨_,rfl,rfl,Or.inl rfl⟩
    rw[Zf f1]
    by_cases f2:2000<f
    ·rw[Zg f2];exact⟨_,rfl,rfl,Or.inl rfl⟩
    rw[Zf f2,Zg (by omega)]
    exact⟨_,rfl,rfl,Or.inl rfl⟩
  rw[decide_eq_true (show ((Zcl m).length:Int)<400 by omega),cnt]
  cases hc:ZlV m c with
  |false=>rw[cnf,cnf];exact⟨_,rfl,rfl,Or.inl rfl⟩
  |true=>
   rw[cnt,cnt]
   by_cases f1:f<0
   ·rw[Zg f1,decide_eq_false (show ¬0≤f by omega),Bool.false_and,cnf]
    exact⟨_,rfl,rfl,Or.inl rfl⟩
   rw[Zf f1]
   have f1':0≤f:=by omega
   rw[decide_eq_true f1',Bool.true_and]
   by_cases f2:2000<f
   ·rw[Zg f2,decide_eq_false (show ¬f≤2000 by omega),cnf]
    exact⟨_,rfl,rfl,Or.inl rfl⟩
   rw[Zf f2,decide_eq_true (show f≤2000 by omega),cnt,Zf (show ¬(400:Int)≤((Zcl m).length:Int) by omega)]
   obtain⟨r,r1,r2,r3⟩:=ZB9 hQ h hm hc hcl q ⟨by omega,by omega⟩ _ [] (Or.inl rfl) (Nat.le_refl _)
   exact⟨r,r1,r2,Or.inr ⟨⟨rfl,rfl,q,by omega,by omega⟩,r3⟩⟩
end Go.AE.Y
namespace Go.AE.Y
open Go Go.AE
set_option maxHeartbeats 400000
theorem ZDv {m:Zr} {best:List Int} (hm:Zx m=true) (h:Zy4 m best):best.length≤5:=by
 rcases h with e|⟨h,_⟩
 ·rw[e];exact Nat.zero_le _
 ·have:=(ZcT h).1
  have:=(Zd0 hm).2.1
  omega
theorem ZqR (m:Zr) (c:List Int) (f:Int) (h:okD ZBG m):Zeh m c f=some true:=by
 unfold Zeh
 by_cases h0:1048576<(c.length:Int)
 ·rw[Zg h0]
 rw[Zf h0]
 obtain⟨r,hr,hl,hr2⟩:=ZCk m h
 rw[hr,Zj]
 by_cases h1:r<0
 ·rw[Zg h1]
 rw[Zf h1]
 have hs:ZeH m:=hr2.resolve_left h1
 obtain⟨q,i1,i2,hq⟩:=ZCa (Q:=fun _ _=>True) f (fun _ _ _ _ _ _=>trivial) hs (show c.length≤1048576 by omega)
 have hb:q.2.1.length≤5∧ZxK q.2.2:=by
  rcases hq with e|⟨hg,hok⟩
  ·rw[e]
   exact⟨Nat.zero_le _,Nat.zero_le _,fun s hs=>absurd hs List.not_mem_nil⟩
  ·refine⟨ZDv hg.1 hok.best,by have:=hok.top;omega,fun s hs=>?_⟩
   have:=hok.few s hs
   show _≤1048576
   omega
 obtain⟨hb,hS⟩:=hb
 obtain⟨k1,e1,p1,p1',_⟩:=Zz1 m hs
 obtain⟨k2,e2,_,_,p2,_⟩:=Ztg c k1.1 ⟨by omega,by omega⟩ (by omega)
 obtain⟨k3,e3,d3,d3',p3,p3'⟩:=Ztg q.2.1 1 ⟨by omega,by omega⟩ (by omega)
 obtain⟨k4,e4,d4,d4',p4,p4'⟩:=ZxC q.2.2 k3.1 ⟨by omega,by omega⟩ hS
 have hS1:=hS.1
 have e5:ZfA k3.2 1=some k3.1:=ZAV d3 (by omega) (by omega) (by omega)
 have e6:ZeQ k4.2 k3.1=some k4.1:=ZzN d4 (by omega) (by omega) (by omega)
 rw[Zw4 m hs,Zj,Zna c (by omega),Zj,i2,Zj,Zj,Zj,i1,Zj,bne_self_eq_false,cff,Zgd _ (by omega),Zj,cnt,Zqm _ hS,Zj,cnt,Zj,Zzz m hs,Zj,cnt]
 unfold Zfe
 rw[Zna c (by omega),Zj,Zgd c (by omega),Zj,cnt,e1,Zj,e2,Zj,Zf (by omega),bne_self_eq_false,cff,Zgd q.2.1 (by omega),Zj,cnt,Zqm _ hS,Zj,cnt,e3,Zj,e4,Zj,e5,Zj,Zf (by omega),e6,Zj,Zf (by omega),bne_self_eq_false,cff,Zw4 m hs,Zj,Zj,i1,Zj,bne_self_eq_false,cff,Zgd q.2.1 (by omega),Zj,cnt,Zqm _ hS,Zj,cnt,Zj,Zf (by omega),e6,Zj,Zf (by omega),bne_self_eq_false,cff]
end Go.AE.Y
