/-
  Plain laws of the models, in one text. No conditions.
-/
import Derived.Test.YtaeeiddjpigemaaGreatPx3
import Derived.Test.YtaeeiddjpigemaaGreatPx2
import Derived.Test.YtaeeiddjpigemaaGreatPx1
namespace Go.AE.Y
open Go Go.AE
set_option maxHeartbeats 400000
theorem ZM8 {S:List ZB} (h:Zgh S):ZkS S:=fun s hs=>by have:=h s hs;omega
theorem ZKk {m:Zp} {c best y:List Int} (hm:Zz m=true) (hno:∀v,¬ZeC (ZcT m c best) v) (hy:ZE m y=true) (hs:ZcI m y=true):best≠[]∧ZX c best best.length≤ZX c y y.length:=by
 have hd:=ZPy hm hy
 have he:=(ZKN hm).2 ⟨y,hd,hs⟩
 by_cases e:best=[]
 ·exfalso
  refine hno (Ztn m y y.length) (fun z hz=>?_)
  unfold ZcT at hz
  rw[if_pos e]at hz
  exact he z hz
 ·refine⟨e,?_⟩
  by_cases q:ZX c best best.length≤ZX c y y.length
  ·exact q
  ·exfalso
   refine hno (Ztn m y y.length) (fun z hz=>?_)
   unfold ZcT at hz
   rw[if_neg e]at hz
   rcases List.mem_append.1 hz with w|w
   ·exact he z w
   ·rw[Xaj.1 w,ZK5 hm hd,Xah]
    omega
theorem ZNm {m:Zp} {c best:List Int} (hm:Zz m=true) (hb:ZE m best=true) (hs:ZcI m best=true) (hno:∀v,¬ZeC (ZcT m c best) v):(Zgu m c).isEmpty=false∧ZE m (Zgu m c)=true∧ZX c (Zgu m c) (Zgu m c).length=ZX c best best.length:=by
 obtain⟨b1,b2⟩:=ZOR (m:=m) (c:=c) hm
 obtain⟨n1,n2⟩:=b1 best hb hs
 rcases b2 with b2|⟨b2,b3⟩
 ·exact absurd b2 n1
 ·have h1:=(ZKk (c:=c) hm hno b2 b3).2
  refine⟨ZDU n1,b2,?_⟩
  rcases n2 with n2|⟨n2,_⟩
  ·omega
  ·exact n2
theorem ZK6 {m:Zp} {c y:List Int} (hm:Zz m=true) (hc:ZfZ m c=true) (hy:ZE m y=true):ZMv m c y=(ZX c y y.length,true):=by
 unfold ZMv
 rw[hm,hc,hy,Xai,Xai,ctt]
end Go.AE.Y
namespace Go.AE.Y
open Go Go.AE
set_option maxHeartbeats 400000
theorem ZzV (m:Zp) (x:List Int) (h:Zde m) (hx:x.length≤1048576):Zic m x=some (Zz m&&ZE m x&&ZcI m x):=by
 unfold Zic Zra
 rw[Zjz m h,Ze]
 cases hm:Zz m with
 |false=>rw[cff,Ze,cff,Xae,Xae]
 |true=>
  rw[ctt,ZEt m x h hx,Ze,Ze,Xai]
  cases hc:ZE m x with
  |false=>rw[cff,Xae]
  |true=>rw[ctt,ZFN h hm hc,Ze,Xai]
theorem ZO1 {x:Zx} {S:List ZB} (hs:Zjy x) (h:(Zfq x S).isSome=true):∀v,¬ZeC x v:=fun v hv=>by
 obtain⟨q,hq⟩:=Option.isSome_iff_exists.1 h
 obtain⟨_,_,_,_,_,hno⟩:=ZJd hs hq
 exact hno v (fun i hi _=>hv _ (ZF hi))
theorem ZHY {a:List Int} (h:∀x∈a,0≤x∧x≤255):∃S c x m,ZgH a=some (S,c,x,m.1,m.2)∧ZkS S∧c.length≤9∧x.length≤9∧okM m:=by
 unfold ZgH
 obtain⟨r,e1,h1⟩:=ZPN h
 obtain⟨r2,m,e2,a2,m2⟩:=ZEu (h1.wk (by omega))
 have h2:RdOk r2 2000:=a2.ok h1 (by omega)
 have m2':m.1.length≤4∧m.2.length≤4∧∀r∈m.2,okR r:=m2
 obtain⟨r3,m',e3,a3,m3⟩:=ZDg (m:=m) (h2.wk (by omega)) m2'
 have h3:RdOk r3 3000:=a3.ok h2 (by omega)
 obtain⟨r4,c,e4,a4,m4⟩:=ZFM (o1:=m'.1) m'.2 (h3.wk (by omega)) (by omega)
 have h4:RdOk r4 4000:=a4.ok h3 (by omega)
 have hok:=ZQa m3
 obtain⟨q,_,i2,hq⟩:=ZMC (Q:=fun _ _=>True) 400 (fun _ _ _ _ _ _=>trivial) hok.small (show c.length≤1048576 by omega)
 have hfew:Zgh q.2.2∧q.2.2.length≤1000∧q.2.1.length≤9:=by
  rcases hq with e|⟨⟨hm,_⟩,ho⟩
  ·rw[e];exact⟨fun s hs=>absurd hs XaE,Nat.zero_le _,Nat.zero_le _⟩
  ·refine⟨ho.few,ho.top,?_⟩
   rcases ho.best with e|⟨h1,_⟩
   ·rw[e];exact Nat.zero_le _
   ·have:=(Zcp h1).1
    have:=(ZcG hm).2.1
    omega
 obtain⟨y,r6,e6,a6,_⟩:=Zlv 4 (r:=r4) (h4.wk (by omega))
 have h6:RdOk r6 4001:=a6.ok h4 (by omega)
 have fin:∀(r_:List Int×Int) (x:List Int),RdOk r_ 10000→x.length≤9→∃S,Zea (r3,m') (r4,c) q (r_,x)=some (S,c,x,m'.1,m'.2)∧ZkS S:=fun r_ x hr hx=>by
  have two:∀T:List ZB,Zgh T→∃S,Zeb (r3,m') (r4,c) x T=some (S,c,x,m'.1,m'.2)∧ZkS S:=fun T hT=>⟨T,rfl,ZM8 hT⟩
  unfold Zea
  dsimp only
  by_cases q0:(0:Int)<(q.2.2.length:Int)
  ·rw[Zd q0]
   obtain⟨z,r8,e8,_,_⟩:=Zlv 6 (r:=r_) (hr.wk (by omega))
   rw[e8,Ze]
   dsimp only
   cases (z==0)with
   |true=>
    rw[ctt,Zf (by omega) (by omega),Zb ⟨by omega,by omega⟩]
    exact two _ (fun s hs=>hfew.1 s (XbO hs))
   |false=>
    rw[cff]
    exact two _ hfew.1
  ·rw[Zc q0]
   exact two _ hfew.1
 have i2:Zg6 m' c 400=some q:=i2
 rw[e1,Ze,e2,Ze]
 dsimp only
 rw[e3,Ze]
 dsimp only
 rw[e4,Ze]
 dsimp only
 rw[i2,Ze,e6,Ze]
 dsimp only
 cases (y==0)with
 |true=>
  obtain⟨r7,x,e7,a7,m7⟩:=ZzW (o1:=m'.1) m'.2 (h6.wk (by omega)) (by omega)
  have h7:RdOk r7 5000:=a7.ok h6 (by omega)
  obtain⟨S,f1,f2⟩:=fin r7 x (h7.wk (by omega)) m7
  rw[ctt,e7,Ze]
  exact⟨S,c,x,m',f1,f2,m4,m7,hok⟩
 |false=>
  obtain⟨S,f1,f2⟩:=fin r6 q.2.1 (h6.wk (by omega)) hfew.2.2
  rw[cff]
  exact⟨S,c,q.2.1,m',f1,f2,m4,hfew.2.2,hok⟩
theorem ZAK {a:List Int} (ha:∀x∈a,0≤x∧x≤255):ZmG a=some true:=by
 unfold ZmG
 by_cases h0:1048576<(a.length:Int)
 ·rw[Zd h0]
 rw[Zc h0]
 obtain⟨S,c,x,m,e1,hS,hcl,hxl,hok⟩:=ZHY ha
 have hs:Zde m:=hok.small
 have i1:ZgX (m.1,m.2) c x S=some (ZsS m c x S):=Zyy hs (by omega) (by omega) hS
 have i2:Zeq (m.1,m.2) c x S=some (ZsS m c x S):=Zy1 hs (by omega) (by omega) hS (ZzV m x hs (by omega))
 rw[e1,Ze]
 dsimp only
 rw[i1,Ze,i2,Ze,bne_self_eq_false,cff,Ze,beq_self_eq_true]
 cases hq:ZsS m c x S with
 |false=>rw[cnf]
 |true=>
  rw[cnt]
  have hq':=hq
  unfold ZsS at hq'
  simp only[Xaf,Xah]at hq'
  obtain⟨⟨⟨hm,hl⟩,⟨hb,hsol⟩,hc⟩,href⟩:=hq'
  have hxne:x≠[]:=ZIf hm hb
  obtain⟨r1,_,_⟩:=Zvo hm hc hl (Or.inr ⟨hb,hsol⟩:ZBz m x)
  have hno:∀v,¬ZeC (ZcT m c x) v:=ZO1 r1 (by rw[ZC5 hxne];exact href)
  obtain⟨n1,n2,n3⟩:=ZNm hm hb hsol hno
  have hml:=(Zcp n2).1
  have hm5:=(ZcG hm).2.1
  have emin:ZHL m c=(true,Zgu m c):=by
   unfold ZHL
   rw[hm,hc,Bool.and_self,ctt,n1]
   rfl
  have j1:Zgm (m.1,m.2) c=some (true,Zgu m c):=by rw[←emin];exact Zxr m c hs (by omega)
  have j2:ZdO (m.1,m.2) c x=some (ZX c x x.length,true):=by rw[←ZK6 hm hc hb];exact Zpc m c x hs (by omega) (by omega)
  have j3:ZdO (m.1,m.2) c (Zgu m c)=some (ZX c (Zgu m c) (Zgu m c).length,true):=by rw[←ZK6 hm hc n2];exact Zpc m c (Zgu m c) hs (by omega) (by omega)
  rw[j1,Ze,j2,Ze]
  dsimp only
  rw[j3,Ze,ctt,ctt,ctt,n3,beq_self_eq_true]
end Go.AE.Y
