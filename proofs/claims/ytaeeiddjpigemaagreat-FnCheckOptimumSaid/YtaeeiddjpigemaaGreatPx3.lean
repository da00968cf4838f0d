/-
  Plain laws of the models, in one text. No conditions.
-/
import Derived.Test.YtaeeiddjpigemaaGreatPx2
import Derived.Test.YtaeeiddjpigemaaGreatPx1
namespace Go.AE.Y
open Go Go.AE
set_option maxHeartbeats 400000
theorem Zvm {n i:Nat} (h:i<n):(List.range n).getD i 0=i:=by
 rw[Xaa,Xac (by rw[XaK];exact h),List.getElem_range]
 rfl
theorem ZEf (vs:List Int):vs.map (fun x=>((1:Int),0 - x))=ZbS (ZbO vs):=by
 unfold ZbS ZbO
 rw[XbZ]
 rfl
theorem ZtO {vs:List Int} (hl:vs.length≤1000) (hv:∀x∈vs,-1000≤x∧x≤1000):ZkG vs=some ((Zkb vs).2,(Zkb vs).1):=by
 unfold ZkG
 rw[Zf (by omega) (by omega)]
 show _=some ((vs.length:Int) - 1,ZbS (ZbO vs))
 rw[←ZEf]
 refine Zbi (f:=Zg2 vs) vs 0 (fun x=>((1:Int),0 - x)) [] (fun o=>((vs.length:Int) - 1,o)) (fun i out hi ho=>?_) ?_
 ·have:=hv _ (ZF (l:=vs) (i:=i) (d:=0) hi)
  have ho:out.length=i:=by rw[ho];simp
  unfold Zg2
  dsimp only
  rw[Zd (by omega),Zb ⟨by omega,by omega⟩,Xab,Zf (by omega) (by omega),Zb (by simp only[Zl,Xak,Xal];omega),Zf (by omega) (by omega)]
 ·unfold Zg2
  dsimp only
  rw[Zc (by omega)]
theorem ZxX {vs:List Int} (hl:vs.length≤1000) (hv:∀x∈vs,-1000≤x∧x≤1000):Zph vs=some ((Zkb vs).2,(Zkb vs).1):=by
 unfold Zph
 rw[Zf (by omega) (by omega)]
 show _=some ((vs.length:Int) - 1,ZbS (ZbO vs))
 rw[←ZEf]
 refine Zbi (f:=ZkX vs) vs 0 (fun x=>((1:Int),0 - x)) [] (fun o=>((vs.length:Int) - 1,o)) (fun i out hi ho=>?_) ?_
 ·have:=hv _ (ZF (l:=vs) (i:=i) (d:=0) hi)
  have ho:out.length=i:=by rw[ho];simp
  unfold ZkX
  dsimp only
  rw[Zd (by omega),Zb ⟨by omega,by omega⟩,Xab,Zf (by omega) (by omega),Zb (by simp only[Zl,Xak,Xal];omega),Zf (by omega) (by omega)]
 ·unfold ZkX
  dsimp only
  rw[Zc (by omega)]
theorem ZNR (m:Zp) (i:Nat):(ZdB m i).length=Zd8 m i:=by
 unfold ZdB
 rw[Xap,XaK]
theorem ZDq {m:Zp} (hm:Zz m=true) {i:Nat} (hi:i<m.1.length):∀x∈ZdB m i,1≤x∧x≤12:=fun x hx=>by
 obtain⟨k,hk,rfl⟩:=XaG.1 hx
 have:=Zdf hm hi ((ZfK hm hi).1 (Xaz.1 hk))
 omega
theorem Zut {m:Zp} (hm:Zz m=true) {i:Nat} (hi:i<m.1.length):(Zd8 m i:Int)=m.1.getD i 0+1:=by
 have:=(ZnS hm hi).1
 unfold Zd8 at this ⊢
 omega
theorem Zxu {m:Zp} (hm:Zz m=true) {i:Nat} (hi:i<m.1.length):ZgZ m i=some (ZdB m i):=by
 have hz:=Zut hm hi
 have h4:=ZnS hm hi
 unfold ZgZ
 rw[Zb ⟨by omega,by omega⟩,Xab,Zf (by omega) (by omega)]
 refine Zbi (f:=Zfa m i) (List.range (Zd8 m i)) 0 (ZbL m i) [] (fun o=>o) (fun k out hk ho=>?_) ?_
 ·rw[XaK]at hk
  have ho:out.length=k:=by rw[ho];simp
  unfold Zfa
  dsimp only
  rw[Xab,Zd (by omega),Zjp hm hi (by omega),Ze,Zb (by simp only[Zl,Xak,Xal];omega),Zf (by omega) (by omega),Zvm hk]
  rfl
 ·rw[XaK]
  unfold Zfa
  dsimp only
  rw[Xab,Zc (by omega)]
theorem Zwq {l:List Int} (h:ZcN l=true) (hl:l.length≤40):Zi3 l=(true,(Zj4 l).2,(Zj4 l).1):=by
 unfold Zi3
 rw[Xad hl,h]
 rfl
theorem ZFL {m:Zp} (hm:Zz m=true) {i:Nat} (hi:i<m.1.length):Zsc m i=some (Zn8 m i):=by
 have hz:=Zut hm hi
 have h4:=ZnS hm hi
 obtain⟨v1,_,_,_,v5⟩:=Zy9 hm hi
 have hin:=ZDq hm hi
 have hfin:ZkV (ZdB m i)=some (Zn8 m i):=by
  unfold ZkV
  rw[ZlB _ (by omega),Ze,Zwq v1 (by omega),ZxX (by omega) (fun x hx=>by have:=hin x hx;omega),Ze]
  unfold Zn8
  generalize Zj4 (ZdB m i)=a
  generalize Zkb (ZdB m i)=b
  rfl
 unfold Zsc
 have:=Zbi (f:=ZkW m i) (List.range (Zd8 m i)) 0 (ZbL m i) [] (fun o=>Zn8 m i) (fun k out hk ho=>?_) ?_
 ·exact this
 ·rw[XaK]at hk
  have ho:out.length=k:=by rw[ho];simp
  unfold ZkW
  dsimp only
  rw[Zb ⟨by omega,by omega⟩,Xab,Zd (by omega),Zi8 hm hi (by omega),Ze,Zb (by simp only[Zl,Xak,Xal];omega),Zf (by omega) (by omega),Zvm hk]
  rfl
 ·rw[XaK]
  unfold ZkW
  dsimp only
  rw[Zb ⟨by omega,by omega⟩,Xab,Zc (by omega),Xao]
  show up (ZkV (ZdB m i))=_
  rw[hfin]
  rfl
theorem Zoi {m:Zp} {r:ZI} (hm:Zz m=true) (ho:Zdo m r) {i:Nat} (hi:i<r.2.1.length):(0≤r.2.1.getD i 0∧(r.2.1.getD i 0).toNat<m.1.length)∧(Zd8 m (r.2.1.getD i 0).toNat:Int)=m.1.getD (r.2.1.getD i 0).toNat 0+1∧Zd8 m (r.2.1.getD i 0).toNat≤4∧r.2.1.length≤5:=by
 have h:=ho.vars i hi
 exact⟨h,Zut hm h.2,(ZnS hm h.2).2,Zil hm ho⟩
theorem ZKb {m:Zp} {r:ZI} (hm:Zz m=true) (ho:Zdo m r) (k1:r.1=1):Zb7 m r=some [Ztt m r]:=by
 obtain⟨l1,l2,l3,l4⟩:=ho.lin k1
 have h5:=Zil hm ho
 have hfin:Ze9 r (Zhp m r r.2.1.length)=some [Ztt m r]:=by
  obtain⟨c1,c2⟩:=Zve hm ho k1 r.2.1.length (Nat.le_refl _)
  unfold Ze9
  rw[Zwz (fun t ht=>(c2 t ht).1) (by omega) ⟨by omega,by omega⟩,Ze]
  unfold Ztt Zlt
  generalize Zcw _ _=q
  rfl
 unfold Zb7
 rw[Zu k1]
 refine ZL (fun s:Int×List (Int×Int)=>∃i:Nat,s.1=i∧i≤r.2.1.length∧s.2=Zhp m r i) (fun s=>r.2.1.length - s.1.toNat) (fun _=>[Ztt m r]) ?_ _ ⟨0,rfl,Nat.zero_le _,rfl⟩
 rintro⟨s,out⟩ ⟨i,hi1,hi,ho'⟩
 dsimp only at hi1 ho'
 subst hi1
 unfold ZhY
 dsimp only
 rcases Xag i r.2.1.length with q|q
 ·left
  obtain⟨⟨a0,a1⟩,a2,a3,_⟩:=Zoi hm ho q
  have hc:=l2 i
  obtain⟨c1,_⟩:=Zve hm ho k1 i hi
  rw[Zd (by omega),Zb ⟨by omega,by omega⟩,Xab,Zb ⟨by omega,by omega⟩,Zf (by omega) (by omega)]
  have hl:loop (Zc9 m r i) ((0:Int),out)=some (Sum.inl ((i:Int)+1,Zhp m r (i+1)):(Int×List (Int×Int))⊕(List Z9)):=by
   have:=Zbi (f:=Zc9 m r i) (List.range (Zd8 m (r.2.1.getD i 0).toNat)) 0 (fun (k:Nat)=>(r.2.2.1.getD i 0*(k:Int),ZbL m (r.2.1.getD i 0).toNat k)) out (fun o=>Sum.inl ((i:Int)+1,o)) (fun k o hk hko=>?_) ?_
   ·rw[this,ho']
    rfl
   ·rw[XaK]at hk
    have hko:o.length≤40:=by rw[hko,ho'];omega
    have hb:=ZEa (a:=r.2.2.1.getD i 0) (k:=k) hc ⟨by omega,by omega⟩
    have eb:=Zjp hm a1 (k:=k) (by omega)
    rw[show (((r.2.1.getD i 0).toNat:Nat):Int)=r.2.1.getD i 0 by omega]at eb
    unfold Zc9
    dsimp only
    rw[Xab,Zd (by omega),Zb ⟨by omega,by omega⟩,Zf (by omega) (by omega),eb,Ze,Zb (by simp only[Zl,Xak,Xal];omega),Zf (by omega) (by omega),Zvm hk]
    rfl
   ·rw[XaK]
    unfold Zc9
    dsimp only
    rw[Xab,Zc (by omega),Zf (by omega) (by omega)]
  rw[hl]
  exact⟨_,rfl,⟨i+1,by simp,by omega,rfl⟩,by (try dsimp only)<;>omega,rfl⟩
 ·right
  have:i=r.2.1.length:=by omega
  subst this
  rw[Zc (by omega),ho',hfin]
  rfl
theorem ZCH {s:Int×List Int} {t:Int×Int} (h:0<t.2):Zmq s t=(s.1,s.2.set t.2.toNat (s.2.getD t.2.toNat 0+t.1)):=by
 unfold Zmq
 rw[if_neg (by omega)]
theorem ZI0 {b:Int} {j:Nat}:∀(ts:List (Int×Int)) (s:Int×List Int),(∀t∈ts,0<t.2∧t.2.toNat≠j)→(ts.foldl Zmq s).2.getD j 0=s.2.getD j 0
 |[],_,_=>rfl
 |t::ts,s,h=>by
  rw[Xa6,ZI0 (b:=b) ts (Zmq s t) (fun x hx=>h x (Xaq _ hx))]
  obtain⟨h1,h2⟩:=h t Xav
  rw[ZCH h1]
  exact ZO h2
theorem ZK2:∀(ts:List (Int×Int)) (s:Int×List Int),(∀t∈ts,0<t.2)→(ts.foldl Zmq s).1=s.1
 |[],_,_=>rfl
 |t::ts,s,h=>by
  rw[Xa6,ZK2 ts (Zmq s t) (fun x hx=>h x (Xaq _ hx))]
  rw[ZCH (h t Xav)]
theorem ZOF (m:Zp) (i:Nat) (c:Int) (n:Nat):ZrB m i c (n+1)=ZrB m i c n++[(c*(n:Int),ZbL m i n)]:=by
 unfold ZrB
 rw[Xbz,Xa3]
 rfl
theorem ZC1 {m:Zp} {r:ZI} {t:Int×Int}:∀n,t∈Zhp m r n→∃i k,i<n∧k<Zd8 m (r.2.1.getD i 0).toNat∧t.2=ZbL m (r.2.1.getD i 0).toNat k
 |0,h=>absurd h XaE
 |n+1,h=>by
  rcases List.mem_append.1 h with q|q
  ·obtain⟨i,k,h1,h2,h3⟩:=ZC1 n q
   exact⟨i,k,by omega,h2,h3⟩
  ·obtain⟨k,hk,rfl⟩:=XaG.1 q
   exact⟨n,k,by omega,Xaz.1 hk,rfl⟩
theorem ZJf {m:Zp} {r:ZI} (ho:Zdo m r) {i j:Nat} (hi:i<r.2.1.length) (hj:j<r.2.1.length) (h:(r.2.1.getD i 0).toNat=(r.2.1.getD j 0).toNat):i=j:=by
 have h1:=(ho.vars i hi).1
 have h2:=(ho.vars j hj).1
 have e:r.2.1.getD i 0=r.2.1.getD j 0:=by omega
 rw[Xaa,Xaa,Xac hi,Xac hj]at e
 exact(List.getElem_inj ho.nodup).1 e
theorem ZPG {m:Zp} {r:ZI} (hm:Zz m=true) (ho:Zdo m r) {i k:Nat} (hi:i<r.2.1.length) (hk:k<Zd8 m (r.2.1.getD i 0).toNat):∀t∈Zhp m r i++ZrB m (r.2.1.getD i 0).toNat (r.2.2.1.getD i 0) k,0<t.2∧t.2.toNat≠(ZbL m (r.2.1.getD i 0).toNat k).toNat:=fun t ht=>by
 have hv:=(ho.vars i hi).2
 have hk':=(ZfK hm hv).1 hk
 have r1:=Zdf hm hv hk'
 rcases List.mem_append.1 ht with q|q
 ·obtain⟨i',k',h1,h2,h3⟩:=ZC1 i q
  have hv':=(ho.vars i' (by omega)).2
  have h2':=(ZfK hm hv').1 h2
  have r2:=Zdf hm hv' h2'
  rw[h3]
  refine⟨by omega,fun e=>?_⟩
  have:=(ZxY hm hv' h2' hv hk' (by omega)).1
  have:=ZJf ho (by omega) hi this
  omega
 ·obtain⟨k',h1,rfl⟩:=XaG.1 q
  have h1:=Xaz.1 h1
  have h2':=(ZfK hm hv).1 (show k'<Zd8 m (r.2.1.getD i 0).toNat by omega)
  have r2:=Zdf hm hv h2'
  dsimp only
  refine⟨by omega,fun e=>?_⟩
  have:=(ZxY hm hv h2' hv hk' (by omega)).2
  omega
theorem ZOT {m:Zp} {r:ZI} (hm:Zz m=true) (ho:Zdo m r) {b:Int} {i k:Nat} (hi:i<r.2.1.length) (hk:k<Zd8 m (r.2.1.getD i 0).toNat) :
  (Zcx (Zhp m r i++ZrB m (r.2.1.getD i 0).toNat (r.2.2.1.getD i 0) (k+1)) b).2=(Zcx (Zhp m r i++ZrB m (r.2.1.getD i 0).toNat (r.2.2.1.getD i 0) k) b).2.set (ZbL m (r.2.1.getD i 0).toNat k).toNat (r.2.2.1.getD i 0*(k:Int)):=by
 have hn:=ZPG hm ho hi hk
 have hv:=(ho.vars i hi).2
 have r1:=Zdf hm hv ((ZfK hm hv).1 hk)
 have h0:=ZI0 (b:=b) _ (b,List.replicate 13 0) hn
 rw[ZHM]at h0
 rw[ZOF,←XaJ]
 unfold Zcx
 rw[Xba]
 show (Zmq _ (r.2.2.1.getD i 0*(k:Int),ZbL m (r.2.1.getD i 0).toNat k)).2=_
 rw[ZCH (show 0<ZbL m (r.2.1.getD i 0).toNat k by omega)]
 dsimp only
 rw[h0,Int.zero_add]
theorem ZKA {m:Zp} {r:ZI} (hm:Zz m=true) (ho:Zdo m r) (k1:r.1=1):ZpA m r=some [Ztt m r]:=by
 obtain⟨l1,l2,l3,l4⟩:=ho.lin k1
 have h5:=Zil hm ho
 obtain⟨c1,c2⟩:=Zve hm ho k1 r.2.1.length (Nat.le_refl _)
 have hpos:∀t∈Zhp m r r.2.1.length,0<t.2:=fun t ht=>by
  obtain⟨i,k,h1,h2,h3⟩:=ZC1 _ ht
  have hv:=(ho.vars i h1).2
  have:=Zdf hm hv ((ZfK hm hv).1 h2)
  omega
 have hfin:ZlR r (Zcx (Zhp m r r.2.1.length) r.2.2.2.1).2=some [Ztt m r]:=by
  obtain⟨n1,_,n3⟩:=Zug (b:=r.2.2.2.1) c2 (Zhp m r r.2.1.length).length (Nat.le_refl _)
  rw[XaB]at n1 n3
  unfold ZlR
  rw[Zvt n1 (fun j=>by have:=n3 j;omega) ⟨by omega,by omega⟩,Ze]
  unfold Ztt Zlt
  have e:(Zcx (Zhp m r r.2.1.length) r.2.2.2.1).1=r.2.2.2.1:=ZK2 _ _ hpos
  rw[e]
  generalize Zcw _ _=q
  rfl
 unfold ZpA
 rw[Zb ⟨by omega,by simp only[Zl];omega,rfl⟩]
 refine ZL (fun s:Int×List Int=>∃i:Nat,s.1=i∧i≤r.2.1.length∧s.2=(Zcx (Zhp m r i) r.2.2.2.1).2) (fun s=>r.2.1.length - s.1.toNat) (fun _=>[Ztt m r]) ?_ _ ⟨0,rfl,Nat.zero_le _,rfl⟩
 rintro⟨s,net⟩ ⟨i,hi1,hi,ho'⟩
 dsimp only at hi1 ho'
 subst hi1
 unfold Zp3
 dsimp only
 rcases Xag i r.2.1.length with q|q
 ·left
  obtain⟨⟨a0,a1⟩,a2,a3,_⟩:=Zoi hm ho q
  have hc:=l2 i
  rw[Zd (by omega)]
  have hl:loop (ZlS m r i) ((0:Int),net)=some (Sum.inl ((i:Int)+1,(Zcx (Zhp m r (i+1)) r.2.2.2.1).2):(Int×List Int)⊕(List Z9)):=by
   refine ZL (fun s:Int×List Int=>∃k:Nat,s.1=k∧k≤Zd8 m (r.2.1.getD i 0).toNat∧s.2.length=13∧s.2=(Zcx (Zhp m r i++ZrB m (r.2.1.getD i 0).toNat (r.2.2.1.getD i 0) k) r.2.2.2.1).2) (fun s=>Zd8 m (r.2.1.getD i 0).toNat - s.1.toNat) (fun _=>_) ?_ _ ⟨0,rfl,Nat.zero_le _,?_,?_⟩
   ·rintro⟨s,net2⟩ ⟨k,hk1,hk,hlen,hnet⟩
    dsimp only at hk1 hlen hnet
    subst hk1
    unfold ZlS
    dsimp only
    rw[Zb ⟨by omega,by omega⟩,Xab,Zb ⟨by omega,by omega⟩]
    rcases Xag k (Zd8 m (r.2.1.getD i 0).toNat)with q2|q2
    ·left
     have hb:=ZEa (a:=r.2.2.1.getD i 0) (k:=k) hc ⟨by omega,by omega⟩
     have eb:=Zi8 hm a1 (k:=k) (by omega)
     rw[show (((r.2.1.getD i 0).toNat:Nat):Int)=r.2.1.getD i 0 by omega]at eb
     have rm:=Zdf hm a1 ((ZfK hm a1).1 q2)
     have ev:(1:Int)+k+ZN m (r.2.1.getD i 0).toNat=ZbL m (r.2.1.getD i 0).toNat k:=rfl
     rw[ev]at eb
     rw[Zd (by omega),Zb ⟨by omega,by omega⟩,eb,Ze,Zb ⟨by omega,by omega⟩,Zf (by omega) (by omega),Zb ⟨by omega,by omega⟩,Zf (by omega) (by omega)]
     exact⟨_,rfl,⟨k+1,by simp,by omega,by dsimp only;rw[Xam];exact hlen,by dsimp only;rw[hnet,ZOT hm ho q q2]⟩,by (try dsimp only)<;>omega,rfl⟩
    ·right
     have:k=Zd8 m (r.2.1.getD i 0).toNat:=by omega
     subst this
     rw[Zc (by omega),Zf (by omega) (by omega),hnet]
     rfl
   ·obtain⟨c1,c2⟩:=Zve hm ho k1 i hi
    have:=(Zug (b:=r.2.2.2.1) c2 (Zhp m r i).length (Nat.le_refl _)).1
    rw[XaB]at this
    dsimp only
    rw[ho',this]
   ·dsimp only
    rw[ho']
    show _=(Zcx (Zhp m r i++[]) r.2.2.2.1).2
    rw[Xau]
  rw[hl]
  exact⟨_,rfl,⟨i+1,by simp,by omega,rfl⟩,by (try dsimp only)<;>omega,rfl⟩
 ·right
  have:i=r.2.1.length:=by omega
  subst this
  rw[Zc (by omega),ho',hfin]
  rfl
end Go.AE.Y
namespace Go.AE.Y
open Go Go.AE
set_option maxHeartbeats 400000
theorem ZD7 {β R:Type} {f:Int×List β→Option ((Int×List β)⊕R)} (n:Nat) (p:Nat→Bool) (g:Nat→β) (fin:R)
  (h:∀(i:Nat) (out:List β),i<n→out.length≤n→f ((i:Int),out)=some (.inl ((i:Int)+1,bif p i then out++[g i]else out)))
  (hn:f ((n:Int),((List.range n).filter p).map g)=some (.inr fin)):loop f ((0:Int),[])=some fin:=by
 refine ZL (fun s:Int×List β=>∃i:Nat,s.1=i∧i≤n∧s.2=((List.range i).filter p).map g) (fun s=>n - s.1.toNat) (fun _=>fin) ?_ _ ⟨0,rfl,Nat.zero_le _,rfl⟩
 rintro⟨i,out⟩ ⟨j,hj,hl,ho⟩
 dsimp only at hj ho
 subst hj
 rcases Xag j n with q|q
 ·left
  have hlen:out.length≤n:=by
   rw[ho,Xap]
   have:=XbK p (List.range j)
   rw[XaK]at this
   omega
  rw[h j out q hlen]
  refine⟨_,rfl,⟨j+1,by simp,by omega,?_⟩,by (try dsimp only)<;>omega,rfl⟩
  dsimp only
  rw[Xbz,List.filter_append,Xa3,ho]
  cases hp:p j with
  |true=>rw[ctt,Xa5 hp];rfl
  |false=>rw[cff,Xa4 (by rw[hp];decide)];exact(Xau _).symm
 ·right
  have:j=n:=by omega
  rw[ho,this]
  exact hn
theorem ZKR {α β:Type} (l:List α) (d:α) (p:α→Bool) (g:α→β):(l.filter p).map g=((List.range l.length).filter (fun i=>p (l.getD i d))).map (fun i=>g (l.getD i d)):=by
 have e:(List.range l.length).map (fun i=>l.getD i d)=l:=by
  refine XbP (by rw[Xap,XaK]) (fun i h1 h2=>?_)
  rw[Xb2,List.getElem_range,Xaa,Xac h2]
  rfl
 have:=List.filter_map (f:=fun i=>l.getD i d) (p:=p) (l:=List.range l.length)
 rw[e]at this
 rw[this,XbZ]
 rfl
theorem ZHt {l l':List Int} (h:l.Pairwise (· ≤ ·)) (h':l'.Pairwise (· ≤ ·)) (hp:l.Perm l'):l=l':=
 List.Perm.eq_of_pairwise (le:=fun x y=>x≤y) (fun _ _ _ _ h1 h2=>Int.le_antisymm h1 h2) h h' hp
theorem ZGN (l:List Int):(Zoj l).Pairwise (· ≤ ·):=ZJn l (fun x=>x)
theorem Zok (l:List Int):(Zoj l).Perm l:=List.mergeSort_perm l _
theorem ZO4 {l:List Int} (h:l.length≤4000000000):ZHN l=some (Zoj l):=if_pos h
theorem ZNK {l:List Int} {k:Nat} (h:k+1<l.length):((l.set (k+1) (l.getD k 0)).set k (l.getD (k+1) 0)).Perm l:=by
 have:=List.set_set_perm (i:=k+1) (j:=k) h (show k<l.length by omega)
 rw[Xaa,Xaa,Xac h,Xac (show k<l.length by omega)]
 exact this
theorem ZPV {l:List Int} (h:∀a b,a<b→b<l.length→l.getD a 0≤l.getD b 0):l.Pairwise (· ≤ ·):=by
 rw[XaX]
 intro i j hi hj hij
 have:=h i j hij hj
 rwa [Xaa,Xaa,Xac hi,Xac hj]at this
theorem ZFO {l:List Int} (hn:l.length≤1000) {i:Nat} (hi:i<l.length) {o:List Int} (hp:o.Perm l) (hs:∀a b,a<b→b<i→o.getD a 0≤o.getD b 0) :
  ∃r:(Int×List Int)⊕List Int,loop (ZlU i) ((i:Int),o)=some r∧∃o':List Int,r=Sum.inl ((i:Int)+1,o')∧o'.Perm l∧∀a b,a<b→b<i+1→o'.getD a 0≤o'.getD b 0:=by
 refine ZbX (fun s:Int×List Int=>∃k:Nat,s.1=k∧k≤i∧s.2.Perm l∧∀a b,a<b→b≤i→b≠k→s.2.getD a 0≤s.2.getD b 0) (fun s=>s.1.toNat) (fun r:(Int×List Int)⊕List Int=>∃o':List Int,r=Sum.inl ((i:Int)+1,o')∧o'.Perm l∧∀a b,a<b→b<i+1→o'.getD a 0≤o'.getD b 0) ?_ _ ⟨i,rfl,Nat.le_refl _,hp,fun a b h1 h2 h3=>hs a b h1 (by omega)⟩
 rintro⟨s,o⟩ ⟨k,hk1,hk,hp,hs⟩
 dsimp only at hk1 hp hs
 subst hk1
 have hl:=hp.length_eq
 unfold ZlU
 dsimp only
 cases k with
 |zero=>
  right
  rw[Zc (by omega),Zf (by omega) (by omega)]
  exact⟨_,rfl,o,rfl,hp,fun a b h1 h2=>hs a b h1 (by omega) (by omega)⟩
 |succ k=>
  rw[Zd (by omega),Zb ⟨by omega,by omega⟩,Zf (by omega) (by omega),Zb ⟨by omega,by omega⟩,show (((k+1:Nat):Int) - 1).toNat=k by omega,Xab]
  by_cases q:o.getD (k+1) 0<o.getD k 0
  ·left
   rw[Zd q,Zb ⟨by omega,by omega⟩,Zf (by omega) (by omega),Zb ⟨by omega,by omega⟩,Zb ⟨by omega,by omega⟩,Zf (by omega) (by omega),Zb ⟨by omega,by rw[Xam];omega⟩,Zf (by omega) (by omega)]
   have hget:∀j,((o.set (k+1) (o.getD k 0)).set k (o.getD (k+1) 0)).getD j 0=if j=k then o.getD (k+1) 0 else if j=k+1 then o.getD k 0 else o.getD j 0:=fun j=>by
    by_cases e:j=k
    ·rw[if_pos e,e,ZbE (by rw[Xam];omega)]
    ·rw[if_neg e,ZO (by omega)]
     by_cases e2:j=k+1
     ·rw[if_pos e2,e2,ZbE (by omega)]
     ·rw[if_neg e2,ZO (by omega)]
   refine⟨_,rfl,⟨k,by omega,by omega,(ZNK (by omega)).trans hp,fun a b h1 h2 h3=>?_⟩,by dsimp only;omega⟩
   dsimp only
   rw[hget a,hget b,if_neg h3]
   by_cases eb:b=k+1
   ·rw[if_pos eb]
    by_cases ea:a=k
    ·rw[if_pos ea];omega
    ·rw[if_neg ea,if_neg (by omega)]
     exact hs a k (by omega) (by omega) (by omega)
   ·rw[if_neg eb]
    by_cases ea:a=k
    ·rw[if_pos ea]
     exact hs (k+1) b (by omega) h2 eb
    ·rw[if_neg ea]
     by_cases ea2:a=k+1
     ·rw[if_pos ea2]
      exact hs k b (by omega) h2 eb
     ·rw[if_neg ea2]
      exact hs a b h1 h2 eb
  ·right
   rw[Zc q,Zf (by omega) (by omega)]
   refine⟨_,rfl,o,rfl,hp,fun a b h1 h2=>?_⟩
   by_cases e:b=k+1
   ·subst e
    by_cases e2:a=k
    ·rw[e2];omega
    ·have:=hs a k (by omega) (by omega) (by omega)
     omega
   ·exact hs a b h1 (by omega) e
theorem ZDi {l:List Int} (hn:l.length≤1000):ZpB l=some (Zoj l):=by
 unfold ZpB
 rw[Zb (by simp only[Zl,Xal];omega),Xao]
 have:=ZbX (f:=ZlT) (fun s:Int×List Int=>∃i:Nat,s.1=i∧i≤l.length∧s.2.Perm l∧∀a b,a<b→b<i→s.2.getD a 0≤s.2.getD b 0) (fun s=>l.length - s.1.toNat) (fun r=>r=Zoj l) ?_ ((0:Int),l) ⟨0,rfl,Nat.zero_le _,List.Perm.refl _,fun a b h1 h2=>by omega⟩
 ·obtain⟨r,e,h⟩:=this
  rw[e,h]
 rintro⟨s,o⟩ ⟨i,hi1,hi,hp,hs⟩
 dsimp only at hi1 hp hs
 subst hi1
 have hl:=hp.length_eq
 unfold ZlT
 dsimp only
 rcases Xag i l.length with q|q
 ·left
  obtain⟨r,e,o',e2,h3,h4⟩:=ZFO hn q hp hs
  rw[Zd (by omega),e,e2]
  exact⟨_,rfl,⟨i+1,by simp,by omega,h3,h4⟩,by dsimp only;omega⟩
 ·right
  rw[Zc (by omega)]
  refine⟨_,rfl,?_⟩
  exact ZHt (ZPV (fun a b h1 h2=>hs a b h1 (by omega))) (ZGN l) (hp.trans (Zok l).symm)
theorem Zyq {m:Zp} {r:ZI} (hm:Zz m=true) (ho:Zdo m r) (k:Nat):(∀y∈Zet m r k,1≤y∧y≤12)∧(Zet m r k).length≤5:=by
 refine⟨fun y hy=>?_,?_⟩
 ·obtain⟨c,c1,c2,rfl⟩:=(ZpO hm ho).2 y hy
  have:=Zdf hm (Zmn ho c1).2 c2
  omega
 ·unfold Zet
  rw[Xap]
  have:=XbK (fun c:Int=>decide ((k:Int)≤m.1.getD c.toNat 0)) r.2.1
  have:=Zil hm ho
  omega
def Zlh (m:Zp) (r:ZI) (k:Nat):Zx:=if 1<(Zet m r k).length then[Zkb (Zoj (Zet m r k))]else[]
theorem ZIm {m:Zp} {r:ZI} (hm:Zz m=true) (ho:Zdo m r) (k:Nat):(∀x∈Zoj (Zet m r k),-1000≤x∧x≤1000)∧(Zoj (Zet m r k)).length≤1000:=by
 obtain⟨h1,h2⟩:=Zyq hm ho k
 refine⟨fun x hx=>?_,?_⟩
 ·have:=h1 x ((Zok _).mem_iff.1 hx)
  omega
 ·rw[(Zok _).length_eq];omega
theorem Zyp (m:Zp) (r:ZI) (k:Nat):(List.range (k+1)).flatMap (Zlh m r)=(List.range k).flatMap (Zlh m r)++Zlh m r k:=by
 rw[Xbz,List.flatMap_append,List.flatMap_cons,XbR,Xau]
theorem Zwr (m:Zp) (r:ZI):∀k,((List.range k).flatMap (Zlh m r)).length≤k
 |0=>Nat.le_refl _
 |k+1=>by
  have:=Zwr m r k
  have h2:(Zlh m r k).length≤1:=by
   unfold Zlh
   split
   ·exact Nat.le_refl _
   ·exact Nat.zero_le _
  rw[Zyp,Xan]
  omega
theorem ZIC {m:Zp} {r:ZI} (hm:Zz m=true) (ho:Zdo m r) (k2:r.1=2):Zb7 m r=some (Zt2 m r):=by
 have h5:=Zil hm ho
 unfold Zb7
 rw[Zo (by omega),Zu k2]
 refine ZL (fun s:Int×Zx=>∃k:Nat,s.1=k∧k≤4∧s.2=(List.range k).flatMap (Zlh m r)) (fun s=>4 - s.1.toNat) (fun _=>Zt2 m r) ?_ _ ⟨0,rfl,by omega,rfl⟩
 rintro⟨s,out⟩ ⟨k,hk1,hk,hout⟩
 dsimp only at hk1 hout
 subst hk1
 have hol:out.length≤k:=by rw[hout];exact Zwr m r k
 unfold ZhZ
 dsimp only
 rcases Xag k 4 with q|q
 ·left
  have hin:=Zyq hm ho k
  obtain⟨d1,d2⟩:=ZIm hm ho k
  have hj:Zd3 k out (Zet m r k)=some (Sum.inl ((k:Int)+1,(List.range (k+1)).flatMap (Zlh m r))):=by
   unfold Zd3
   rw[Zyp,←hout]
   unfold Zlh
   by_cases q2:1<(Zet m r k).length
   ·rw[if_pos q2,Zd (by omega),ZO4 (by omega),Ze,ZtO d2 d1,Ze,Zb (by simp only[Zl,Xak,Xal];omega),Zf (by omega) (by omega)]
   ·rw[if_neg q2,Zc (by omega),Zf (by omega) (by omega),Xau]
  have hl:loop (Zd5 m r k out) ((0:Int),[])=some (Sum.inl ((k:Int)+1,(List.range (k+1)).flatMap (Zlh m r)):(Int×Zx)⊕Zx):=by
   refine ZD7 r.2.1.length (fun i=>decide ((k:Int)≤m.1.getD (r.2.1.getD i 0).toNat 0)) (fun i=>ZbL m (r.2.1.getD i 0).toNat k) _ (fun i o hi ho2=>?_) ?_
   ·obtain⟨⟨a0,a1⟩,a2,a3,_⟩:=Zoi hm ho hi
    have eb:=Zjp hm a1 (k:=k) (by omega)
    rw[show (((r.2.1.getD i 0).toNat:Nat):Int)=r.2.1.getD i 0 by omega,show (1:Int)+k+ZN m (r.2.1.getD i 0).toNat=ZbL m (r.2.1.getD i 0).toNat k from rfl]at eb
    unfold Zd5
    dsimp only
    rw[Zd (by omega),Zb ⟨by omega,by omega⟩,Xab,Zb ⟨by omega,by omega⟩]
    by_cases q3:(k:Int)≤m.1.getD (r.2.1.getD i 0).toNat 0
    ·rw[Zd q3,eb,Ze,Zb (by simp only[Zl,Xak,Xal];omega),Zf (by omega) (by omega),Xad q3]
     rfl
    ·rw[Zc q3,Zf (by omega) (by omega),decide_eq_false q3]
     rfl
   ·have e:=ZKR r.2.1 0 (fun c=>decide ((k:Int)≤m.1.getD c.toNat 0)) (fun c=>ZbL m c.toNat k)
    rw[←e]
    unfold Zd5
    dsimp only
    rw[Zc (by omega)]
    show up (Zd3 k out (Zet m r k))=_
    rw[hj]
    rfl
  rw[Zd (by omega),hl]
  exact⟨_,rfl,⟨k+1,by simp,by omega,rfl⟩,by (try dsimp only)<;>omega,rfl⟩
 ·right
  have:k=4:=by omega
  rw[Zc (by omega),hout,this]
  rfl
theorem ZJr {m:Zp} {r:ZI} (hm:Zz m=true) (ho:Zdo m r):ZlO m r=some (Zt2 m r):=by
 have h5:=Zil hm ho
 unfold ZlO
 refine ZL (fun s:Int×Zx=>∃k:Nat,s.1=k∧k≤4∧s.2=(List.range k).flatMap (Zlh m r)) (fun s=>4 - s.1.toNat) (fun _=>Zt2 m r) ?_ _ ⟨0,rfl,by omega,rfl⟩
 rintro⟨s,out⟩ ⟨k,hk1,hk,hout⟩
 dsimp only at hk1 hout
 subst hk1
 have hol:out.length≤k:=by rw[hout];exact Zwr m r k
 unfold ZmN
 dsimp only
 rcases Xag k 4 with q|q
 ·left
  have hin:=Zyq hm ho k
  obtain⟨d1,d2⟩:=ZIm hm ho k
  have hj:ZfN k out (Zet m r k)=some (Sum.inl ((k:Int)+1,(List.range (k+1)).flatMap (Zlh m r))):=by
   unfold ZfN
   rw[Zyp,←hout]
   unfold Zlh
   by_cases q2:1<(Zet m r k).length
   ·rw[if_pos q2,Zd (by omega),ZDi (by omega),Ze,ZxX d2 d1,Ze,Zb (by simp only[Zl,Xak,Xal];omega),Zf (by omega) (by omega)]
   ·rw[if_neg q2,Zc (by omega),Zf (by omega) (by omega),Xau]
  have hl:loop (ZfO m r k out) ((0:Int),[])=some (Sum.inl ((k:Int)+1,(List.range (k+1)).flatMap (Zlh m r)):(Int×Zx)⊕Zx):=by
   refine ZD7 r.2.1.length (fun i=>decide ((k:Int)≤m.1.getD (r.2.1.getD i 0).toNat 0)) (fun i=>ZbL m (r.2.1.getD i 0).toNat k) _ (fun i o hi ho2=>?_) ?_
   ·obtain⟨⟨a0,a1⟩,a2,a3,_⟩:=Zoi hm ho hi
    have eb:=Zi8 hm a1 (k:=k) (by omega)
    rw[show (((r.2.1.getD i 0).toNat:Nat):Int)=r.2.1.getD i 0 by omega,show (1:Int)+k+ZN m (r.2.1.getD i 0).toNat=ZbL m (r.2.1.getD i 0).toNat k from rfl]at eb
    unfold ZfO
    dsimp only
    rw[Zd (by omega),Zb ⟨by omega,by omega⟩,Xab,Zb ⟨by omega,by omega⟩]
    by_cases q3:(k:Int)≤m.1.getD (r.2.1.getD i 0).toNat 0
    ·rw[Zd q3,Zb ⟨by omega,by omega⟩,eb,Ze,Zb (by simp only[Zl,Xak,Xal];omega),Zf (by omega) (by omega),Xad q3]
     rfl
    ·rw[Zc q3,Zf (by omega) (by omega),decide_eq_false q3]
     rfl
   ·have e:=ZKR r.2.1 0 (fun c=>decide ((k:Int)≤m.1.getD c.toNat 0)) (fun c=>ZbL m c.toNat k)
    rw[←e]
    unfold ZfO
    dsimp only
    rw[Zc (by omega)]
    show up (ZfN k out (Zet m r k))=_
    rw[hj]
    rfl
  rw[Zd (by omega),hl]
  exact⟨_,rfl,⟨k+1,by simp,by omega,rfl⟩,by (try dsimp only)<;>omega,rfl⟩
 ·right
  have:k=4:=by omega
  rw[Zc (by omega),hout,this]
  rfl
end Go.AE.Y
namespace Go.AE.Y
open Go Go.AE
set_option maxHeartbeats 400000
structure Zyg (m:Zp) (r:ZI) (vals:List Int) (i:Nat) (x:List Int):Prop where
 len:x.length=m.1.length
 dig:∀j,j<m.1.length→0≤x.getD j 0∧x.getD j 0≤m.1.getD j 0
 same:∀j,j<i→x.getD (r.2.1.getD j 0).toNat 0=vals.getD j 0
theorem ZGA {m:Zp} (hm:Zz m=true) (r:ZI) (vals:List Int):Zyg m r vals 0 (List.replicate m.1.length 0):=by
 have h:=Zcp (Zos hm)
 exact⟨h.1,fun j hj=>h.2 j (by rw[h.1];exact hj),fun j hj=>absurd hj (Nat.not_lt_zero _)⟩
theorem ZGz {m:Zp} {r:ZI} {vals x:List Int} (ho:Zdo m r) (hv:∀i,i<r.2.1.length→0≤vals.getD i 0∧vals.getD i 0≤m.1.getD (r.2.1.getD i 0).toNat 0) {i:Nat} (hi:i<r.2.1.length) (h:Zyg m r vals i x):Zyg m r vals (i+1) (x.set (r.2.1.getD i 0).toNat (vals.getD i 0)):=by
 have hc:=(ho.vars i hi).2
 refine⟨by rw[Xam];exact h.len,fun j hj=>?_,fun j hj=>?_⟩
 ·by_cases e:j=(r.2.1.getD i 0).toNat
  ·rw[e,ZbE (by rw[h.len];exact hc)]
   exact hv i hi
  ·rw[ZO (by omega)]
   exact h.dig j hj
 ·by_cases e:j=i
  ·rw[e,ZbE (by rw[h.len];exact hc)]
  ·rw[ZO (fun q=>e (ZJf ho (by omega) hi q.symm))]
   exact h.same j (by omega)
theorem ZGy {m:Zp} {r:ZI} {vals x:List Int} (hl:vals.length=r.2.1.length) (h:Zyg m r vals r.2.1.length x):ZE m x=true∧ZbQ r.2.1 x=vals:=by
 refine⟨?_,Zwu (by unfold ZbQ;rw[Xap,hl]) (fun i hi=>?_)⟩
 ·unfold ZE cellAt
  simp only[Xaf,Xah,Xar,Xaz]
  exact⟨h.len,fun i hi=>h.dig i (by have:=h.len;omega)⟩
 ·have hi':i<r.2.1.length:=by unfold ZbQ at hi;rwa [Xap]at hi
  rw[Zvl hi']
  exact h.same i hi'
theorem ZKV {m:Zp} {r:ZI} {vals:List Int} (hm:Zz m=true) (ho:Zdo m r) (hv:∀i,i<r.2.1.length→0≤vals.getD i 0∧vals.getD i 0≤m.1.getD (r.2.1.getD i 0).toNat 0):∀i,i≤r.2.1.length→∃x,Zyg m r vals i x
 |0,_=>⟨_,ZGA hm r vals⟩
 |i+1,hi=>by
  obtain⟨x,hx⟩:=ZKV hm ho hv i (by omega)
  exact⟨_,ZGz ho hv (by omega) hx⟩
theorem ZwE (m:Zp) (r:ZI) (vals:List Int):(Zm0 m r vals).length=r.2.1.length:=by
 unfold Zm0
 rw[Xap,XaK]
def ZDQ (m:Zp) (r:ZI) (l:List (List Int)):Zx:=(l.filter (fun vals=>!holdsB r vals)).map (fun vals=>Zj4 (Zm0 m r vals))
def Zhz (m:Zp) (r:ZI) (vals:List Int):Zx:=bif holdsB r vals then[]else[Zj4 (Zm0 m r vals)]
theorem Zt4 (m:Zp) (r:ZI) (v:List Int) (l:List (List Int)):ZDQ m r (v::l)=Zhz m r v++ZDQ m r l:=by
 unfold ZDQ Zhz
 cases h:holdsB r v with
 |true=>rw[Xa4 (by rw[h];decide),ctt,Xao]
 |false=>rw[Xa5 (by rw[h];rfl),cff];rfl
theorem ZCT {m:Zp} {r:ZI} (hm:Zz m=true) (hs:Zff r) (hr:r∈m.2) {vals:List Int} (hv:ZE (smM m r) vals=true) {out:Zx} (hout:out.length≤100000) :
  ZdV r m vals out=some (true,out++Zhz m r vals):=by
 have ho:=ZrT hm hr
 have h5:=Zil hm ho
 obtain⟨l1,l2⟩:=ZyI hm ho hv
 have hvl:vals.length=r.2.1.length:=by
  have:=(Zcp hv).1
  unfold smM at this
  rwa [Xap]at this
 obtain⟨x,hx⟩:=ZKV hm ho l2 r.2.1.length (Nat.le_refl _)
 obtain⟨x1,x2⟩:=ZGy hvl hx
 have hrb:=Zuf hm r hr
 have hok:=ZC9 hm hs x1 hrb
 rw[x2]at hok
 unfold ZdV Zhz
 rw[ZsW hs (ZyV hrb).2.2 hok,Ze]
 cases holdsB r vals with
 |true=>rw[cnt,ctt,Xau]
 |false=>
  rw[cnf,cff]
  have hfin:Zcq out (Zm0 m r vals)=some (true,out++[Zj4 (Zm0 m r vals)]):=by
   unfold Zcq
   rw[Zlj _ (by rw[ZwE];omega),Ze,Zwq l1 (by rw[ZwE];omega),Zb (by simp only[Zl,Xak,Xal];omega)]
  have:=Zbi (f:=Zcr r m vals out) (List.range r.2.1.length) 0 (fun i=>0 - ZbL m (r.2.1.getD i 0).toNat (vals.getD i 0).toNat) [] (fun _=>(true,out++[Zj4 (Zm0 m r vals)])) (fun i o hi ho2=>?_) ?_
  ·exact this
  ·rw[XaK]at hi
   have ho2:o.length=i:=by rw[ho2];simp
   obtain⟨⟨a0,a1⟩,a2,a3,_⟩:=Zoi hm ho hi
   have hvi:=l2 i hi
   have eb:=Zjp hm a1 (k:=(vals.getD i 0).toNat) (by omega)
   rw[show (((r.2.1.getD i 0).toNat:Nat):Int)=r.2.1.getD i 0 by omega,show (1:Int)+((vals.getD i 0).toNat:Nat)+ZN m (r.2.1.getD i 0).toNat=ZbL m (r.2.1.getD i 0).toNat (vals.getD i 0).toNat from rfl,show (((vals.getD i 0).toNat:Nat):Int)=vals.getD i 0 by omega]at eb
   have rm:=Zdf hm a1 (k:=(vals.getD i 0).toNat) (by omega)
   unfold Zcr
   dsimp only
   rw[Zd (by omega),Zb ⟨by omega,by omega⟩,Zb ⟨by omega,by omega⟩,Xab,eb,Ze,Zf (by omega) (by omega),Zb (by simp only[Zl,Xak,Xal];omega),Zf (by omega) (by omega),Zvm hi]
  ·rw[XaK,Xao]
   unfold Zcr
   dsimp only
   rw[Zc (by omega)]
   show up (Zcq out (Zm0 m r vals))=_
   rw[hfin]
   rfl
theorem ZLb (m:Zp) (r:ZI):(smM m r).1.length=r.2.1.length:=Xap ..
theorem ZID {m:Zp} {r:ZI} (hm:Zz m=true) (hs:Zff r) (hr:r∈m.2) (h1:r.1≠1) (h2:r.1≠2):Zb7 m r=some (ZqS m r):=by
 have ho:=ZrT hm hr
 have h5:=Zil hm ho
 have hsm:=ZEp hm ho
 have hz:ZE (smM m r) (Zni (smM m r))=true:=Zos hsm
 have hlen:=ZLb m r
 have hfin:Zd4 m r (smM m r).1=some (ZqS m r):=by
  unfold Zd4
  rw[Zb ⟨by omega,by simp only[Zl];omega,rfl⟩,Xab]
  have key:Zck (smM m r).1 (List.replicate (smM m r).1.length 0) r m=some (ZqS m r):=by
   unfold Zck
   rw[Zwl (by rw[Xaw];omega),Ze]
   refine(ZL (f:=Zb3 (smM m r).1 r m) (fun s:List Int×Zx=>ZE (smM m r) s.1=true∧s.2.length+muF s.1≤2000) (fun s=>muF s.1) (fun s=>s.2++ZDQ m r (ZqC (smM m r) s.1)) ?_ _ ⟨hz,by unfold muF;simp;omega⟩).trans (by rw[Xao];rfl)
   rintro⟨x,out⟩ ⟨hx,hb⟩
   dsimp only at hx hb ⊢
   obtain⟨x1,x2⟩:=Zes hx
   have hp:=(Zq6 hsm hx).1
   have hst:(Zhz m r x).length≤1:=by
    unfold Zhz
    cases holdsB r x with
    |true=>exact Nat.zero_le _
    |false=>exact Nat.le_refl _
   unfold Zb3
   dsimp only
   rw[ZCT hm hs hr hx (by omega),Ze,ctt,Zf (by omega) (by omega),ZOV (X:=(List Int×Zx)⊕Zx) hsm hx (fun y=>.inl (y,out++Zhz m r x)) (.inr (out++Zhz m r x)) (f:=ZcW (smM m r).1 (true,out++Zhz m r x)) (g:=Zb2 (true,out++Zhz m r x)) (fun i y=>rfl) (fun i y=>rfl),ZCI hsm hx]
   cases hq:(Z8 (smM m r) x).1 with
   |true=>
    left
    have hmu:=Zqp hsm hx hq
    refine⟨_,rfl,⟨ZhM hx,by dsimp only;rw[Xan];omega⟩,hmu,?_⟩
    dsimp only
    rw[ctt,Zt4,XaJ]
   |false=>
    right
    rw[cff,cff,Zt4]
    show some (Sum.inr (out++Zhz m r x))=some (Sum.inr (out++(Zhz m r x++[])))
    rw[Xau]
  rw[key,Ze]
 unfold Zb7
 rw[Zo h1,Zo h2]
 have:=Zbi (f:=Zd6 m r) r.2.1 0 (fun c=>m.1.getD c.toNat 0) [] (fun _=>ZqS m r) (fun i o hi ho2=>?_) ?_
 ·exact this
 ·have ho2:o.length=i:=by rw[ho2];simp
  have hv:=ho.vars i hi
  unfold Zd6
  dsimp only
  rw[Zd (by omega),Zb ⟨by omega,by omega⟩,Xab,Zb ⟨by omega,by omega⟩,Zb (by simp only[Zl,Xak,Xal];omega),Zf (by omega) (by omega)]
 ·rw[Xao]
  unfold Zd6
  dsimp only
  rw[Zc (by omega)]
  show up (Zd4 m r (smM m r).1)=_
  rw[hfin]
  rfl
theorem ZJs {m:Zp} {r:ZI} (hm:Zz m=true) (hs:Zff r) (hr:r∈m.2):Zpz m r=some (ZqS m r):=by
 have ho:=ZrT hm hr
 have h5:=Zil hm ho
 have hsm:=ZEp hm ho
 have hz:ZE (smM m r) (Zni (smM m r))=true:=Zos hsm
 have hlen:=ZLb m r
 have hrb:=Zuf hm r hr
 obtain⟨m1,m2,m3⟩:=ZcG hm
 have hsame:(((smM m r).1,[]):Zp)=smM m r:=rfl
 have hfin:Zih m r (smM m r).1=some (ZqS m r):=by
  unfold Zih
  rw[Zb ⟨by omega,by simp only[Zl];omega,rfl⟩,Xab]
  refine(ZL (f:=ZlP m r (smM m r).1) (fun s:Bool×Zx×List Int=>ZE (smM m r) s.2.2=true∧(s.1=true→s.2.1.length+muF s.2.2≤2000)) (fun s=>bif s.1 then 1+muF s.2.2 else 0) (fun s=>s.2.1++bif s.1 then ZDQ m r (ZqC (smM m r) s.2.2)else[]) ?_ (true,[],List.replicate r.2.1.length 0) ⟨by rw[←hlen];exact hz,fun _=>by unfold muF;simp;omega⟩).trans (by rw[←hlen];rfl)
  rintro⟨go,out,x⟩ ⟨hx,hb⟩
  dsimp only at hx hb ⊢
  obtain⟨x1,x2⟩:=Zes hx
  have hvl:x.length=r.2.1.length:=by omega
  have hp:=(Zq6 hsm hx).1
  obtain⟨l1,l2⟩:=ZyI hm ho hx
  unfold ZlP
  dsimp only
  cases go with
  |false=>
   right
   rw[cff,cff,Xau]
  |true=>
   left
   have hb:=hb rfl
   have hnx:Zpg (smM m r) x=some (Z8 (smM m r) x):=ZFH hsm hx
   have hj3:∀o:Zx,Zij (smM m r).1 x o=some (Sum.inl ((Z8 (smM m r) x).1,o,(Z8 (smM m r) x).2)):=fun o=>by
    unfold Zij
    rw[hsame,hnx,Ze]
   have hj2:∀y,Zyg m r x r.2.1.length y→Zii r (smM m r).1 out x (y,Zm0 m r x)=some (Sum.inl ((Z8 (smM m r) x).1,out++Zhz m r x,(Z8 (smM m r) x).2)):=fun y hy=>by
    obtain⟨y1,y2⟩:=ZGy hvl hy
    unfold Zii Zhz
    dsimp only
    rw[ZwI hm hs y1 hrb,Ze,y2]
    cases holdsB r x with
    |true=>rw[cnt,ctt,Xau,hj3]
    |false=>rw[cnf,cff,ZlB _ (by rw[ZwE];omega),Ze,Zwq l1 (by rw[ZwE];omega),Zb (by simp only[Zl,Xak,Xal];omega),hj3]
   have hl:loop (ZlQ m r (smM m r).1 out x) ((0:Int),List.replicate m.1.length 0,[])=some (Sum.inl ((Z8 (smM m r) x).1,out++Zhz m r x,(Z8 (smM m r) x).2):(Bool×Zx×List Int)⊕Zx):=by
    refine ZL (fun s:Int×List Int×List Int=>∃i:Nat,s.1=i∧i≤r.2.1.length∧Zyg m r x i s.2.1∧s.2.2=(List.range i).map (fun i=>0 - ZbL m (r.2.1.getD i 0).toNat (x.getD i 0).toNat)) (fun s=>r.2.1.length - s.1.toNat) (fun _=>_) ?_ _ ⟨0,rfl,Nat.zero_le _,ZGA hm r x,rfl⟩
    rintro⟨s,y,lits⟩ ⟨i,hi1,hi,hy,hlits⟩
    dsimp only at hi1 hy hlits
    subst hi1
    have hll:lits.length=i:=by rw[hlits,Xap,XaK]
    unfold ZlQ
    dsimp only
    rcases Xag i r.2.1.length with q|q
    ·left
     obtain⟨⟨a0,a1⟩,a2,a3,_⟩:=Zoi hm ho q
     have hvi:=l2 i q
     have hyl:=hy.len
     have eb:=Zi8 hm a1 (k:=(x.getD i 0).toNat) (by omega)
     rw[show (((r.2.1.getD i 0).toNat:Nat):Int)=r.2.1.getD i 0 by omega,show (1:Int)+((x.getD i 0).toNat:Nat)+ZN m (r.2.1.getD i 0).toNat=ZbL m (r.2.1.getD i 0).toNat (x.getD i 0).toNat from rfl,show (((x.getD i 0).toNat:Nat):Int)=x.getD i 0 by omega]at eb
     have rm:=Zdf hm a1 (k:=(x.getD i 0).toNat) (by omega)
     rw[Zd (by omega),Zb ⟨by omega,by omega⟩,Zb ⟨by omega,by omega⟩,Xab,Zb ⟨by omega,by omega⟩]
     unfold Zp2
     rw[Zb ⟨by omega,by omega⟩,Zb ⟨by omega,by omega⟩,Xab,eb,Ze,Zf (by omega) (by omega),Zb (by simp only[Zl,Xak,Xal];omega),Zf (by omega) (by omega)]
     refine⟨_,rfl,⟨i+1,by simp,by omega,ZGz ho l2 q hy,?_⟩,by (try dsimp only)<;>omega,rfl⟩
     dsimp only
     rw[hlits,Xbz,Xa3]
     rfl
    ·right
     have:i=r.2.1.length:=by omega
     subst this
     rw[Zc (by omega),hlits]
     show up (Zii r (smM m r).1 out x (y,Zm0 m r x))=_
     rw[hj2 y hy]
     rfl
   rw[ctt,Zb ⟨by omega,by simp only[Zl];omega,rfl⟩,Xab,hl]
   have hst:(Zhz m r x).length≤1:=by
    unfold Zhz
    cases holdsB r x with
    |true=>exact Nat.zero_le _
    |false=>exact Nat.le_refl _
   have has:=ZCI hsm hx
   cases hq:(Z8 (smM m r) x).1 with
   |true=>
    have hmu:=Zqp hsm hx hq
    rw[hq,ctt]at has
    refine⟨_,rfl,⟨ZhM hx,fun _=>by dsimp only;rw[Xan];omega⟩,by show 1+muF (Z8 (smM m r) x).2<1+muF x;omega,?_⟩
    dsimp only
    rw[ctt,ctt,has,Zt4,XaJ]
   |false=>
    rw[hq,cff]at has
    refine⟨_,rfl,⟨ZhM hx,fun h=>by cases h⟩,by show 0<1+muF x;omega,?_⟩
    dsimp only
    rw[cff,ctt,has,Zt4,Xau]
    show out++Zhz m r x=out++(Zhz m r x++[])
    rw[Xau]
 unfold Zpz
 have:=Zbi (f:=Zik m r) r.2.1 0 (fun c=>m.1.getD c.toNat 0) [] (fun _=>ZqS m r) (fun i o hi ho2=>?_) ?_
 ·exact this
 ·have ho2:o.length=i:=by rw[ho2];simp
  have hv:=ho.vars i hi
  unfold Zik
  dsimp only
  rw[Zd (by omega),Zb ⟨by omega,by omega⟩,Xab,Zb ⟨by omega,by omega⟩,Zb (by simp only[Zl,Xak,Xal];omega),Zf (by omega) (by omega)]
 ·rw[Xao]
  unfold Zik
  dsimp only
  rw[Zc (by omega)]
  show up (Zih m r (smM m r).1)=_
  rw[hfin]
  rfl
end Go.AE.Y
namespace Go.AE.Y
open Go Go.AE
set_option maxHeartbeats 400000
theorem ZLa {m:Zp}:∀n x,(ZmH m n x).length≤n+1
 |0,_=>Nat.le_refl _
 |n+1,x=>by
  show (x::bif (Z8 m x).1 then ZmH m n (Z8 m x).2 else[]).length≤n+1+1
  rw[Xak]
  cases (Z8 m x).1 with
  |true=>have:=ZLa (m:=m) n (Z8 m x).2;rw[ctt];omega
  |false=>rw[cff];exact Nat.succ_le_succ (Nat.zero_le _)
theorem ZA5 {m:Zp} {r:ZI}:(Zpt m r).length≤1025:=by
 unfold Zpt
 split
 ·simp
 ·split
  ·have:=Zwr m r 4
   have e:Zt2 m r=(List.range 4).flatMap (Zlh m r):=rfl
   rw[e]
   omega
  ·unfold ZqS
   rw[Xap]
   have:=XbK (fun vals=>!holdsB r vals) (ZqC (smM m r) (Zni (smM m r)))
   have:=ZLa (m:=smM m r) 1024 (Zni (smM m r))
   unfold ZqC at *
   omega
theorem ZII {m:Zp} {r:ZI} (hm:Zz m=true) (hs:Zff r) (hr:r∈m.2):Zb7 m r=some (Zpt m r):=by
 have ho:=ZrT hm hr
 unfold Zpt
 by_cases k1:r.1=1
 ·rw[if_pos k1];exact ZKb hm ho k1
 ·rw[if_neg k1]
  by_cases k2:r.1=2
  ·rw[if_pos k2];exact ZIC hm ho k2
  ·rw[if_neg k2];exact ZID hm hs hr k1 k2
theorem ZJv {m:Zp} {r:ZI} (hm:Zz m=true) (hs:Zff r) (hr:r∈m.2):Zsd m r=some (Zpt m r):=by
 have ho:=ZrT hm hr
 unfold Zpt Zsd
 by_cases k1:r.1=1
 ·rw[if_pos k1,Zu k1,ZKA hm ho k1,Ze]
 ·rw[if_neg k1,Zo k1]
  by_cases k2:r.1=2
  ·rw[if_pos k2,Zu k2,ZJr hm ho,Ze]
  ·rw[if_neg k2,Zo k2,ZJs hm hs hr,Ze]
def Zpa (m:Zp) (n:Nat):Zx:=(List.range n).flatMap (Zn8 m)
def ZnQ (m:Zp) (n:Nat):Zx:=Zpa m m.1.length++(m.2.take n).flatMap (Zpt m)
theorem ZwX (m:Zp) (n:Nat):Zpa m (n+1)=Zpa m n++Zn8 m n:=by
 unfold Zpa
 rw[Xbz,List.flatMap_append,List.flatMap_cons,XbR,Xau]
theorem Zt0 (m:Zp):∀n,(Zpa m n).length=2*n
 |0=>rfl
 |n+1=>by
  rw[ZwX,Xan,Zt0 m n]
  show 2*n+2=_
  omega
theorem Zw7 {m:Zp} {n:Nat} (h:n<m.2.length):ZnQ m (n+1)=ZnQ m n++Zpt m (m.2.getD n (0,[],[],0,[])):=by
 unfold ZnQ
 rw[Zrm (0,[],[],0,[]) h,List.flatMap_append,List.flatMap_cons,XbR,Xau,XaJ]
theorem ZyW {m:Zp}:∀n,n≤m.2.length→(ZnQ m n).length≤2*m.1.length+1025*n
 |0,_=>by
  unfold ZnQ
  rw[XaS,XbR,Xau,Zt0]
  omega
 |n+1,h=>by
  have:=ZyW (m:=m) n (by omega)
  have:=ZA5 (m:=m) (r:=m.2.getD n (0,[],[],0,[]))
  rw[Zw7 (by omega),Xan]
  omega
theorem ZDN (m:Zp):ZbV m=ZnQ m m.2.length:=by
 unfold ZbV ZnQ Zpa
 rw[XaB]
theorem Zrr (m:Zp) (h:Zde m):Zlo m=some (ZCM m):=by
 unfold Zlo ZCM
 rw[Zgn m h,Ze]
 cases hm:Zz m with
 |false=>rw[cnf,Xae,cff]
 |true=>
  obtain⟨m1,m2,m3⟩:=ZcG hm
  rw[cnt,Xai]
  have h2:Ziq (ZbV m)=some (bif decide ((ZbV m).length≤400)then(true,ZbV m)else(false,[])):=by
   unfold Ziq
   by_cases q:(ZbV m).length≤400
   ·rw[Zc (by omega),Xad q,ctt]
   ·rw[Zd (by omega),decide_eq_false q,cff]
  have h1:Zip m (Zpa m m.1.length)=some (bif decide ((ZbV m).length≤400)then(true,ZbV m)else(false,[])):=by
   unfold Zip
   refine ZL (f:=Zir m) (fun s:Int×Zx=>∃i:Nat,s.1=i∧i≤m.2.length∧s.2=ZnQ m i) (fun s=>m.2.length - s.1.toNat) (fun _=>_) ?_ _ ⟨0,rfl,Nat.zero_le _,by unfold ZnQ;rw[XaS,XbR,Xau]⟩
   rintro⟨s,out⟩ ⟨i,hi1,hi,ho⟩
   dsimp only at hi1 ho
   subst hi1
   unfold Zir
   dsimp only
   rcases Xag i m.2.length with q|q
   ·left
    have hr:=ZF (l:=m.2) (i:=i) (d:=(0,[],[],0,[])) q
    have hl:=ZyW (m:=m) i hi
    have hl2:=ZA5 (m:=m) (r:=m.2.getD i (0,[],[],0,[]))
    rw[Zd (by omega),Zb ⟨by omega,by omega⟩,Xab,ZII hm (h.2.2 _ hr) hr,Ze,Zb (by rw[ho];simp only[Zl];omega),Zf (by omega) (by omega)]
    exact⟨_,rfl,⟨i+1,by simp,by omega,by dsimp only;rw[ho,Zw7 q]⟩,by (try dsimp only)<;>omega,rfl⟩
   ·right
    have:i=m.2.length:=by omega
    rw[Zc (by omega),ho,this,←ZDN,h2]
    rfl
  refine ZL (f:=Zis m) (fun s:Int×Zx=>∃i:Nat,s.1=i∧i≤m.1.length∧s.2=Zpa m i) (fun s=>m.1.length - s.1.toNat) (fun _=>_) ?_ _ ⟨0,rfl,Nat.zero_le _,rfl⟩
  rintro⟨s,out⟩ ⟨i,hi1,hi,ho⟩
  dsimp only at hi1 ho
  subst hi1
  unfold Zis
  dsimp only
  rcases Xag i m.1.length with q|q
  ·left
   obtain⟨v1,_,_,_,v5⟩:=Zy9 hm q
   have hin:=ZDq hm q
   have hl:=Zt0 m i
   rw[Zd (by omega),Zxu hm q,Ze,Zlj _ (by omega),Ze,Zwq v1 (by omega),ZtO (by omega) (fun x hx=>by have:=hin x hx;omega),Ze,Zb (by rw[ho];simp only[Zl,Xak,Xal];omega),Zf (by omega) (by omega)]
   refine⟨_,rfl,⟨i+1,by simp,by omega,?_⟩,by (try dsimp only)<;>omega,rfl⟩
   dsimp only
   rw[ho,ZwX]
   unfold Zn8
   generalize Zj4 (ZdB m i)=a
   generalize Zkb (ZdB m i)=b
   rfl
  ·right
   have:i=m.1.length:=by omega
   rw[Zc (by omega),ho,this,h1]
   rfl
theorem Zrv (m:Zp) (h:Zde m):Zh8 m=some (ZCM m):=by
 unfold Zh8 ZCM
 rw[Zjz m h,Ze]
 cases hm:Zz m with
 |false=>rw[cnf,Xae,cff]
 |true=>
  obtain⟨m1,m2,m3⟩:=ZcG hm
  rw[cnt,Xai]
  have h2:Ziy (ZbV m)=some (bif decide ((ZbV m).length≤400)then(true,ZbV m)else(false,[])):=by
   unfold Ziy
   by_cases q:(ZbV m).length≤400
   ·rw[Zc (by omega),Xad q,ctt]
   ·rw[Zd (by omega),decide_eq_false q,cff]
  have h1:Zix m (Zpa m m.1.length)=some (bif decide ((ZbV m).length≤400)then(true,ZbV m)else(false,[])):=by
   unfold Zix
   refine ZL (f:=Ziz m) (fun s:Int×Zx=>∃i:Nat,s.1=i∧i≤m.2.length∧s.2=ZnQ m i) (fun s=>m.2.length - s.1.toNat) (fun _=>_) ?_ _ ⟨0,rfl,Nat.zero_le _,by unfold ZnQ;rw[XaS,XbR,Xau]⟩
   rintro⟨s,out⟩ ⟨i,hi1,hi,ho⟩
   dsimp only at hi1 ho
   subst hi1
   unfold Ziz
   dsimp only
   rcases Xag i m.2.length with q|q
   ·left
    have hr:=ZF (l:=m.2) (i:=i) (d:=(0,[],[],0,[])) q
    have hl:=ZyW (m:=m) i hi
    have hl2:=ZA5 (m:=m) (r:=m.2.getD i (0,[],[],0,[]))
    rw[Zd (by omega),Zb ⟨by omega,by omega⟩,Xab,ZJv hm (h.2.2 _ hr) hr,Ze,Zb (by rw[ho];simp only[Zl];omega),Zf (by omega) (by omega)]
    exact⟨_,rfl,⟨i+1,by simp,by omega,by dsimp only;rw[ho,Zw7 q]⟩,by (try dsimp only)<;>omega,rfl⟩
   ·right
    have:i=m.2.length:=by omega
    rw[Zc (by omega),ho,this,←ZDN,h2]
    rfl
  refine ZL (f:=ZiA m) (fun s:Int×Zx=>∃i:Nat,s.1=i∧i≤m.1.length∧s.2=Zpa m i) (fun s=>m.1.length - s.1.toNat) (fun _=>_) ?_ _ ⟨0,rfl,Nat.zero_le _,rfl⟩
  rintro⟨s,out⟩ ⟨i,hi1,hi,ho⟩
  dsimp only at hi1 ho
  subst hi1
  unfold ZiA
  dsimp only
  rcases Xag i m.1.length with q|q
  ·left
   have hl:=Zt0 m i
   have hc:(Zn8 m i).length=2:=rfl
   rw[Zd (by omega),ZFL hm q,Ze,Zb (by rw[ho];simp only[Zl];omega),Zf (by omega) (by omega)]
   exact⟨_,rfl,⟨i+1,by simp,by omega,by dsimp only;rw[ho,ZwX]⟩,by (try dsimp only)<;>omega,rfl⟩
  ·right
   have:i=m.1.length:=by omega
   rw[Zc (by omega),ho,this,h1]
   rfl
theorem ZPb {m:Zp} {i k:Nat} (h:k<Zd8 m i):(ZdB m i).getD k 0=ZbL m i k:=by
 unfold ZdB
 rw[ZnE (d:=0) (h:=by rw[XaK];exact h),Zvm h]
theorem ZM1 {m:Zp} {v:List Bool} {x:List Int} (hm:Zz m=true) (hd:Dec m v x) {i k:Nat} (hi:i<m.1.length) (hk:k<Zd8 m i):v.getD (ZbL m i k - 1).toNat false=decide (x.getD i 0=k):=by
 have h:=hd.2 i hi k ((ZfK hm hi).1 hk)
 unfold trV at h
 rw[←h]
 congr 1
 unfold ZbL
 omega
theorem ZM3 {m:Zp} {v:List Bool} {x:List Int} (hm:Zz m=true) (hd:Dec m v x) {i:Nat} (hi:i<m.1.length):x.length=m.1.length∧0≤x.getD i 0∧x.getD i 0<Zd8 m i:=by
 obtain⟨x1,x2⟩:=Zcp hd.1
 have:=x2 i (by omega)
 have:=Zut hm hi
 exact⟨x1,by omega,by omega⟩
theorem ZFj {m:Zp} {v:List Bool} {x:List Int} (h:Zde m) (hm:Zz m=true) (hv:v.length=12) (hd:Dec m v x):Zj5 m v=some (true,x):=by
 obtain⟨m1,m2,m3⟩:=ZcG hm
 obtain⟨x1,x2⟩:=Zcp hd.1
 unfold Zj5
 rw[Zgn m h,Ze,hm,cnt,Zdu (by omega)]
 refine ZL (f:=Zlm m v) (fun s:Int×List Int=>∃i:Nat,s.1=i∧i≤m.1.length∧s.2=x.take i) (fun s=>m.1.length - s.1.toNat) (fun _=>(true,x)) ?_ _ ⟨0,rfl,Nat.zero_le _,rfl⟩
 rintro⟨s,out⟩ ⟨i,hi1,hi,ho⟩
 dsimp only at hi1 ho
 subst hi1
 unfold Zlm
 dsimp only
 rcases Xag i m.1.length with q|q
 ·left
  obtain⟨_,d1,d2⟩:=ZM3 hm hd q
  have h4:=ZnS hm q
  have hvl:=ZNR m i
  have hol:out.length=i:=by rw[ho,Xay];omega
  have hl:loop (Zln v i (ZdB m i)) ((0:Int),(0:Int),out)=some (Sum.inl ((i:Int)+1,out++[x.getD i 0]):(Int×List Int)⊕(Bool×List Int)):=by
   refine ZL (fun s:Int×Int×List Int=>∃k:Nat,s.2.1=k∧k≤Zd8 m i∧s.1=(if x.getD i 0<k then 1 else 0)∧s.2.2=(if x.getD i 0<k then out++[x.getD i 0]else out)) (fun s=>Zd8 m i - s.2.1.toNat) (fun _=>_) ?_ _ ⟨0,rfl,Nat.zero_le _,by dsimp only;rw[if_neg (by omega)],by dsimp only;rw[if_neg (by omega)]⟩
   rintro⟨c,s,o⟩ ⟨k,hk1,hk,hc,ho2⟩
   dsimp only at hk1 hc ho2
   subst hk1
   have hcb:0≤c∧c≤1:=by rw[hc];split<;>omega
   have hob:o.length≤6:=by
    rw[ho2]
    split
    ·rw[Xan,XaC];omega
    ·omega
   unfold Zln
   dsimp only
   rcases Xag k (Zd8 m i)with q2|q2
   ·left
    have rm:=Zdf hm q ((ZfK hm q).1 q2)
    have hda:=ZM1 hm hd q q2
    rw[Zd (by omega),Zb ⟨by omega,by omega⟩,Xab,ZPb q2,Zf (by omega) (by omega),Zb ⟨by omega,by omega⟩,hda]
    by_cases e:x.getD i 0=k
    ·rw[Xad e,ctt,Zb (by simp only[Zl,Xak,Xal];omega),Zf (by omega) (by omega),Zf (by omega) (by omega)]
     refine⟨_,rfl,⟨k+1,by simp,by omega,?_,?_⟩,by (try dsimp only)<;>omega,rfl⟩
     ·dsimp only
      rw[hc,if_neg (by omega),if_pos (by omega)]
      rfl
     ·dsimp only
      rw[ho2,if_neg (by omega),if_pos (by omega),e]
    ·rw[decide_eq_false e,cff,Zf (by omega) (by omega)]
     refine⟨_,rfl,⟨k+1,by simp,by omega,?_,?_⟩,by (try dsimp only)<;>omega,rfl⟩
     ·dsimp only
      rw[hc]
      by_cases e2:x.getD i 0<k
      ·rw[if_pos e2,if_pos (by omega)]
      ·rw[if_neg e2,if_neg (by omega)]
     ·dsimp only
      rw[ho2]
      by_cases e2:x.getD i 0<k
      ·rw[if_pos e2,if_pos (by omega)]
      ·rw[if_neg e2,if_neg (by omega)]
   ·right
    rw[if_pos (by omega)]at hc ho2
    rw[Zc (by omega),hc,ho2]
    unfold ZqU
    dsimp only
    rw[Zdu (by omega),Zf (by omega) (by omega)]
    rfl
  rw[Zd (by omega),Zxu hm q,Ze,hl]
  exact⟨_,rfl,⟨i+1,by simp,by omega,by dsimp only;rw[ho,Zrm 0 (by omega)]⟩,by (try dsimp only)<;>omega,rfl⟩
 ·right
  have:i=m.1.length:=by omega
  rw[Zc (by omega),ho,this,←x1,XaB]
theorem ZFC {m:Zp} {v:List Bool} {x:List Int} (h:Zde m) (hm:Zz m=true) (hv:v.length=12) (hd:Dec m v x):Zkc m v=some (true,x):=by
 obtain⟨m1,m2,m3⟩:=ZcG hm
 obtain⟨x1,x2⟩:=Zcp hd.1
 unfold Zkc
 rw[Zjz m h,Ze,hm,cnt,Zdu (by omega)]
 refine ZL (f:=Zht m v) (fun s:Int×List Int=>∃i:Nat,s.1=i∧i≤m.1.length∧s.2=x.take i) (fun s=>m.1.length - s.1.toNat) (fun _=>(true,x)) ?_ _ ⟨0,rfl,Nat.zero_le _,rfl⟩
 rintro⟨s,out⟩ ⟨i,hi1,hi,ho⟩
 dsimp only at hi1 ho
 subst hi1
 unfold Zht
 dsimp only
 rcases Xag i m.1.length with q|q
 ·left
  obtain⟨_,d1,d2⟩:=ZM3 hm hd q
  have h4:=ZnS hm q
  have hz:=Zut hm q
  have hol:out.length=i:=by rw[ho,Xay];omega
  have hl:loop (Zhu m v i out) ((-1:Int),(0:Int),(0:Int))=some (Sum.inl ((i:Int)+1,out++[x.getD i 0]):(Int×List Int)⊕(Bool×List Int)):=by
   refine ZL (fun s:Int×Int×Int=>∃k:Nat,s.2.2=k∧k≤Zd8 m i∧s.2.1=(if x.getD i 0<k then 1 else 0)∧s.1=(if x.getD i 0<k then x.getD i 0 else -1)) (fun s=>Zd8 m i - s.2.2.toNat) (fun _=>_) ?_ _ ⟨0,rfl,Nat.zero_le _,by dsimp only;rw[if_neg (by omega)],by dsimp only;rw[if_neg (by omega)]⟩
   rintro⟨v1,c,s⟩ ⟨k,hk1,hk,hc,hv1⟩
   dsimp only at hk1 hc hv1
   subst hk1
   have hcb:0≤c∧c≤1:=by rw[hc];split<;>omega
   unfold Zhu
   dsimp only
   rw[Zb ⟨by omega,by omega⟩,Xab]
   rcases Xag k (Zd8 m i)with q2|q2
   ·left
    have rm:=Zdf hm q ((ZfK hm q).1 q2)
    have hda:=ZM1 hm hd q q2
    have eb:=Zi8 hm q (k:=k) (by omega)
    rw[show (1:Int)+k+ZN m i=ZbL m i k from rfl]at eb
    rw[Zd (by omega),eb,Ze,Zf (by omega) (by omega),Zb ⟨by omega,by omega⟩,hda]
    by_cases e:x.getD i 0=k
    ·rw[Xad e,ctt,Zf (by omega) (by omega),Zf (by omega) (by omega)]
     refine⟨_,rfl,⟨k+1,by simp,by omega,?_,?_⟩,by (try dsimp only)<;>omega,rfl⟩
     ·dsimp only
      rw[hc,if_neg (by omega),if_pos (by omega)]
      rfl
     ·dsimp only
      rw[if_pos (by omega),e]
    ·rw[decide_eq_false e,cff,Zf (by omega) (by omega)]
     refine⟨_,rfl,⟨k+1,by simp,by omega,?_,?_⟩,by (try dsimp only)<;>omega,rfl⟩
     ·dsimp only
      rw[hc]
      by_cases e2:x.getD i 0<k
      ·rw[if_pos e2,if_pos (by omega)]
      ·rw[if_neg e2,if_neg (by omega)]
     ·dsimp only
      rw[hv1]
      by_cases e2:x.getD i 0<k
      ·rw[if_pos e2,if_pos (by omega)]
      ·rw[if_neg e2,if_neg (by omega)]
   ·right
    rw[if_pos (by omega)]at hc hv1
    rw[Zc (by omega),hc,hv1,Zdu (by omega),Zb (by simp only[Zl,Xak,Xal];omega),Zf (by omega) (by omega)]
  rw[Zd (by omega),hl]
  exact⟨_,rfl,⟨i+1,by simp,by omega,by dsimp only;rw[ho,Zrm 0 (by omega)]⟩,by (try dsimp only)<;>omega,rfl⟩
 ·right
  have:i=m.1.length:=by omega
  rw[Zc (by omega),ho,this,←x1,XaB]
end Go.AE.Y
namespace Go.AE.Y
open Go Go.AE
set_option maxHeartbeats 400000
theorem ZIj {l:List Int} (h:ZcN l=true):ZA (Zj4 l)=true∧(Zj4 l).1.length≤12:=by
 refine⟨ZAl (fun x hx=>(Zhq h).1 x ((Zqn h x).1 hx)) (ZwD h),?_⟩
 show (ZbS (Zcl l)).length≤12
 unfold ZbS
 rw[Xap]
 exact Zqm l
theorem ZIk {vs:List Int} (h1:∀x∈vs,1≤x∧x≤12) (h2:vs.Pairwise (· < ·)) (h3:1≤vs.length) (h4:vs.length≤12):ZA (Zkb vs)=true∧(Zkb vs).1.length≤12:=by
 have hm:∀t∈(Zkb vs).1,∃x∈vs,t=(1,0 - x):=fun t ht=>by
  have ht:t∈ZbS (ZbO vs):=ht
  rw[←ZEf]at ht
  obtain⟨x,hx,e⟩:=XaG.1 ht
  exact⟨x,hx,e.symm⟩
 refine⟨ZhT.2 ⟨fun t ht=>?_,?_,?_,?_⟩,?_⟩
 ·obtain⟨x,hx,rfl⟩:=hm t ht
  have:=h1 x hx
  exact⟨ZG.2 (by (try dsimp only)<;>omega),by (try dsimp only)<;>omega,by (try dsimp only)<;>omega⟩
 ·show (ZbS (ZbO vs)).Pairwise _
  rw[←ZEf,XbW]
  refine h2.imp_of_mem (fun {a b} ha hb hab=>?_)
  have:=h1 a ha
  have:=h1 b hb
  unfold vof
  dsimp only
  omega
 ·show 0≤(vs.length:Int) - 1
  omega
 ·show (vs.length:Int) - 1≤20000
  omega
 ·show (ZbS (ZbO vs)).length≤12
  rw[←ZEf,Xap]
  exact h4
theorem ZNQ (m:Zp) (i:Nat):(ZdB m i).Pairwise (· < ·):=by
 unfold ZdB
 rw[XbW]
 refine List.pairwise_lt_range.imp (fun h=>?_)
 unfold ZbL
 omega
theorem ZO5 {l:List Int} (h:l.Nodup):(Zoj l).Pairwise (· < ·):=by
 have h1:=ZGN l
 have h2:(Zoj l).Nodup:=(Zok l).nodup_iff.2 h
 exact(h1.and h2).imp (fun h=>by have:=h.1;have:=h.2;omega)
theorem ZPx {m:Zp} (hm:Zz m=true):∀c∈ZbV m,ZA c=true∧c.1.length≤12:=fun c hc=>by
 unfold ZbV at hc
 rcases List.mem_append.1 hc with q|q
 ·obtain⟨i,hi,hc⟩:=XaM.1 q
  have hi:=Xaz.1 hi
  obtain⟨v1,_,_,v4,v5⟩:=Zy9 hm hi
  unfold Zn8 at hc
  rcases XaA.1 hc with e|e
  ·rw[e];exact ZIj v1
  ·rw[Xaj.1 e]
   exact ZIk (ZDq hm hi) (ZNQ m i) v4 (by omega)
 ·obtain⟨r,hr,hc⟩:=XaM.1 q
  have ho:=ZrT hm hr
  unfold Zpt at hc
  by_cases k1:r.1=1
  ·rw[if_pos k1,Xaj]at hc
   rw[hc]
   obtain⟨e,h⟩:=ZyR (ZIU hm ho k1)
   refine⟨h,?_⟩
   unfold Ztt
   rw[e]
   exact ZpY _ 12
  ·rw[if_neg k1]at hc
   by_cases k2:r.1=2
   ·rw[if_pos k2]at hc
    obtain⟨k,hk,hc⟩:=XaM.1 hc
    have hin:=Zyq hm ho k
    have hnd:=(ZpO hm ho (k:=k)).1
    by_cases q2:1<(Zet m r k).length
    ·rw[if_pos q2,Xaj]at hc
     rw[hc]
     have hl:=(Zok (Zet m r k)).length_eq
     exact ZIk (fun x hx=>hin.1 x ((Zok _).mem_iff.1 hx)) (ZO5 hnd) (by omega) (by omega)
    ·rw[if_neg q2]at hc
     exact absurd hc XaE
   ·rw[if_neg k2]at hc
    obtain⟨vals,hv,rfl⟩:=XaG.1 hc
    have hcell:=(ZxH (ZEp hm ho)).1 (XaQ.1 hv).1
    exact ZIj (ZyI hm ho hcell).1
theorem ZCx {m:Zp} {c x:List Int} {v:List Bool} (hm:Zz m=true) (hd:Dec m v x):∀n,n≤m.1.length→Zew (Zdm m c m.1.length) v (ZN m n).toNat=0 - ZX c x n
 |0,_=>by
  show Zew _ _ (Zn1 []).toNat=0 - 0
  rfl
 |n+1,h=>by
  obtain⟨b0,s0,s3,b1,b12⟩:=Zgd hm (show n<m.1.length by omega)
  obtain⟨x1,x2⟩:=Zcp hd.1
  have hxn:=x2 n (by omega)
  have ih:=ZCx (c:=c) hm hd n (by omega)
  have hb:=ZEC (net:=Zdm m c m.1.length) (v:=v) (b:=(ZN m n).toNat) (c:=c.getD n 0) (x:=x.getD n 0) (s:=m.1.getD n 0) hxn
   (fun k hk=>by
    have:=ZIZ (c:=c) hm m.1.length (Nat.le_refl _) n (by omega) k hk
    rwa [show 1+k+(ZN m n).toNat=(ZN m n).toNat+k+1 by omega]at this)
   (fun k hk=>by
    have:=hd.2 n (by omega) k hk
    unfold trV at this
    rwa [show ((k:Int)+ZN m n).toNat=(ZN m n).toNat+k by omega]at this)
   (m.1.getD n 0+1).toNat (by omega)
  rw[show (ZN m (n+1)).toNat=(ZN m n).toNat+(m.1.getD n 0+1).toNat by omega,hb,ih,if_pos (by omega),ZjF]
  rw[Int.sub_mul]
  omega
theorem ZMs {m:Zp} {c x:List Int} {v:List Bool} {most:Int} (hm:Zz m=true) (hd:Dec m v x):ZR v (Zb0 (Zdm m c m.1.length) 12,max 0 (Z4 (Zdm m c m.1.length) (0 - most) 12))=decide (ZX c x x.length≤most):=by
 obtain⟨x1,x2⟩:=Zcp hd.1
 have hb:=ZgO hm m.1.length (Nat.le_refl _)
 obtain⟨p1,p2⟩:=ZFQ (net:=Zdm m c m.1.length) (v:=v) (b:=0 - most) 12
 have h1:=ZCx (c:=c) hm hd m.1.length (Nat.le_refl _)
 have h2:=ZGS (net:=Zdm m c m.1.length) (v:=v) (b:=(ZN m m.1.length).toNat) (fun j hj=>Zs3 hm m.1.length (Nat.le_refl _) j (Or.inr hj)) (12 - (ZN m m.1.length).toNat)
 rw[show (ZN m m.1.length).toNat+(12 - (ZN m m.1.length).toNat)=12 by omega,h1,←x1]at h2
 unfold ZR
 dsimp only
 rw[←x1]at p1 p2 ⊢
 generalize Zcy v (Zb0 (Zdm m c x.length) 12)=S at p1 p2 ⊢
 generalize Zew (Zdm m c x.length) v 12=T at p1 h2
 generalize Z4 (Zdm m c x.length) (0 - most) 12=N at p1 ⊢
 by_cases q:ZX c x x.length≤most
 ·rw[Xad q]
  exact Xad (by omega)
 ·rw[decide_eq_false q]
  exact decide_eq_false (by omega)
def obC (m:Zp) (c:List Int) (most:Int):Z9:=(Zb0 (Zdm m c m.1.length) 12,max 0 (Z4 (Zdm m c m.1.length) (0 - most) 12))
theorem ZAV {m:Zp} {c:List Int} {most:Int} (hm:Zz m=true) (hc:ZfZ m c=true) (hb : -1000≤most∧most≤1000):Zul m c most=(true,(obC m c most).2,(obC m c most).1)∧ZA (obC m c most)=true∧(obC m c most).1.length≤12:=by
 obtain⟨c1,c2⟩:=ZEc hc
 have hn:∀j,-1000≤(Zdm m c m.1.length).getD j 0∧(Zdm m c m.1.length).getD j 0≤1000:=fun j=>by
  have:=ZyN hm c2 m.1.length (Nat.le_refl _) j
  omega
 obtain⟨p1,p2⟩:=ZDa (net:=Zdm m c m.1.length) 12 (Nat.le_refl _) hn
 have hneg:=Zpe (net:=Zdm m c m.1.length) (b:=0 - most) (K:=1000) (by omega) (fun j=>by have:=hn j;omega) 12
 have hcon:ZA (Zb0 (Zdm m c m.1.length) 12,max 0 (Z4 (Zdm m c m.1.length) (0 - most) 12))=true:=ZhT.2 ⟨fun t ht=>(p1 t ht).1,p2,by (try dsimp only)<;>omega,by (try dsimp only)<;>omega⟩
 refine⟨?_,hcon,ZpY _ 12⟩
 unfold Zul
 rw[hm,hc,Xad hb.1,Xad hb.2,Bool.and_self,Bool.and_self,ctt]
 unfold Zcw
 rw[hcon,ctt]
 rfl
theorem ZK5 {m:Zp} {c x:List Int} {v:List Bool} {most:Int} (hm:Zz m=true) (hd:Dec m v x):ZR v (obC m c most)=decide (ZX c x x.length≤most):=ZMs hm hd
theorem Zs8 {m:Zp} {c x:List Int} (hm:Zz m=true) (hc:ZfZ m c=true) (hx:ZE m x=true):(∀i,i<x.length → -27≤c.getD i 0*x.getD i 0∧c.getD i 0*x.getD i 0≤27)∧c.length=x.length∧x.length≤5∧1≤x.length∧∀n:Nat,n≤x.length → -27*(n:Int)≤ZX c x n∧ZX c x n≤27*n:=by
 obtain⟨c1,c2⟩:=ZEc hc
 obtain⟨x1,x2⟩:=Zcp hx
 obtain⟨m1,m2,_⟩:=ZcG hm
 have hb:∀i,i<x.length → -27≤c.getD i 0*x.getD i 0∧c.getD i 0*x.getD i 0≤27:=fun i hi=>by
  have h1:=x2 i hi
  have h2:=ZnS hm (i:=i) (by omega)
  have h3:=Zut hm (i:=i) (by omega)
  exact ZEa (c2 i) ⟨h1.1,by omega⟩
 refine⟨hb,by omega,by omega,by omega,fun n=>?_⟩
 induction n with
 |zero=>intro _;exact⟨Xas _,Xas _⟩
 |succ n ih=>
  intro hn
  have:=ih (by omega)
  have:=hb n (by omega)
  rw[ZjF]
  omega
end Go.AE.Y
namespace Go.AE.Y
open Go Go.AE
set_option maxHeartbeats 400000
def conv (r:VR):SR:=(bif r.1 then 1 else bif r.2.2.1 then 0 else 2,r.2.1,r.2.2.2.1,r.2.2.2.2.1,r.2.2.2.2.2)
def ZyP (r:VR):Prop:=r.1=false→r.2.2.2.1=[]
theorem ZPB {D:List Int} {L:Zx} {S:List ZB} {fuel:Int} {rec1:List Int→Int→Bool→Zx→List ZB→Option VR} {rec2:Int→List Int→Zx→List ZB→Option SR}
  (hrec:∀(l:Int) (L':Zx) (S':List ZB) (f':Int),Zer (D++[l])→Zb1 L'→L'.length≤400+S'.length→S'.length≤1000→Zgh S'→(0≤f'∧f'≤2000)→∃r,rec1 (D++[l]) f' false L' S'=some r∧ZmV (D++[l]) L' S' f' r∧rec2 f' (D++[l]) L' S'=some (conv r)∧(Zgh r.2.2.2.2.2∧ZyP r))
  (hD:Zer D) (hL:Zb1 L) (hl:L.length≤400+S.length) (hS:S.length<1000) (hw:Zgh S) (hf:1≤fuel∧fuel≤2000) {r:VR} {q:SR}
  (e:Zbu D fuel false L S rec1 (Zft D D.length)=some r) (e2:Zco fuel D L S rec2 (Zft D D.length)=some q):q=conv r∧ZyP r:=by
 have hd:=Zi4 hD
 obtain⟨p1,p2,p3,p4,p5⟩:=ZqE hD D.length (Nat.le_refl _)
 unfold Zbu at e
 unfold Zco at e2
 obtain⟨⟨i,out⟩,e1,⟨t1,t2,t3⟩,hc⟩:=Zj7 hL (by omega) p1
 dsimp only at t1 t2 t3 hc
 rw[e1,Ze]at e
 rw[ZxO hL (by omega) p1,e1,Ze]at e2
 dsimp only at e e2
 rcases hc with⟨rfl,hk⟩|⟨h0,hk⟩
 ·rw[Zd (by omega)]at e
  rw[Zc (by omega)]at e2
  obtain⟨r4,e4,h⟩:=Zu5 t1
  obtain⟨r5,e5,_⟩:=ZxR t1
  have e6:=ZNa e4 e5
  rw[e4,Ze]at e
  rw[e5,Ze]at e2
  rcases h with⟨rfl,ht⟩|⟨k,hk12,hk0,rfl⟩
  ·dsimp only at e e6
   subst e6
   rw[ctt]at e
   rw[Zu rfl]at e2
   have h12:=t1.1
   have e7:loop (ZcQ fuel L S (-1,out)) ((0:Int),([]:List Bool))=some (1,fuel - 1,out.map (fun n=>decide (0<n)),L,S):=by
    refine(Zbi (f:=ZcQ fuel L S (-1,out)) out 0 (fun n=>decide (0<n)) [] (fun o=>(1,fuel - 1,o,L,S)) (fun i o hi ho=>?_) ?_)
    ·unfold ZcQ
     dsimp only
     rw[Zd (by omega),Zb ⟨by omega,by omega⟩,Xab,Zb (by simp only[Zl,Xak,Xal];simp at ho;omega),Zf (by omega) (by omega)]
    ·unfold ZcQ ZlJ
     dsimp only
     rw[Zc (by omega),Xao]
     rfl
   rw[e7]at e2
   have a1:=Option.some.inj e
   have a2:=Option.some.inj e2
   rw[←a1,←a2]
   exact⟨rfl,fun h=>by cases h⟩
  ·dsimp only at e e6
   subst e6
   rw[cff,Zf (by omega) (by omega)]at e
   rw[Zo (by omega),Zf (by omega) (by omega)]at e2
   have hvar:∀l:Int,vof l=(k:Int)+1→∀i,i<D.length→vof (D.getD i 0)≠vof l:=fun l hl i hi=>by
    rw[hl]
    exact p3 k (t3 k hk0) i hi
   refine ZC2 (fun (s:Int×Int×Bool×Zx×List ZB) (t:Int×Int×Zx×List ZB)=>t=(s.1,s.2.1,s.2.2.2.1,s.2.2.2.2)∧∃n:Nat,s.1=n∧n≤2∧(0≤s.2.1∧s.2.1≤fuel)∧s.2.2.1=false∧Ext L S s.2.2.2.1 s.2.2.2.2∧Zgh s.2.2.2.2) (fun r q=>q=conv r∧ZyP r) ?_ ⟨rfl,0,rfl,by omega,⟨by (try dsimp only)<;>omega,by (try dsimp only)<;>omega⟩,rfl,Ext.refl hL (by omega),hw⟩ e e2
   rintro⟨s,f,m,L',S'⟩ t ⟨ht,n,hs,hn,hf',hm,hx,hw'⟩ a b ha hb
   dsimp only at ht hs hf' hm hx hw'
   subst ht
   subst hs
   subst hm
   unfold Zdc at ha
   unfold Zej at hb
   dsimp only at ha hb
   rcases Xag n 2 with h1|h1
   ·have hlit:∃l,[((k:Int)+1),(0 - ((k:Int)+1))].getD n 0=l∧vof l=(k:Int)+1∧Zbe l=true:=by
     have:n=0∨n=1:=by omega
     rcases this with rfl|rfl
     ·exact⟨(k:Int)+1,rfl,by unfold vof;omega,ZG.2 ⟨by omega,by omega,by omega⟩⟩
     ·exact⟨0 - ((k:Int)+1),rfl,by unfold vof;omega,ZG.2 ⟨by omega,by omega,by omega⟩⟩
    obtain⟨l,el,hv,hli⟩:=hlit
    have hlen:=hx.len
    have htop:=hx.top
    obtain⟨⟨ok,f8,mu,vals,L8,S8⟩,e8,⟨f1,x1,sa1,no1⟩,e9,w8,n8⟩:=hrec l L' S' f (ZCL hD hli (hvar l hv)) hx.good (by omega) htop hw' ⟨by omega,by omega⟩
    rw[Zd (by simp;omega),Zb ⟨by omega,by simp;omega⟩,Xab,el,Zwk (by omega),Ze,Zb (by simp[Zl];omega),e8,Ze]at ha
    rw[Zd (by simp;omega),Zb ⟨by omega,by simp;omega⟩,Zb (by simp[Zl];omega),Zb (by simp[Zl];omega),Xao,Xab,el,e9,Ze]at hb
    unfold Zhx conv at hb
    dsimp only at ha hb f1 x1 w8
    cases ok with
    |true=>
     rw[ctt]at ha hb
     rw[Zd2 (by decide)]at hb
     exact Or.inr ⟨_,_,(Option.some.inj ha).symm,(Option.some.inj hb).symm,rfl,fun h=>by cases h⟩
    |false=>
     rw[cff]at ha hb
     cases mu with
     |true=>
      rw[ctt]at ha hb
      rw[Zd2 (by decide)]at hb
      exact Or.inr ⟨_,_,(Option.some.inj ha).symm,(Option.some.inj hb).symm,rfl,fun _=>n8 rfl⟩
     |false=>
      rw[cff,Zf (by omega) (by omega)]at ha
      rw[cff,Zdu rfl,Zf (by omega) (by omega)]at hb
      exact Or.inl ⟨_,_,(Option.some.inj ha).symm,(Option.some.inj hb).symm,rfl,n+1,by simp,by omega,⟨by (try dsimp only)<;>omega,by (try dsimp only)<;>omega⟩,rfl,hx.trans x1,w8⟩
   ·have hn2:n=2:=by omega
    have hlen:=hx.len
    rw[Zc (by simp;omega)]at ha hb
    unfold ZfY at ha
    unfold Zhw at hb
    dsimp only at ha hb
    by_cases q3:1000≤(S'.length:Int)
    ·rw[Zd q3]at ha hb
     exact Or.inr ⟨_,_,(Option.some.inj ha).symm,(Option.some.inj hb).symm,rfl,fun _=>rfl⟩
    ·rw[Zc q3]at ha hb
     unfold Zct at ha
     dsimp only at ha
     rw[ZKQ hD (by omega) (by omega),Ze]at ha
     rw[ZIR hD (by omega) (by omega),Ze]at hb
     exact Or.inr ⟨_,_,(Option.some.inj ha).symm,(Option.some.inj hb).symm,rfl,fun _=>rfl⟩
 ·rw[Zc (by omega)]at e
  rw[Zd h0]at e2
  unfold Zct at e
  dsimp only at e
  rw[ZKQ hD (by omega) (by omega),Ze]at e
  rw[ZIR hD (by omega) (by omega),Ze]at e2
  have a1:=Option.some.inj e
  have a2:=Option.some.inj e2
  rw[←a1,←a2]
  exact⟨rfl,fun _=>rfl⟩
theorem ZO0 {D:List Int} {L:Zx} {S:List ZB} {fuel:Int} {rec1:List Int→Int→Bool→Zx→List ZB→Option VR} {rec2:Int→List Int→Zx→List ZB→Option SR}
  (hrec:∀(l:Int) (L':Zx) (S':List ZB) (f':Int),Zer (D++[l])→Zb1 L'→L'.length≤400+S'.length→S'.length≤1000→Zgh S'→(0≤f'∧f'≤2000)→∃r,rec1 (D++[l]) f' false L' S'=some r∧ZmV (D++[l]) L' S' f' r∧rec2 f' (D++[l]) L' S'=some (conv r)∧(Zgh r.2.2.2.2.2∧ZyP r))
  (hD:Zer D) (hL:Zb1 L) (hl:L.length≤400+S.length) (hS:S.length≤1000) (hw:Zgh S) (hf:0≤fuel∧fuel≤2000) {r:VR} {q:SR}
  (e:ZZ rec1 D fuel false L S=some r) (e2:Zbv rec2 fuel D L S=some q):q=conv r∧ZyP r:=by
 have hd:=Zi4 hD
 unfold ZZ at e
 unfold Zbv at e2
 by_cases q1:fuel=0
 ·rw[Zu q1]at e e2
  have a1:=Option.some.inj e
  have a2:=Option.some.inj e2
  rw[←a1,←a2]
  exact⟨rfl,fun _=>rfl⟩
 rw[Zo q1]at e e2
 by_cases q2:1000≤(S.length:Int)
 ·rw[Zd q2]at e e2
  have a1:=Option.some.inj e
  have a2:=Option.some.inj e2
  rw[←a1,←a2]
  exact⟨rfl,fun _=>rfl⟩
 rw[Zc q2,Zf (by omega) (by omega),Zb ⟨by omega,by simp only[Zl];omega,rfl⟩]at e e2
 refine ZC2 (fun (s:Int×List Int) (t:Int×List Int)=>s=t∧∃n:Nat,s.1=n∧n≤D.length∧s.2=Zft D n) (fun r q=>q=conv r∧ZyP r) ?_ ⟨rfl,0,rfl,Nat.zero_le _,rfl⟩ e e2
 rintro⟨s,o⟩ t ⟨ht,n,hs,hn,ho⟩ a b ha hb
 dsimp only at hs ho
 subst ht
 subst hs
 subst ho
 unfold Zcu at ha
 unfold ZdA at hb
 dsimp only at ha hb
 rcases Xag n D.length with h1|h1
 ·have hli:=hD.1 _ (ZF (l:=D) (i:=n) (d:=0) h1)
  have hlit:=ZG.1 hli
  have h12:=(ZqE hD n hn).1.1
  have hvv:vof (D.getD n 0)=if 0<D.getD n 0 then D.getD n 0 else 0 - D.getD n 0:=by unfold vof;split<;>omega
  rw[Zd (by omega),Zb ⟨by omega,by omega⟩,Xab,Zp1 hli (ZqE hD n hn).1,Ze,Zf (by omega) (by omega)]at hb
  have ea:a = .inl ((n:Int)+1,Zft D (n+1)):=by
   rw[Zd (by omega),Zb ⟨by omega,by omega⟩,Xab,ZeQ (by omega),Ze]at ha
   have e:Zft D (n+1)=ZeD (D.getD n 0) (Zft D n):=rfl
   rw[e]
   unfold ZeD
   by_cases q:0<D.getD n 0
   ·rw[if_pos q]at hvv
    rw[hvv,Zf (by omega) (by omega),Zb ⟨by omega,by omega⟩,Zc (by omega),Zf (by omega) (by omega)]at ha
    rw[if_pos q]
    exact(Option.some.inj ha).symm
   ·rw[if_neg q]at hvv
    rw[hvv,Zf (by omega) (by omega),Zb ⟨by omega,by omega⟩,Zd (by omega),Zf (by omega) (by omega),Zf (by omega) (by omega),Zb ⟨by omega,by rw[Xam];omega⟩,Zf (by omega) (by omega),List.set_set]at ha
    rw[if_neg q]
    exact(Option.some.inj ha).symm
  exact Or.inl ⟨_,_,ea,(Option.some.inj hb).symm,rfl,n+1,by simp,by omega,rfl⟩
 ·have:n=D.length:=by omega
  subst this
  rw[Zc (by omega)]at ha hb
  cases hj:Zbu D fuel false L S rec1 (Zft D D.length)with
  |none=>rw[hj]at ha;cases ha
  |some r=>
   cases hk:Zco fuel D L S rec2 (Zft D D.length)with
   |none=>rw[hk]at hb;cases hb
   |some q=>
    rw[hj]at ha
    rw[hk]at hb
    exact Or.inr ⟨r,q,(Option.some.inj ha).symm,(Option.some.inj hb).symm,ZPB hrec hD hL hl (by omega) hw ⟨by omega,by omega⟩ hj hk⟩
theorem ZGp {D:List Int} {L:Zx} {S:List ZB} {fuel:Int} {rec1:List Int→Int→Bool→Zx→List ZB→Option VR} {rec2:Int→List Int→Zx→List ZB→Option SR}
  (hrec:∀(l:Int) (L':Zx) (S':List ZB) (f':Int),Zer (D++[l])→Zb1 L'→L'.length≤400+S'.length→S'.length≤1000→Zgh S'→(0≤f'∧f'≤2000)→∃r,rec1 (D++[l]) f' false L' S'=some r∧ZmV (D++[l]) L' S' f' r∧rec2 f' (D++[l]) L' S'=some (conv r)∧(Zgh r.2.2.2.2.2∧ZyP r))
  (hrec1:∀(l:Int) (L':Zx) (S':List ZB) (f':Int),Zer (D++[l])→Zb1 L'→L'.length≤400+S'.length→S'.length≤1000→(0≤f'∧f'≤2000)→∃r,rec1 (D++[l]) f' false L' S'=some r∧ZmV (D++[l]) L' S' f' r)
  (hrec2:∀(l:Int) (L':Zx) (S':List ZB) (f':Int),Zer (D++[l])→Zb1 L'→L'.length≤400+S'.length→S'.length≤1000→Zgh S'→(0≤f'∧f'≤2000)→∃r,rec2 f' (D++[l]) L' S'=some r∧SeaOk L' S' f' r.2.2.2.1 r.2.2.2.2 r.2.1)
  (hD:Zer D) (hL:Zb1 L) (hl:L.length≤400+S.length) (hS:S.length≤1000) (hw:Zgh S) (hf:0≤fuel∧fuel≤2000) :
  ∃r,ZZ rec1 D fuel false L S=some r∧ZmV D L S fuel r∧Zbv rec2 fuel D L S=some (conv r)∧(Zgh r.2.2.2.2.2∧ZyP r):=by
 obtain⟨r,e,hr⟩:=ZEE hrec1 hD hL hl hS hf
 obtain⟨q,e2,hq⟩:=ZCu hrec2 hD hL hl hS hw hf
 obtain⟨h,hn⟩:=ZO0 hrec hD hL hl hS hw hf e e2
 subst h
 exact⟨r,e,hr,e2,hq.few,hn⟩
theorem ZCv:∀(n:Nat) (D:List Int) (L:Zx) (S:List ZB) (fuel:Int),Zer D→Zb1 L→L.length≤400+S.length→S.length≤1000→Zgh S→(0≤fuel∧fuel≤2000)→13≤n+D.length →
  ∃r,Z6 n D fuel false L S=some r∧ZmV D L S fuel r∧Zba n fuel D L S=some (conv r)∧(Zgh r.2.2.2.2.2∧ZyP r)
 |0,D,L,S,fuel,hD,_,_,_,_,_,hn=>by have:=Zi4 hD;omega
 |n+1,D,L,S,fuel,hD,hL,hl,hS,hw,hf,hn=>by
  show ∃r,ZZ (Z6 n) D fuel false L S=some r∧ZmV D L S fuel r∧Zbv (Zba n) fuel D L S=some (conv r)∧_
  have hlen:∀l:Int,13≤n+(D++[l]).length:=fun l=>by rw[Xan,XaC];omega
  exact ZGp (fun l L' S' f' h1 h2 h3 h4 h5 h6=>ZCv n (D++[l]) L' S' f' h1 h2 h3 h4 h5 h6 (hlen l))
   (fun l L' S' f' h1 h2 h3 h4 h5=>ZDr n (D++[l]) L' S' f' h1 h2 h3 h4 h5 (hlen l))
   (fun l L' S' f' h1 h2 h3 h4 h5 h6=>ZA9 n (D++[l]) L' S' f' h1 h2 h3 h4 h5 h6 (hlen l)) hD hL hl hS hw hf
end Go.AE.Y
namespace Go.AE.Y
open Go Go.AE
set_option maxHeartbeats 400000
abbrev ZQW:=Int×List Bool×List ZB
structure ZQr (x:Zx) (f:Int) (r:ZQW):Prop where
 top:r.2.2.length≤1000
 few:Zgh r.2.2
 steps:r.1≠2→r.2.2=[]
 bad:¬(ZeE x=true∧0≤f∧f≤2000)→r=(3,[],[])
 good:ZeE x=true→0≤f∧f≤2000→(r.1=1∧r.2.1.length=12∧ZeC x r.2.1)∨(r.1=2∧r.2.1=[]∧∀v,¬ZeC x v)∨(r.1=0∧r.2.1=[])
theorem ZGC (f:Int):Zr1 f=some (decide (0≤f)&&decide (f≤2000)):=by
 unfold Zr1
 rw[ZbK,Ze]
theorem ZOY {r:SR} (htop:r.2.2.2.2.length≤1000) (hw:Zgh r.2.2.2.2):loop (Zei r) ((0:Int),([]:List ZB))=some (r.1,([]:List Bool),r.2.2.2.2):=by
 have:=Zbi (f:=Zei r) r.2.2.2.2 zS (fun s=>s) [] (fun o=>(r.1,([]:List Bool),o)) (fun i o hi ho=>?_) ?_
 ·rw[List.map_id']at this
  exact this
 ·have hm:=hw _ (ZF (l:=r.2.2.2.2) (i:=i) (d:=zS) hi)
  change(r.2.2.2.2.getD i (0,(0,(0,([],0))))).2.2.2.1.length≤12 at hm
  unfold Zei
  dsimp only
  rw[Zd (by omega),Zb ⟨by omega,by omega⟩,Xab,ZGD _ (by omega),Ze]
  dsimp only
  rw[Zb (by simp only[Zl,Xak,Xal];simp at ho;omega),Zf (by omega) (by omega)]
  rfl
 ·unfold Zei ZlE
  dsimp only
  rw[Zc (by omega),Xao,List.map_id']
  rfl
theorem ZMG {x:Zx} (hs:Zjy x) (f:Int):∃r,Zg1 x f=some r∧Zke x f=some r∧ZQr x f r:=by
 have hnil:Zgh []:=fun s h=>absurd h XaE
 unfold Zg1 Zke
 rw[ZqV x hs,Zrc x hs,Ze,Ze]
 cases hp:ZeE x with
 |false=>
  rw[cnf,cnf]
  exact⟨_,rfl,rfl,by simp,hnil,fun _=>rfl,fun _=>rfl,fun h=>by rw[hp]at h;cases h⟩
 |true=>
  rw[cnt,cnt,ZGC,Ze]
  by_cases q1:0≤f
  ·rw[Xad q1,ZQe,Zc (by omega)]
   by_cases q2:f≤2000
   ·rw[Xad q2,cnt,Zc (by omega)]
    have hall:=ZGL hp
    have hlen:x.length≤400:=by
     unfold ZeE at hp
     simp only[Xaf,Xah]at hp
     exact hp.2
    have hg:Zb1 x:=fun c hc=>⟨hall c hc,hs.2 c hc⟩
    have hd:Zer []:=⟨fun x hx=>absurd hx XaE,fun i j hi=>by simp at hi⟩
    obtain⟨r,e,hv,e2,hw,hn⟩:=ZGp (D:=[]) (L:=x) (S:=[]) (fuel:=f) (rec1:=Z6 64) (rec2:=Zba 64)
     (fun l L' S' f' h1 h2 h3 h4 h5 h6=>ZCv 64 ([]++[l]) L' S' f' h1 h2 h3 h4 h5 h6 (by simp))
     (fun l L' S' f' h1 h2 h3 h4 h5=>ZDr 64 ([]++[l]) L' S' f' h1 h2 h3 h4 h5 (by simp))
     (fun l L' S' f' h1 h2 h3 h4 h5 h6=>ZA9 64 ([]++[l]) L' S' f' h1 h2 h3 h4 h5 h6 (by simp)) hd hg (by simp;omega) (by simp) hnil ⟨q1,q2⟩
    have e':ZeY 64 [] f false x=some r:=by
     rw[←e]
     exact ZJ4 (ZeY 63) [] f false x
    rw[ZsR x (by omega),Ze,e',Ze,Zb (by simp[Zl];omega),Xao,ZIw,e2,Ze]
    have htop:=hv.ext.top
    have hsat:=hv.sat
    have hno:=hv.no
    obtain⟨ok,f8,mu,vals,L8,S8⟩:=r
    dsimp only at htop hw hsat hno
    unfold conv
    dsimp only
    cases ok with
    |true=>
     rw[ctt,ctt,Zd2 (by decide)]
     exact⟨_,rfl,rfl,by simp,hnil,fun _=>rfl,fun h=>absurd ⟨hp,q1,q2⟩ h,fun _ _=>Or.inl ⟨rfl,hsat rfl⟩⟩
    |false=>
     have hvals:vals=[]:=hn rfl
     subst hvals
     rw[cff,cff]
     cases mu with
     |true=>
      rw[ctt,ctt,Zd2 (by decide)]
      exact⟨_,rfl,rfl,by simp,hnil,fun _=>rfl,fun h=>absurd ⟨hp,q1,q2⟩ h,fun _ _=>Or.inr (Or.inr ⟨rfl,rfl⟩)⟩
     |false=>
      rw[cff,cff,Zdu rfl]
      refine⟨_,rfl,ZOY (r:=(2,f8,[],L8,S8)) htop hw,htop,hw,fun h=>absurd rfl h,fun h=>absurd ⟨hp,q1,q2⟩ h,fun _ _=>Or.inr (Or.inl ⟨rfl,rfl,fun v h=>hno rfl rfl v h (fun x hx=>absurd hx XaE)⟩)⟩
   ·rw[decide_eq_false q2,cnf,Zd (by omega)]
    exact⟨_,rfl,rfl,by simp,hnil,fun _=>rfl,fun _=>rfl,fun _ h=>absurd h.2 q2⟩
  ·rw[decide_eq_false q1,show (false&&decide (f≤2000))=false from Xae _,cnf,Zd (by omega)]
   exact⟨_,rfl,rfl,by simp,hnil,fun _=>rfl,fun _=>rfl,fun _ h=>absurd h.1 q1⟩
end Go.AE.Y
namespace Go.AE.Y
open Go Go.AE
set_option maxHeartbeats 400000
def ZcT (m:Zp) (c best:List Int):Zx:=if best=[]then ZbV m else ZbV m++[obC m c (ZX c best best.length - 1)]
abbrev ZOy:=Int×List Int×List ZB
def ZBz (m:Zp) (best:List Int):Prop:=best=[]∨(ZE m best=true∧ZcI m best=true)
def ZMr (c best:List Int):Nat:=if best=[]then 1000 else(ZX c best best.length+200).toNat
structure ZPf (Q:Zx→List ZB→Prop) (m:Zp) (c:List Int) (r:ZOy):Prop where
 kind:r.1=0∨r.1=1∨r.1=2
 top:r.2.2.length≤1000
 few:Zgh r.2.2
 best:ZBz m r.2.1
 none:r.1=2→r.2.1=[]∧(∀v,¬ZeC (ZbV m) v)
 opt:r.1=1→r.2.1≠[]∧(∀v,¬ZeC (ZcT m c r.2.1) v)
 steps:r.1≠0→Q (ZcT m c r.2.1) r.2.2
theorem Zvo {m:Zp} {c best:List Int} (hm:Zz m=true) (hc:ZfZ m c=true) (hl:(ZbV m).length<400) (hb:ZBz m best):Zjy (ZcT m c best)∧ZeE (ZcT m c best)=true∧(best≠[] → -1000≤ZX c best best.length - 1∧ZX c best best.length - 1≤1000 ∧ -135≤ZX c best best.length∧ZX c best best.length≤135):=by
 have he:=ZPx hm
 have hv:best≠[] → -1000≤ZX c best best.length - 1∧ZX c best best.length - 1≤1000 ∧ -135≤ZX c best best.length∧ZX c best best.length≤135:=fun hne=>by
  rcases hb with e|⟨h1,_⟩
  ·exact absurd e hne
  ·obtain⟨_,_,b3,_,b5⟩:=Zs8 hm hc h1
   have:=b5 best.length (Nat.le_refl _)
   omega
 have hall:∀x∈ZcT m c best,ZA x=true∧x.1.length≤12:=fun x hx=>by
  unfold ZcT at hx
  by_cases e:best=[]
  ·rw[if_pos e]at hx
   exact he x hx
  ·rw[if_neg e]at hx
   rcases List.mem_append.1 hx with q|q
   ·exact he x q
   ·rw[Xaj.1 q]
    have:=hv e
    exact(ZAV hm hc ⟨by omega,by omega⟩).2
 have hlen:(ZcT m c best).length≤400:=by
  unfold ZcT
  split
  ·omega
  ·rw[Xan,XaC];omega
 refine⟨⟨by omega,fun x hx=>by have:=(hall x hx).2;omega⟩,?_,hv⟩
 unfold ZeE
 rw[Xaf,Xar,Xah]
 exact⟨fun x hx=>(hall x hx).1,hlen⟩
theorem ZNu {m:Zp} {c best:List Int} {v:List Bool} (hm:Zz m=true) (hs:ZeC (ZcT m c best) v):∃x,Dec m v x∧ZcI m x=true∧(best≠[]→ZX c x x.length≤ZX c best best.length - 1):=by
 have h1:ZeC (ZbV m) v:=fun y hy=>hs y (by unfold ZcT;split;exact hy;exact XbB _ hy)
 obtain⟨x,hd,hx⟩:=(ZKN hm).1 h1
 refine⟨x,hd,hx,fun hne=>?_⟩
 have h2:=hs (obC m c (ZX c best best.length - 1)) (by unfold ZcT;rw[if_neg hne];exact Xbw _ (Xaj.2 rfl))
 rw[ZK5 hm hd,Xah]at h2
 exact h2
theorem ZDU {l:List Int} (h:l≠[]):l.isEmpty=false:=by
 cases l with
 |nil=>exact absurd rfl h
 |cons a l=>rfl
theorem ZKX {l:List Int} (h:l≠[]):0<l.length:=List.length_pos_iff.2 h
theorem ZMB {Q:Zx→List ZB→Prop} {m:Zp} {c:List Int} {f:Int} (hQ:∀x r,Zjy x→Zg1 x f=some r→r.1=2→r.2.2.length≤1000→Q x r.2.2) (h:Zde m) (hm:Zz m=true) (hc:ZfZ m c=true) (hcl:c.length≤1048576) (hl:(ZbV m).length<400) (hf:0≤f∧f≤2000):∀(n:Nat) (best:List Int),ZBz m best→ZMr c best≤n →
  ∃r:ZOy,loop (ZbW m c f (true,ZbV m)) (ZcT m c best,best)=some r∧loop (Zcn m c f (true,ZbV m)) best=some r∧ZPf Q m c r:=by
 intro n
 induction n with
 |zero=>
  intro best hb hn
  exfalso
  obtain⟨_,_,hv⟩:=Zvo hm hc hl hb
  unfold ZMr at hn
  by_cases e:best=[]
  ·rw[if_pos e]at hn;omega
  ·rw[if_neg e]at hn
   have:=hv e
   omega
 |succ n ih=>
  intro best hb hn
  obtain⟨hs,hp,hv⟩:=Zvo hm hc hl hb
  obtain⟨q,e1,e2,hok⟩:=ZMG hs f
  obtain⟨m1,m2,m3⟩:=ZcG hm
  have hspec:Zcn m c f (true,ZbV m) best=ZcP m f best (ZcT m c best):=by
   unfold Zcn ZcT
   rw[Zb (by simp only[Zl,Xal];omega)]
   by_cases e:best=[]
   ·rw[if_pos e,e,Zc (by simp),Xao]
   ·have hbc:ZE m best=true:=by
     rcases hb with q|q
     ·exact absurd q e
     ·exact q.1
    obtain⟨b1,b2,b3,b4,b5⟩:=Zs8 hm hc hbc
    have:=ZKX e
    have hve:=hv e
    rw[if_neg e,Zd (by omega),ZwJ b2 b3 b1,Ze,Zf (by omega) (by omega),ZnT m c _ h hcl,Ze,(ZAV hm hc ⟨by omega,by omega⟩).1]
    unfold ZlD
    dsimp only
    rw[Zb (by simp only[Zl,Xao,Xak,Xal];omega),Xao]
  rcases hok.good hp hf with⟨q1,q2,q3⟩|⟨q1,q2,q3⟩|⟨q1,q2⟩
  ·
   obtain⟨x,hd,hx,hlt⟩:=ZNu hm q3
   have hxc:=hd.1
   obtain⟨b1,b2,b3,b4,b5⟩:=Zs8 hm hc hxc
   have hxne:x≠[]:=fun e=>by rw[e]at b4;simp at b4
   have hbx:=b5 x.length (Nat.le_refl _)
   obtain⟨r,r1,r2,r3⟩:=ih x (Or.inr ⟨hxc,hx⟩) (by
    unfold ZMr at hn ⊢
    rw[if_neg hxne]
    by_cases e:best=[]
    ·rw[if_pos e]at hn;omega
    ·rw[if_neg e]at hn
     have:=hlt e
     have:=hv e
     omega)
   have hj:∀(i1:List Int),Zeh m i1 q ()=some (.inl x):=fun i1=>by
    unfold Zeh
    rw[Zo (by omega),ZFC h hm q2 hd,Ze]
   have e:ZcT m c x=ZbV m++[obC m c (ZX c x x.length - 1)]:=by unfold ZcT;rw[if_neg hxne]
   have hi:ZbW m c f (true,ZbV m) (ZcT m c best,best)=some (.inl (ZcT m c x,x)):=by
    rw[e]
    unfold ZbW
    dsimp only
    rw[e1,Ze,Zo (by omega),Zo (by omega),Zdu (by omega),ZFj h hm q2 hd,Ze,Zjq b2 b3 b1,Ze,Zf (by omega) (by omega),ZnF m c _ h hcl,Ze,(ZAV hm hc ⟨by omega,by omega⟩).1]
    unfold ZqW
    dsimp only
    rw[ZsR _ (by omega),Ze,Zb (by simp only[Zl,Xak,Xal];omega),Zb hxne]
   have hs':Zcn m c f (true,ZbV m) best=some (.inl x):=by
    rw[hspec]
    unfold ZcP
    rw[e2,Ze,Zo (by omega),Zo (by omega),hj]
   refine⟨r,?_,?_,r3⟩
   ·rw[ZcB,hi];exact r1
   ·rw[ZcB,hs'];exact r2
  ·
   have hw:=hQ _ _ hs e1 q1 hok.top
   by_cases e:best=[]
   ·refine⟨(2,[],q.2.2),?_,?_,⟨Or.inr (Or.inr rfl),hok.top,hok.few,Or.inl rfl,fun _=>⟨rfl,fun v hv=>q3 v (by unfold ZcT;rw[if_pos e];exact hv)⟩,fun h=>absurd h (by show ¬(2:Int)=1;decide),fun _=>by rw[←e];exact hw⟩⟩
    ·have hi:ZbW m c f (true,ZbV m) (ZcT m c best,best)=some (.inr (2,[],q.2.2)):=by
      unfold ZbW
      dsimp only
      rw[e1,Ze,Zu q1,e]
      rfl
     rw[ZcB,hi]
     rfl
    ·have hs':Zcn m c f (true,ZbV m) best=some (.inr (2,[],q.2.2)):=by
      rw[hspec]
      unfold ZcP
      rw[e2,Ze,Zo (by omega),Zu q1,e,q1]
      rfl
     rw[ZcB,hs']
     rfl
   ·refine⟨(1,best,q.2.2),?_,?_,⟨Or.inr (Or.inl rfl),hok.top,hok.few,hb,fun h=>absurd h (by show ¬(1:Int)=2;decide),fun _=>⟨e,q3⟩,fun _=>hw⟩⟩
    ·have hi:ZbW m c f (true,ZbV m) (ZcT m c best,best)=some (.inr (1,best,q.2.2)):=by
      unfold ZbW
      dsimp only
      rw[e1,Ze,Zu q1,ZDU e,cff,Zu q1]
     rw[ZcB,hi]
     rfl
    ·have hs':Zcn m c f (true,ZbV m) best=some (.inr (1,best,q.2.2)):=by
      have:=ZKX e
      rw[hspec]
      unfold ZcP Zeh
      rw[e2,Ze,Zo (by omega),Zu q1,Zo (by omega),Zu q1]
     rw[ZcB,hs']
     rfl
  ·
   refine⟨(0,best,[]),?_,?_,⟨Or.inl rfl,Nat.zero_le _,fun s hs=>absurd hs XaE,hb,fun h=>absurd h (by show ¬(0:Int)=2;decide),fun h=>absurd h (by show ¬(0:Int)=1;decide),fun h=>absurd rfl h⟩⟩
   ·have hi:ZbW m c f (true,ZbV m) (ZcT m c best,best)=some (.inr (0,best,[])):=by
     unfold ZbW
     dsimp only
     rw[e1,Ze,Zo (by omega),Zo (by omega),Zd2 (by omega)]
    rw[ZcB,hi]
    rfl
   ·have hs':Zcn m c f (true,ZbV m) best=some (.inr (0,best,[])):=by
     rw[hspec]
     unfold ZcP
     rw[e2,Ze,Zu q1,q1]
    rw[ZcB,hs']
    rfl
theorem ZMC {Q:Zx→List ZB→Prop} {m:Zp} {c:List Int} (f:Int) (hQ:∀x r,Zjy x→Zg1 x f=some r→r.1=2→r.2.2.length≤1000→Q x r.2.2) (h:Zde m) (hcl:c.length≤1048576):∃r:ZOy,ZtN m c f=some r∧Zg6 m c f=some r ∧
  (r=(3,[],[])∨((Zz m=true∧ZfZ m c=true∧(ZbV m).length<400∧0≤f∧f≤2000)∧ZPf Q m c r)):=by
 unfold ZtN Zg6 ZnI
 rw[Zrr m h,Ze,Zrv m h,Ze]
 unfold ZCM
 cases hm:Zz m with
 |false=>
  rw[Xae,cff]
  exact⟨_,rfl,rfl,Or.inl rfl⟩
 |true=>
  rw[Xai]
  by_cases q4:(ZbV m).length≤400
  case neg=>
   rw[decide_eq_false q4,cff]
   exact⟨_,rfl,rfl,Or.inl rfl⟩
  rw[Xad q4,ctt,ctt,Ze]
  dsimp only
  rw[cnt,ZfI m c hcl,Ze,Zrj m c h hcl,Ze,hm,Xai,ZGC,Ze]
  by_cases q:(ZbV m).length<400
  case neg=>
   rw[decide_eq_false (by omega),cnf]
   cases ZfZ m c with
   |false=>rw[cnf];exact⟨_,rfl,rfl,Or.inl rfl⟩
   |true=>
    rw[cnt]
    by_cases f1:f<0
    ·rw[Zd f1];exact⟨_,rfl,rfl,Or.inl rfl⟩
    rw[Zc f1]
    by_cases f2:2000<f
    ·rw[Zd f2];exact⟨_,rfl,rfl,Or.inl rfl⟩
    rw[Zc f2,Zd (by omega)]
    exact⟨_,rfl,rfl,Or.inl rfl⟩
  rw[Xad (show ((ZbV m).length:Int)<400 by omega),cnt]
  cases hc:ZfZ m c with
  |false=>rw[cnf,cnf];exact⟨_,rfl,rfl,Or.inl rfl⟩
  |true=>
   rw[cnt,cnt]
   by_cases f1:f<0
   ·rw[Zd f1,decide_eq_false (show ¬0≤f by omega),Xae,cnf]
    exact⟨_,rfl,rfl,Or.inl rfl⟩
   rw[Zc f1]
   have f1':0≤f:=by omega
   rw[Xad f1',Xai]
   by_cases f2:2000<f
   ·rw[Zd f2,decide_eq_false (show ¬f≤2000 by omega),cnf]
    exact⟨_,rfl,rfl,Or.inl rfl⟩
   rw[Zc f2,Xad (show f≤2000 by omega),cnt,Zc (show ¬(400:Int)≤((ZbV m).length:Int) by omega)]
   obtain⟨r,r1,r2,r3⟩:=ZMB hQ h hm hc hcl q ⟨by omega,by omega⟩ _ [] (Or.inl rfl) (Nat.le_refl _)
   exact⟨r,r1,r2,Or.inr ⟨⟨rfl,rfl,q,by omega,by omega⟩,r3⟩⟩
end Go.AE.Y
namespace Go.AE.Y
open Go Go.AE
set_option maxHeartbeats 400000
end Go.AE.Y
namespace Go.AE.Y
open Go Go.AE
set_option maxHeartbeats 400000
def Zps (s:ZB) (i:Nat) (out:List Bool):List Bool:=
 if s.1=7 then List.replicate i true++out.drop i
 else if s.1=6 then out
 else if s.1=1 then(out.set s.2.1.toNat true).set s.2.2.1.toNat true
 else out.set s.2.1.toNat true
def Zpr (n:Nat) (by_:List ZB):Nat→List Bool→List Bool
 |0,out=>out
 |k+1,out=>Zpr n by_ k (bif out.getD (n+k) false then Zps (by_.getD k zS) (n+k) out else out)
def ZL7 (s:ZB) (i:Nat):Prop:=s.1≠7→s.1≠6→0≤s.2.1∧s.2.1.toNat<i∧(s.1=1→0≤s.2.2.1∧s.2.2.1.toNat<i)
theorem ZNs {s:ZB} {i:Nat} {out:List Bool} (h:i≤out.length):(Zps s i out).length=out.length:=by
 unfold Zps
 split
 ·rw[Xan,Xaw,Xbj];omega
 ·split
  ·rfl
  ·split
   ·rw[Xam,Xam]
   ·rw[Xam]
theorem ZCP {i j:Nat} {out:List Bool}:(List.replicate i true++out.drop i).getD j false=if j<i then true else out.getD j false:=by
 rw[Xaa]
 by_cases q:j<i
 ·rw[if_pos q,XaL (by rw[Xaw];exact q),XaW q]
  rfl
 ·rw[if_neg q,XaN (by rw[Xaw];omega),Xaw,XaU,show i+(j - i)=j by omega,Xaa]
theorem ZyY {out:List Bool} {a j:Nat} (h:out.getD j false=true):(out.set a true).getD j false=true:=by
 by_cases e:a=j
 ·subst e
  rcases Xag a out.length with q|q
  ·exact ZbE q
  ·rw[Xaa,Xax q]at h
   cases h
 ·rw[ZO e]
  exact h
theorem ZNr {s:ZB} {i:Nat} {out:List Bool} (hi:i≤out.length) (h:ZL7 s i):(∀j,out.getD j false=true→(Zps s i out).getD j false=true)∧(∀j,i≤j→(Zps s i out).getD j false=out.getD j false)∧∀j,j<i→Ziu s j→(Zps s i out).getD j false=true:=by
 have hrf:s.1≠7→∀j,Ziu s j→s.1≠6∧((j:Int)=s.2.1∨(s.1=1∧(j:Int)=s.2.2.1)):=fun h7 j hj=>by
  unfold Ziu at hj
  rw[if_neg h7]at hj
  by_cases k6:s.1=6
  ·rw[if_pos k6]at hj
   exact hj.elim
  ·rw[if_neg k6]at hj
   exact⟨k6,hj⟩
 unfold Zps
 by_cases k7:s.1=7
 ·rw[if_pos k7]
  refine⟨fun j hj=>?_,fun j hj=>?_,fun j hj _=>?_⟩
  ·rw[ZCP]
   split
   ·rfl
   ·exact hj
  ·rw[ZCP,if_neg (by omega)]
  ·rw[ZCP,if_pos hj]
 rw[if_neg k7]
 by_cases k6:s.1=6
 ·rw[if_pos k6]
  exact⟨fun j hj=>hj,fun j _=>rfl,fun j _ hr=>absurd k6 (hrf k7 j hr).1⟩
 rw[if_neg k6]
 obtain⟨a0,a1,hb⟩:=h k7 k6
 by_cases k1:s.1=1
 ·rw[if_pos k1]
  obtain⟨b0,b1⟩:=hb k1
  refine⟨fun j hj=>ZyY (ZyY hj),fun j hj=>?_,fun j hj hr=>?_⟩
  ·rw[ZO (by omega),ZO (by omega)]
  ·rcases(hrf k7 j hr).2 with hr|⟨_,hr⟩
   ·rw[show j=s.2.1.toNat by omega]
    exact ZyY (ZbE (by omega))
   ·rw[show j=s.2.2.1.toNat by omega]
    exact ZbE (by rw[Xam];omega)
 ·rw[if_neg k1]
  refine⟨fun j hj=>ZyY hj,fun j hj=>ZO (by omega),fun j hj hr=>?_⟩
  rcases(hrf k7 j hr).2 with hr|⟨k,_⟩
  ·rw[show j=s.2.1.toNat by omega]
   exact ZbE (by omega)
  ·exact absurd k k1
theorem ZyL {n:Nat} {by_:List ZB}:∀(m:Nat) (out:List Bool),n+m≤out.length→(∀k,k<m→ZL7 (by_.getD k zS) (n+k)) →
  (Zpr n by_ m out).length=out.length∧(∀j,out.getD j false=true→(Zpr n by_ m out).getD j false=true)∧(∀j,n+m≤j+1→(Zpr n by_ m out).getD j false=out.getD j false) ∧
  ∀k,k<m→(Zpr n by_ m out).getD (n+k) false=true→∀j,j<n+k→Ziu (by_.getD k zS) j→(Zpr n by_ m out).getD j false=true
 |0,out,_,_=>⟨rfl,fun j h=>h,fun j _=>rfl,fun k hk=>absurd hk (Nat.not_lt_zero _)⟩
 |m+1,out,hl,hr=>by
  have hm:=hr m (by omega)
  obtain⟨g1,g2,g3⟩:=ZNr (out:=out) (by omega) hm
  have hlen:(bif out.getD (n+m) false then Zps (by_.getD m zS) (n+m) out else out).length=out.length:=by
   cases out.getD (n+m) false with
   |true=>rw[ctt];exact ZNs (by omega)
   |false=>rw[cff]
  obtain⟨i1,i2,i3,i4⟩:=ZyL m (bif out.getD (n+m) false then Zps (by_.getD m zS) (n+m) out else out) (by omega) (fun k hk=>hr k (by omega))
  show (Zpr n by_ m (bif out.getD (n+m) false then Zps (by_.getD m zS) (n+m) out else out)).length=_∧_
  have e:Zpr n by_ (m+1) out=Zpr n by_ m (bif out.getD (n+m) false then Zps (by_.getD m zS) (n+m) out else out):=rfl
  rw[e]
  have keep:∀j,n+m≤j→(bif out.getD (n+m) false then Zps (by_.getD m zS) (n+m) out else out).getD j false=out.getD j false:=fun j hj=>by
   cases out.getD (n+m) false with
   |true=>rw[ctt];exact g2 j hj
   |false=>rw[cff]
  refine⟨by rw[i1,hlen],fun j hj=>i2 j ?_,fun j hj=>by rw[i3 j (by omega),keep j (by omega)],fun k hk hkt j hj hrf=>?_⟩
  ·cases out.getD (n+m) false with
   |true=>rw[ctt];exact g1 j hj
   |false=>rw[cff];exact hj
  ·rcases Xag k m with q|q
   ·exact i4 k q hkt j hj hrf
   ·have:k=m:=by omega
    subst this
    rw[i3 (n+k) (by omega),keep (n+k) (by omega)]at hkt
    refine i2 j ?_
    rw[hkt,ctt]
    exact g3 j hj hrf
def Zmh (c:Z9):Bool:=ZA c&&decide (ZkZ c<c.2)
theorem ZEz {v:List Bool}:∀l:List (Int×Int),(∀t∈l,1≤t.1)→Zcy v l≤(l.map (fun t=>t.1)).sum
 |[],_=>Xas _
 |t::l,h=>by
  have ih:=ZEz (v:=v) l (fun x hx=>h x (Xaq _ hx))
  have:=h t Xav
  rw[ZeV,XaV,XbN]
  cases ZT v t.2 with
  |true=>rw[ctt];omega
  |false=>rw[cff];omega
theorem ZOL {c:Z9} (h:Zmh c=true) (v:List Bool):¬ZR v c=true:=by
 unfold Zmh at h
 rw[Xaf,Xah]at h
 rw[ZpP]
 have:=ZEz (v:=v) c.1 (fun t ht=>(Zqi h.1 t ht).2)
 have h2:=h.2
 unfold ZkZ at h2
 omega
theorem ZMt {L cs:Zx} {by_:List ZB} (ht:ZHD L cs by_) {out:List Bool} (hl:out.length=L.length+cs.length) {v:List Bool}
  (hv:∀i,i<L.length→(Zpr L.length by_ cs.length out).getD i false=true→ZR v (L.getD i ([],0))=true) :
  ∀j,j<L.length+cs.length→(Zpr L.length by_ cs.length out).getD j false=true→ZR v ((L++cs).getD j ([],0))=true:=by
 have hr:∀k,k<cs.length→ZL7 (by_.getD k zS) (L.length+k):=fun k hk h7 h6=>by
  obtain⟨a0,b0⟩:=ht.range k hk h7 h6
  have hf:=(ht.refs k hk).2
  have ha:Ziu (by_.getD k zS) (by_.getD k zS).2.1.toNat:=by
   unfold Ziu
   rw[if_neg h7,if_neg h6]
   exact Or.inl (by omega)
  refine⟨a0,hf _ ha h7,fun k1=>⟨b0 k1,hf _ ?_ h7⟩⟩
  have:=b0 k1
  unfold Ziu
  rw[if_neg h7,if_neg h6]
  exact Or.inr ⟨k1,by omega⟩
 obtain⟨_,_,_,n4⟩:=ZyL cs.length out (by omega) hr
 intro j
 induction j using Nat.strongRecOn with
 |_ j ih=>
  intro hj hn
  rcases Xag j L.length with q|q
  ·rw[Xaa,XaL q,←Xaa]
   exact hv j q hn
  ·have hk:j - L.length<cs.length:=by omega
   have e:L.length+(j - L.length)=j:=by omega
   have h1:=ht.imp (j - L.length) hk v (fun i hi hrf=>ih i (by omega) (by omega) (n4 (j - L.length) hk (by rw[e];exact hn) i hi hrf))
   rwa [Xaa,XaN q,←Xaa]
def Zr0 (d:DbT):Option Nat:=(List.range d.1.length).find? (fun i=>!(d.2.getD i false)&&Zmh (d.1.getD i ([],0)))
noncomputable def Zfq (l:Zx) (S:List ZB):Option (DbT×Nat):=
 if ZeE l=true∧S.length≤1000 then(Zep (Zel l) S).bind fun d=>(Zr0 d).map fun i=>(d,i)else none
def ZPl (l:Zx) (S:List ZB) (r:DbT×Nat):List Bool:=Zpr l.length (byF S) (r.1.1.length - l.length) ((List.replicate r.1.1.length false).set r.2 true)
theorem ZwF {l:Zx} (hs:Zjy l) (hp:ZeE l=true):Zb1 l∧l.length≤400:=by
 refine⟨fun c hc=>⟨ZGL hp c hc,hs.2 c hc⟩,?_⟩
 unfold ZeE at hp
 simp only[Xaf,Xah]at hp
 exact hp.2
theorem ZJd {l:Zx} {S:List ZB} {r:DbT×Nat} (hs:Zjy l) (h:Zfq l S=some r):ZeE l=true∧S.length≤1000∧(∃cs,r.1.1=l++cs∧ZHD l cs (byF S))∧r.2<r.1.1.length∧Zmh (r.1.1.getD r.2 ([],0))=true ∧
  ∀v,¬(∀i,i<l.length→(ZPl l S r).getD i false=true→ZR v (l.getD i ([],0))=true):=by
 unfold Zfq at h
 by_cases q:ZeE l=true∧S.length≤1000
 ·rw[if_pos q]at h
  obtain⟨hg,h400⟩:=ZwF hs q.1
  cases hr:Zep (Zel l) S with
  |none=>rw[hr]at h;cases h
  |some d=>
   rw[hr,Ze]at h
   cases hf:Zr0 d with
   |none=>rw[hf]at h;cases h
   |some i=>
    rw[hf]at h
    have h:some (d,i)=some r:=h
    injection h with h
    subst h
    obtain⟨cs,e,ht⟩:=ZA7 S (Zel l) d hg (by show l.length+_≤_;omega) hr
    have e:d.1=l++cs:=e
    have ht:ZHD l cs (byF S):=ht
    have hi:=Xaz.1 (List.mem_of_find?_eq_some hf)
    have hfi:=List.find?_some hf
    rw[Xaf]at hfi
    refine⟨q.1,q.2,⟨cs,e,ht⟩,hi,hfi.2,fun v hv=>?_⟩
    have hlen:d.1.length=l.length+cs.length:=by rw[e,Xan]
    have hsub:d.1.length - l.length=cs.length:=by omega
    have hv':=ZMt ht (out:=(List.replicate d.1.length false).set i true) (by rw[Xam,Xaw];exact hlen) (v:=v) (fun j hj hn=>hv j hj (by unfold ZPl;dsimp only;rw[hsub];exact hn)) i (by omega) ?_
    ·rw[←e]at hv'
     exact ZOL hfi.2 v hv'
    ·obtain⟨_,n2,_⟩:=ZyL (n:=l.length) (by_:=byF S) cs.length ((List.replicate d.1.length false).set i true) (by rw[Xam,Xaw];omega) (fun k hk h7 h6=>by
      obtain⟨a0,b0⟩:=ht.range k hk h7 h6
      have hrf:=(ht.refs k hk).2
      refine⟨a0,hrf _ (by unfold Ziu;rw[if_neg h7,if_neg h6];exact Or.inl (by omega)) h7,fun k1=>⟨b0 k1,hrf _ (by have:=b0 k1;unfold Ziu;rw[if_neg h7,if_neg h6];exact Or.inr ⟨k1,by omega⟩) h7⟩⟩)
     exact n2 i (ZbE (by rw[Xaw];exact hi))
 ·rw[if_neg q]at h
  cases h
theorem ZyX:∀(S T:List ZB) (d:DbT),Zep d (S++T)=(Zep d S).bind fun d'=>Zep d' T
 |[],T,d=>rfl
 |s::S,T,d=>by
  show (ZfG d s).bind (fun d'=>Zep d' (S++T))=((ZfG d s).bind fun d'=>Zep d' S).bind fun d'=>Zep d' T
  cases ZfG d s with
  |none=>rfl
  |some d'=>exact ZyX S T d'
end Go.AE.Y
namespace Go.AE.Y
open Go Go.AE
end Go.AE.Y
namespace Go.AE.Y
open Go Go.AE
set_option maxHeartbeats 400000
end Go.AE.Y
namespace Go.AE.Y
open Go Go.AE
set_option maxHeartbeats 400000
theorem ZH0 {n:Int} (h:0≤n∧n≤4000000):ZgF n=some []:=by
 unfold ZgF
 rw[Zc (by omega),Zf (by omega) (by omega),Zf (by omega) (by omega)]
 by_cases q:0<n - (0 - 0)
 ·rw[Zd q,Zb rfl,Zb ⟨by omega,by simp only[Zl];omega⟩,Zb ⟨by omega,by omega⟩]
  rfl
 ·rw[Zc q]
theorem ZE9 {x y:List (Int×Int)} (hx:x.length≤1000) (hy:y.length≤1000):ZfC [x,y]=some (x++y):=by
 have e0:ZbM [x,y] ((0:Int),(0:Int))=some (.inl ((x.length:Int),(1:Int))):=by
  unfold ZbM
  dsimp only
  rw[Zd (by simp),Zb ⟨by omega,by simp⟩]
  show rq (i64 (0+(x.length:Int))) _=_
  rw[Zf (by omega) (by omega)]
  show cond (decide (0+(x.length:Int)<0)) none _=_
  rw[Zc (by omega),Zf (by omega) (by omega)]
  show some (Sum.inl (0+(x.length:Int),(0:Int)+1))=_
  rw[Int.zero_add]
  rfl
 have e1:ZbM [x,y] ((x.length:Int),(1:Int))=some (.inl ((x.length:Int)+(y.length:Int),(2:Int))):=by
  unfold ZbM
  dsimp only
  rw[Zd (by simp),Zb ⟨by omega,by simp⟩]
  show rq (i64 ((x.length:Int)+(y.length:Int))) _=_
  rw[Zf (by omega) (by omega)]
  show cond (decide ((x.length:Int)+(y.length:Int)<0)) none _=_
  rw[Zc (by omega),Zf (by omega) (by omega)]
  rfl
 have g0:ZbN [x,y] ((0:Int),([]:List (Int×Int)))=some (.inl ((1:Int),x)):=by
  unfold ZbN
  dsimp only
  rw[Zd (by simp),Zb ⟨by omega,by simp⟩]
  show rq (([]:List (Int×Int)).length+x.length≤Zl) _=_
  rw[Zb (by simp[Zl];omega),Zf (by omega) (by omega)]
  rfl
 have g1:ZbN [x,y] ((1:Int),x)=some (.inl ((2:Int),x++y)):=by
  unfold ZbN
  dsimp only
  rw[Zd (by simp),Zb ⟨by omega,by simp⟩]
  show rq (x.length+y.length≤Zl) _=_
  rw[Zb (by simp only[Zl];omega),Zf (by omega) (by omega)]
  rfl
 have g2:ZbN [x,y] ((2:Int),x++y)=some (.inr (.inr (x++y))):=by
  unfold ZbN
  dsimp only
  rw[Zc (by simp)]
 have e2:ZbM [x,y] ((x.length:Int)+(y.length:Int),(2:Int))=some (.inr (x++y)):=by
  unfold ZbM
  dsimp only
  rw[Zc (by simp),ZH0 ⟨by omega,by omega⟩,Ze,ZcB,g0,Ze]
  dsimp only
  rw[ZcB,g1,Ze]
  dsimp only
  rw[ZcB,g2,Ze]
 unfold ZfC
 rw[ZcB,e0,Ze]
 dsimp only
 rw[ZcB,e1,Ze]
 dsimp only
 rw[ZcB,e2,Ze]
theorem ZIX {α R:Type} {f:Int×List α→Option ((Int×List α)⊕R)} (l:List α) (d:α) (g:α→α) (fin:List α→R)
  (h:∀(i:Nat) (out:List α),i<l.length→out.length=l.length→out.getD i d=l.getD i d→f ((i:Int),out)=some (.inl ((i:Int)+1,out.set i (g (l.getD i d)))))
  (hn:f ((l.length:Int),l.map g)=some (.inr (fin (l.map g)))):loop f ((0:Int),l)=some (fin (l.map g)):=by
 refine ZL (f:=f) (fun s:Int×List α=>∃i:Nat,s.1=i∧i≤l.length∧s.2=(l.take i).map g++l.drop i) (fun s=>l.length - s.1.toNat) (fun _=>fin (l.map g)) ?_ _ ⟨0,rfl,Nat.zero_le _,by simp⟩
 rintro⟨s,out⟩ ⟨i,hs,hi,ho⟩
 dsimp only at hs ho ⊢
 subst hs
 rcases Xag i l.length with h1|h1
 ·left
  have hlen:out.length=l.length:=by rw[ho,Xan,Xap,Xay,Xbj];omega
  have hl1:((l.take i).map g).length=i:=by rw[Xap,Xay];omega
  have hget:out.getD i d=l.getD i d:=by
   rw[ho,Xaa,XaN (by omega),hl1,Nat.sub_self,XaU,XbY,Xaa]
  refine⟨_,h i out h1 hlen hget,⟨i+1,by simp,by omega,?_⟩,by dsimp only;omega,rfl⟩
  dsimp only
  rw[ho,List.set_append_right _ _ (by omega),hl1,Nat.sub_self,Xbx h1,List.set_cons_zero,Zev d h1,Xa3,XaJ]
  rfl
 ·right
  have:i=l.length:=by omega
  subst this
  rw[XaB,List.drop_length,Xau]at ho
  rw[ho,hn]
theorem ZHy {ts:List (Int×Int)} {b:Int} (hts:∀t∈ts,okS t) (hl:ts.length≤50) (hb : -50000≤b∧b≤50000):Zui ts b=some (Zcx ts b):=by
 unfold Zui
 rw[Zb ⟨by omega,by simp only[Zl];omega,rfl⟩]
 refine ZL (f:=Zpu ts) (fun s:Int×Int×List Int=>∃n:Nat,s.2.1=n∧n≤ts.length∧(s.1,s.2.2)=Zcx (ts.take n) b) (fun s=>ts.length - s.2.1.toNat) (fun _=>Zcx ts b) ?_ _ ⟨0,rfl,Nat.zero_le _,rfl⟩
 rintro⟨b',s,o⟩ ⟨n,hs,hn,ho⟩
 dsimp only at hs ho ⊢
 subst hs
 obtain⟨f1,f2,f3,f4⟩:=Zq7 (b:=b) hts n hn
 have e1:b'=(Zcx (ts.take n) b).1:=by rw[←ho]
 have e2:o=(Zcx (ts.take n) b).2:=by rw[←ho]
 rw[←e1]at f3
 rw[←e2]at f1 f2 f4
 unfold Zpu
 dsimp only
 rcases Xag n ts.length with h1|h1
 ·left
  obtain⟨⟨ok1,ok1'⟩,ok2⟩:=hts _ (ZF (l:=ts) (i:=n) (d:=(0,0)) h1)
  have hlit:=ZG.1 ok2
  rw[Zd (by omega),Zb ⟨by omega,by omega⟩,Xab]
  by_cases q:(ts.getD n (0,0)).2<0
  ·have:=f4 (0 - (ts.getD n (0,0)).2).toNat
   unfold Zty
   rw[Xab,Zc (by omega),Zf (by omega) (by omega),Zf (by omega) (by omega),Zb ⟨by omega,by omega⟩,Zf (by omega) (by omega),Zb ⟨by omega,by omega⟩,Zf (by omega) (by omega),Zf (by omega) (by omega)]
   refine⟨_,rfl,⟨n+1,by simp,by omega,?_⟩,by (try dsimp only)<;>omega,rfl⟩
   dsimp only
   rw[ZnO h1,←ho]
   unfold Zmq
   rw[if_pos q]
  ·have:=f4 (ts.getD n (0,0)).2.toNat
   rw[Zd (by omega),Zb ⟨by omega,by omega⟩,Zf (by omega) (by omega),Zb ⟨by omega,by omega⟩,Zf (by omega) (by omega)]
   refine⟨_,rfl,⟨n+1,by simp,by omega,?_⟩,by (try dsimp only)<;>omega,rfl⟩
   dsimp only
   rw[ZnO h1,←ho]
   unfold Zmq
   rw[if_neg q]
 ·right
  have hnn:n=ts.length:=by omega
  rw[hnn,XaB]at ho
  rw[Zc (by omega)]
  unfold Ztx
  dsimp only
  rw[ho]
  rfl
theorem ZEx {net:List Int} {b:Int} (hl:net.length=13) (hbd:∀j,-100000≤net.getD j 0∧net.getD j 0≤100000) (hb : -100000≤b∧b≤100000):Zfs net b=some (Zcw net b):=by
 unfold Zfs
 refine ZL (f:=Zf0 net) (fun s:Int×Int×List (Int×Int)=>∃n:Nat,s.2.1=(n:Int)+1∧n≤12∧s.1=Z4 net b n∧s.2.2=Zb0 net n) (fun s=>13 - s.2.1.toNat) (fun _=>Zcw net b) ?_ _ ⟨0,rfl,Nat.zero_le _,rfl,rfl⟩
 rintro⟨c,s,t⟩ ⟨n,hs,hn,hc,ht⟩
 dsimp only at hs hc ht ⊢
 subst hs
 subst hc
 subst ht
 have hpl:=ZpY net n
 have hnb:=Zpe (net:=net) (b:=b) (K:=100000) (by omega) (fun j=>by have:=hbd j;omega) n
 have en:((n:Int)+1).toNat=n+1:=by omega
 unfold Zf0
 dsimp only
 rcases Xag n 12 with h4|h4
 ·left
  have hbn:=hbd (n+1)
  rw[Zd (by omega),Zb ⟨by omega,by omega⟩,en]
  unfold Zie
  rw[en]
  by_cases q1:0<net.getD (n+1) 0
  ·rw[Zd q1,Zb ⟨by omega,by omega⟩,Zb (by simp[Zl];omega),Zb ⟨by omega,by omega⟩,Zc (by omega),Zf (by omega) (by omega)]
   refine⟨_,rfl,⟨n+1,by simp,by omega,?_,?_⟩,by (try dsimp only)<;>omega,rfl⟩
   ·show Z4 net b n=Z4 net b (n+1)
    conv=>rhs;unfold Z4
    rw[if_neg (by omega)]
   ·show _=Zb0 net (n+1)
    conv=>rhs;unfold Zb0
    rw[if_pos q1]
    rfl
  ·rw[Zc q1,Zb ⟨by omega,by omega⟩]
   by_cases q2:net.getD (n+1) 0<0
   ·unfold ZlH
    rw[Zd q2,Zb ⟨by omega,by omega⟩,Zf (by omega) (by omega),Zf (by omega) (by omega),Zb (by simp[Zl];omega),Zb ⟨by omega,by omega⟩,en,Zf (by omega) (by omega),Zf (by omega) (by omega)]
    refine⟨_,rfl,⟨n+1,by simp,by omega,?_,?_⟩,by (try dsimp only)<;>omega,rfl⟩
    ·show Z4 net b n - _=Z4 net b (n+1)
     conv=>rhs;unfold Z4
     rw[if_pos q2]
    ·show _=Zb0 net (n+1)
     conv=>rhs;unfold Zb0
     rw[if_neg q1,if_pos q2]
     rfl
   ·rw[Zc q2,Zf (by omega) (by omega)]
    refine⟨_,rfl,⟨n+1,by simp,by omega,?_,?_⟩,by (try dsimp only)<;>omega,rfl⟩
    ·show Z4 net b n=Z4 net b (n+1)
     conv=>rhs;unfold Z4
     rw[if_neg q2]
    ·show _=Zb0 net (n+1)
     conv=>rhs;unfold Zb0
     rw[if_neg q1,if_neg q2,Xau]
 ·right
  have:n=12:=by omega
  subst this
  have fin:∀x:Int,x=max 0 (Z4 net b 12)→ZeL (Zb0 net 12) x=some (Zcw net b):=fun x hx=>by
   subst hx
   unfold ZeL Zcw
   rw[ZY _ (by (try dsimp only)<;>omega),Ze]
   cases ZA (Zb0 net 12,max 0 (Z4 net b 12))with
   |true=>rw[cnt,ctt]
   |false=>rw[cnf,cff]
  unfold ZlG
  dsimp only
  rw[Zc (by omega)]
  by_cases q:Z4 net b 12<0
  ·rw[Zd q,fin 0 (by omega)];rfl
  ·rw[Zc q,fin _ (by omega)];rfl
theorem ZdM {c:Z9} (h:ZA c=true):c.1.length≤12∧0≤c.2∧c.2≤20000:=⟨ZAm h,(Zdp h).1⟩
theorem ZJ6 {a b:Z9} (ha:ZA a=true) (hb:ZA b=true):Zio a b=some (ZuW a b):=by
 have a1:=ZdM ha
 have b1:=ZdM hb
 unfold Zio ZjQ ZuW
 rw[Zbh a (by omega),Ze,ha,cnt,Zbh b (by omega),Ze,hb,cnt,ZE9 (by omega) (by omega),Ze,Zf (by omega) (by omega),Zwz (ZEe ha hb) (by rw[Xan];omega) ⟨by omega,by omega⟩,Ze,Xai,ctt]
theorem ZKv {a b:Z9} (ha:ZA a=true) (hb:ZA b=true):Ziw a b=some (ZuW a b):=by
 have a1:=ZdM ha
 have b1:=ZdM hb
 have hl:(a.1++b.1).length≤24:=by rw[Xan];omega
 obtain⟨n1,_,n3,n4⟩:=Zq7 (b:=a.2+b.2) (ZEe ha hb) (a.1++b.1).length (Nat.le_refl _)
 rw[XaB]at n1 n3 n4
 unfold Ziw ZjS ZuW
 rw[ZY a (by omega),Ze,ha,cnt,ZY b (by omega),Ze,hb,cnt,Zf (by omega) (by omega),Zb (by simp only[Zl,Xal];omega),Zb (by simp only[Zl,Xao];omega),Xao,
  ZHy (ZEe ha hb) (by omega) ⟨by omega,by omega⟩,Ze,ZEx n1 (fun j=>by have:=n4 j;omega) ⟨by omega,by omega⟩,Ze,Xai,ctt]
def ZmX (r:ZoC):Bool×List (Int×Int)×Int:=(r.1,r.2.2,r.2.1)
theorem Zxt {c:Z9} (h:c.1.length≤1000):Zc7 c=some (ZmX (Zfm c)):=by
 unfold Zc7 Zfm ZmX
 rw[Zbh c (by omega),Ze]
 cases ZA c with
 |true=>rw[cnt,ctt];rfl
 |false=>rw[cnf,cff];rfl
theorem ZyK {a k:Int} (ha:0≤a∧a≤20000) (hk:1≤k∧k≤1000):0≤a*k∧a*k≤20000000:=by
 refine⟨Int.mul_nonneg ha.1 (by omega),?_⟩
 have:=Int.mul_le_mul ha.2 hk.2 (by omega) (by omega)
 omega
theorem ZJ9 {c:Z9} {k:Int} (hc:ZA c=true):Zfz c k=some (ZmX (Zvg c k)):=by
 have c1:=ZdM hc
 obtain⟨_,c2⟩:=Zdp hc
 unfold Zfz Zvg
 rw[Zbh c (by omega),Ze,hc,cnt,ZbK,Ze,Xai]
 cases hq:decide (1≤k)&&decide (k≤1000)with
 |false=>rw[cnf,cff];rfl
 |true=>
  simp only[Xaf,Xah]at hq
  have hb:=ZyK c1.2 hq
  rw[cnt,ctt]
  have e:Zbx c k=some (ZmX (Zfm (Ztu c k))):=by
   unfold Zbx
   have e1:Zch c.2 k=some (c.2*k):=by
    unfold Zch
    rw[Zf (by omega) (by omega)]
   rw[ZEh c (by omega),Ze,e1,Ze]
   refine ZIX c.1 (0,0) (fun t=>(t.1*k,t.2)) (fun _=>ZmX (Zfm (Ztu c k))) (fun i out hi hl hg=>?_) ?_
   ·obtain⟨l1,l2,l3⟩:=c2 i hi
    have hb2:=ZyK (a:=(c.1.getD i (0,0)).1) ⟨by omega,by omega⟩ hq
    unfold Zbl
    dsimp only
    have e2:Zch (c.1.getD i (0,0)).1 k=some ((c.1.getD i (0,0)).1*k):=by
     unfold Zch
     rw[Zf (by omega) (by omega)]
    rw[Zd (by omega),Zb ⟨by omega,by omega⟩,Xab,hg,e2,Ze,Zb ⟨by omega,by omega⟩,Zf (by omega) (by omega)]
   ·unfold Zbl Zb6
    dsimp only
    have e3:Zc7 (c.1.map (fun t=>(t.1*k,t.2)),c.2*k)=some (ZmX (Zfm (Ztu c k))):=Zxt (c:=Ztu c k) (by show (c.1.map _).length≤1000;rw[Xap];omega)
    rw[Zc (by omega),e3,Ze]
    generalize ZmX (Zfm (Ztu c k))=q
    rfl
  rw[e,Ze]
theorem ZLe {a k:Int} (ha:0≤a∧a≤20000) (hk:1≤k∧k≤1000):0≤upI a k∧upI a k≤a∧(1≤a→1≤upI a k):=by
 have h1:=ZNN (n:=a) (m:=a) (k:=k) hk.1 (by
  have:=Int.mul_le_mul_of_nonneg_left hk.1 ha.1
  omega)
 have h2:=ZNg (n:=a) hk.1
 have h3:0≤upI a k:=Int.ediv_nonneg (by omega) (by omega)
 refine⟨h3,h1,fun h=>?_⟩
 rcases Int.lt_or_le (upI a k) 1 with q|q
 ·have e:upI a k=0:=by omega
  rw[e,Int.zero_mul]at h2
  omega
 ·exact q
theorem ZJ7 {c:Z9} {k:Int} (hc:ZA c=true):ZgA c k=some (ZmX (Zu3 c k)):=by
 have c1:=ZdM hc
 obtain⟨_,c2⟩:=Zdp hc
 unfold ZgA Zu3
 rw[Zbh c (by omega),Ze,hc,cnt,ZbK,Ze,Xai]
 cases hq:decide (1≤k)&&decide (k≤1000)with
 |false=>rw[cnf,cff];rfl
 |true=>
  simp only[Xaf,Xah]at hq
  rw[cnt,ctt]
  have e1:∀n:Int,0≤n→n≤20000→Zek n k=some (upI n k):=fun n h1 h2=>by
   unfold Zek upI
   rw[Zf (by omega) (by omega),Zf (by omega) (by omega),Zb ⟨by omega,by omega⟩]
  have e:ZbF c k=some (ZmX (Zfm (Zu4 c k))):=by
   unfold ZbF
   rw[ZEh c (by omega),Ze,e1 c.2 (by omega) (by omega),Ze]
   refine ZIX c.1 (0,0) (fun t=>(upI t.1 k,t.2)) (fun _=>ZmX (Zfm (Zu4 c k))) (fun i out hi hl hg=>?_) ?_
   ·obtain⟨l1,l2,l3⟩:=c2 i hi
    unfold Zbs
    dsimp only
    rw[Zd (by omega),Zb ⟨by omega,by omega⟩,Xab,hg,e1 _ (by omega) (by omega),Ze,Zb ⟨by omega,by omega⟩,Zf (by omega) (by omega)]
   ·unfold Zbs Zce
    dsimp only
    have e3:Zc7 (c.1.map (fun t=>(upI t.1 k,t.2)),upI c.2 k)=some (ZmX (Zfm (Zu4 c k))):=Zxt (c:=Zu4 c k) (by show (c.1.map _).length≤1000;rw[Xap];omega)
    rw[Zc (by omega),e3,Ze]
    generalize ZmX (Zfm (Zu4 c k))=q
    rfl
  rw[e,Ze]
theorem ZKy {c:Z9} {k:Int} (hc:ZA c=true):ZfE c k=some (Zvg c k):=by
 have c1:=ZdM hc
 obtain⟨_,c2⟩:=Zdp hc
 unfold ZfE Zvg
 rw[ZY c (by omega),Ze,hc,cnt,Xai]
 by_cases q1:k<1
 ·rw[Zd q1,decide_eq_false (show ¬1≤k by omega),Xae,cff];rfl
 rw[Zc q1,Xad (show 1≤k by omega),Xai]
 by_cases q2:1000<k
 ·rw[Zd q2,decide_eq_false (show ¬k≤1000 by omega),cff];rfl
 have hq:1≤k∧k≤1000:=⟨by omega,by omega⟩
 have hb:=ZyK c1.2 hq
 rw[Zc q2,Xad hq.2,ctt,Zf (by omega) (by omega)]
 have:=Zbi (f:=ZdK c k) c.1 (0,0) (fun t=>(t.1*k,t.2)) [] (fun _=>Zfm (Ztu c k)) (fun i out hi ho=>?_) ?_
 ·exact this
 ·obtain⟨l1,l2,l3⟩:=c2 i hi
  have hb2:=ZyK (a:=(c.1.getD i (0,0)).1) ⟨by omega,by omega⟩ hq
  unfold ZdK
  dsimp only
  rw[Zd (by omega),Zb ⟨by omega,by omega⟩,Xab,Zf (by omega) (by omega),Zb ⟨by omega,by omega⟩,Zb (by simp only[Zl,Xak,Xal];simp at ho;omega),Zf (by omega) (by omega)]
 ·unfold ZdK ZgT
  dsimp only
  have e:ZV (c.1.map (fun t=>(t.1*k,t.2)),c.2*k)=some (ZA (Ztu c k)):=ZY (Ztu c k) (by show (c.1.map _).length≤_;rw[Xap];omega)
  rw[Zc (by omega),Xao,e,Ze]
  unfold Zfm
  cases ZA (Ztu c k)with
  |true=>rw[cnt,ctt];rfl
  |false=>rw[cnf,cff];rfl
theorem ZOI {c:Z9} {k:Int} (hc:ZA c=true) (hk:1≤k∧k≤1000):ZA (Zu4 c k)=true:=by
 obtain⟨h1,h2,h3,h4⟩:=ZhT.1 hc
 have hb:=ZLe (a:=c.2) ⟨h3,h4⟩ hk
 rw[ZhT]
 unfold Zu4
 refine⟨fun t ht=>?_,XbW.2 (h2.imp (fun hab=>hab)),hb.1,by dsimp only;omega⟩
 obtain⟨x,hx,rfl⟩:=XaG.1 ht
 have hx':=h1 x hx
 have:=ZLe (a:=x.1) ⟨by omega,by omega⟩ hk
 dsimp only
 exact⟨hx'.1,by omega,by omega⟩
theorem ZKw {c:Z9} {k:Int} (hc:ZA c=true):ZgG c k=some (Zu3 c k):=by
 have c1:=ZdM hc
 obtain⟨_,c2⟩:=Zdp hc
 unfold ZgG Zh7 Zu3
 rw[ZY c (by omega),Ze,hc,cnt,Xai]
 by_cases q1:k<1
 ·rw[Zd q1,decide_eq_false (show ¬1≤k by omega),Xae,cff];rfl
 rw[Zc q1,Xad (show 1≤k by omega),Xai]
 by_cases q2:1000<k
 ·rw[Zd q2,decide_eq_false (show ¬k≤1000 by omega),cff];rfl
 have hq:1≤k∧k≤1000:=⟨by omega,by omega⟩
 have e1:∀n:Int,0≤n→n≤20000→Zs7 n k=some (upI n k):=fun n h1 h2=>by
  unfold Zs7 upI
  rw[Zf (by omega) (by omega),Zf (by omega) (by omega),Zb ⟨by omega,by omega⟩]
 rw[Zc q2,Xad hq.2,ctt,e1 c.2 (by omega) (by omega),Ze]
 unfold Zfm
 rw[ZOI hc hq,ctt]
 have:=Zbi (f:=Zd9 c k (upI c.2 k)) c.1 (0,0) (fun t=>(upI t.1 k,t.2)) [] (fun _=>Zvk (Zu4 c k)) (fun i out hi ho=>?_) ?_
 ·exact this
 ·obtain⟨l1,l2,l3⟩:=c2 i hi
  unfold Zd9
  dsimp only
  rw[Zd (by omega),Zb ⟨by omega,by omega⟩,Xab,e1 _ (by omega) (by omega),Ze,Zb ⟨by omega,by omega⟩,Zb (by simp only[Zl,Xak,Xal];simp at ho;omega),Zf (by omega) (by omega)]
 ·unfold Zd9
  dsimp only
  rw[Zc (by omega),Xao]
  rfl
theorem ZKa {c:Z9} (hc:ZA c=true):ZfA c=some (ZA8 c):=by
 have c1:=ZdM hc
 unfold ZfA ZA8
 rw[Zbh c (by omega),Ze,hc,cnt,ctt]
 by_cases q:0<c.2
 ·rw[Zd q]
  have:=Zbi (f:=ZdI c) c.1 (0,0) (fun t=>(min t.1 c.2,t.2)) [] (fun _=>Zvk (Zvr c)) (fun i out hi ho=>?_) ?_
  ·exact this
  ·unfold ZdI
   dsimp only
   rw[Zd (by omega),Zb ⟨by omega,by omega⟩,Xab,Zb (by simp only[Zl,Xak,Xal];simp at ho;omega),Zf (by omega) (by omega)]
  ·unfold ZdI Zvr
   dsimp only
   rw[Zc (by omega),Xao,if_pos q]
   rfl
 ·rw[Zc q]
  unfold Zvr
  rw[if_neg q]
  rfl
theorem ZKz {c:Z9} (hc:ZA c=true):ZfF c=some (ZA8 c):=by
 have c1:=ZdM hc
 unfold ZfF ZA8
 rw[ZY c (by omega),Ze,hc,cnt,ctt]
 have e:Zm3 c=some ((Zvr c).2,(Zvr c).1):=by
  unfold Zm3 Zvr
  by_cases q:0<c.2
  ·rw[if_pos q]
   have:=Zbi (f:=ZeU c) c.1 (0,0) (fun t=>(min t.1 c.2,t.2)) [] (fun o=>(c.2,o)) (fun i out hi ho=>?_) ?_
   ·rw[Xao]at this
    exact this
   ·unfold ZeU ZjB
    dsimp only
    rw[Zd (by omega),Zd q,Zb ⟨by omega,by omega⟩,Xab]
    by_cases q2:c.2<(c.1.getD i (0,0)).1
    ·rw[Zd q2,Zb (by simp only[Zl,Xak,Xal];simp at ho;omega),Zf (by omega) (by omega),show min (c.1.getD i (0,0)).1 c.2=c.2 by omega]
    ·rw[Zc q2,Zb (by simp only[Zl,Xak,Xal];simp at ho;omega),Zf (by omega) (by omega),show min (c.1.getD i (0,0)).1 c.2=(c.1.getD i (0,0)).1 by omega]
   ·unfold ZeU
    dsimp only
    rw[Zc (by omega)]
  ·rw[if_neg q,ZcB]
   unfold ZeU
   dsimp only
   by_cases q2:(0:Int)<(c.1.length:Int)
   ·rw[Zd q2,Zc q,Ze]
   ·rw[Zc q2,Ze]
 rw[e,Ze]
 rfl
theorem ZqQ (l:List (Int×Int)) (t:Int×Int) (x:Int):Zgy (l++[t]) x=Zgy l x+(if vof t.2=x then t.1 else 0):=by
 unfold Zgy
 rw[List.filter_append,Xa3,List.sum_append]
 congr 1
 by_cases q:vof t.2=x
 ·rw[Xa5 (p:=fun t:Int×Int=>decide (vof t.2=x)) (Xad q),if_pos q]
  show t.1+0=t.1
  omega
 ·rw[Xa4 (p:=fun t:Int×Int=>decide (vof t.2=x)) (by rw[Xah];exact q),if_neg q]
  rfl
theorem ZwB (l:List (Int×Int)) (t:Int×Int) (x:Int):(l++[t]).filter (fun t=>!decide (vof t.2=x))=l.filter (fun t=>!decide (vof t.2=x))++(if vof t.2=x then[]else[t]):=by
 rw[List.filter_append]
 congr 1
 by_cases q:vof t.2=x
 ·rw[Xa4 (by rw[Xad q];decide),if_pos q]
  rfl
 ·rw[Xa5 (by rw[decide_eq_false q];rfl),if_neg q]
  rfl
theorem ZIh {c:Z9} {x:Int} {i:Nat} (hc:ZA c=true) (hi:i<c.1.length) (hx:vof (c.1.getD i (0,0)).2=x):Zgy (c.1.take i) x=0:=by
 have hp:=(ZhT.1 hc).2.1
 unfold Zgy
 have:(c.1.take i).filter (fun t=>decide (vof t.2=x))=[]:=List.filter_eq_nil_iff.2 (fun t ht=>by
  obtain⟨j,hj,rfl⟩:=Xat.1 ht
  rw[Xay]at hj
  have:=XaX.1 hp j i (by omega) hi (by omega)
  rw[Xaa,Xac hi]at hx
  have hx:vof (c.1[i]).2=x:=hx
  rw[Xa9,Xah]
  omega)
 rw[this]
 rfl
theorem ZCK {c:Z9} {x:Int} (hc:ZA c=true):∀i,i≤c.1.length→0≤Zgy (c.1.take i) x∧Zgy (c.1.take i) x≤1000*i
 |0,_=>⟨Xas _,Xas _⟩
 |i+1,hi=>by
  have ih:=ZCK (x:=x) hc i (by omega)
  obtain⟨l1,l2,l3⟩:=(Zdp hc).2 i (by omega)
  rw[Zev (0,0) (by omega),ZqQ]
  split<;>omega
theorem ZIB {c:Z9} {x:Int} (hc:ZA c=true):ZgB c x=some (ZwN c x):=by
 have c1:=ZdM hc
 obtain⟨_,c2⟩:=Zdp hc
 unfold ZgB ZwN
 rw[Zbh c (by omega),Ze,hc,cnt,ZbK,Ze,Xai]
 cases hq:decide (1≤x)&&decide (x≤12)with
 |false=>rw[cnf,cff];rfl
 |true=>
  rw[cnt,ctt]
  refine ZL (f:=Zfb c x) (fun s:Int×Int×List (Int×Int)=>∃n:Nat,s.1=n∧n≤c.1.length∧s.2.1=max 0 (c.2 - Zgy (c.1.take n) x)∧s.2.2=(c.1.take n).filter (fun t=>!decide (vof t.2=x))) (fun s=>c.1.length - s.1.toNat) (fun _=>Zvk (ZBL c x)) ?_ _ ⟨0,rfl,Nat.zero_le _,by show c.2=max 0 (c.2 - 0);omega,rfl⟩
  rintro⟨s,b,o⟩ ⟨n,hs,hn,hb,ho⟩
  dsimp only at hs hb ho ⊢
  subst hs
  have hcl:=ZCK (x:=x) hc n hn
  have hol:o.length≤n:=by
   rw[ho]
   have:=XbK (fun t:Int×Int=>!decide (vof t.2=x)) (c.1.take n)
   rw[Xay]at this
   omega
  unfold Zfb
  dsimp only
  rcases Xag n c.1.length with h1|h1
  ·left
   obtain⟨l1,l2,l3⟩:=c2 n h1
   have hlit:=ZG.1 l1
   rw[Zd (by omega),Zb ⟨by omega,by omega⟩,Xab,ZeQ (by omega),Ze]
   by_cases q:vof (c.1.getD n (0,0)).2=x
   ·have h0:=ZIh hc h1 q
    rw[Zu q,Zf (by omega) (by omega),Zf (by omega) (by omega)]
    refine⟨_,rfl,⟨n+1,by simp,by omega,?_,?_⟩,by (try dsimp only)<;>omega,rfl⟩
    ·dsimp only
     rw[Zev (0,0) h1,ZqQ,if_pos q,h0,Int.zero_add]
    ·dsimp only
     rw[Zev (0,0) h1,ZwB,if_pos q,Xau,ho]
   ·rw[Zo q,Zb (by simp only[Zl,Xak,Xal];omega),Zf (by omega) (by omega)]
    refine⟨_,rfl,⟨n+1,by simp,by omega,?_,?_⟩,by (try dsimp only)<;>omega,rfl⟩
    ·dsimp only
     rw[Zev (0,0) h1,ZqQ,if_neg q,Int.add_zero]
     exact hb
    ·dsimp only
     rw[Zev (0,0) h1,ZwB,if_neg q,ho]
  ·right
   have hnn:n=c.1.length:=by omega
   rw[hnn,XaB]at hb ho
   rw[Zc (by omega),hb,ho]
   rfl
theorem ZJq {c:Z9} {x:Int} (hc:ZA c=true):ZgJ c x=some (ZwN c x):=by
 have c1:=ZdM hc
 obtain⟨_,c2⟩:=Zdp hc
 unfold ZgJ ZwN
 rw[ZY c (by omega),Ze,hc,cnt,Xai]
 by_cases q1:x<1
 ·rw[Zd q1,decide_eq_false (show ¬1≤x by omega),Xae,cff];rfl
 rw[Zc q1,Xad (show 1≤x by omega),Xai]
 by_cases q2:12<x
 ·rw[Zd q2,decide_eq_false (show ¬x≤12 by omega),cff];rfl
 rw[Zc q2,Xad (show x≤12 by omega),ctt]
 refine ZL (f:=Zfk c x) (fun s:Int×Int×List (Int×Int)=>∃n:Nat,s.1=n∧n≤c.1.length∧s.2.1=c.2 - Zgy (c.1.take n) x∧s.2.2=(c.1.take n).filter (fun t=>!decide (vof t.2=x))) (fun s=>c.1.length - s.1.toNat) (fun _=>Zvk (ZBL c x)) ?_ _ ⟨0,rfl,Nat.zero_le _,by show c.2=c.2 - 0;omega,rfl⟩
 rintro⟨s,b,o⟩ ⟨n,hs,hn,hb,ho⟩
 dsimp only at hs hb ho ⊢
 subst hs
 have hcl:=ZCK (x:=x) hc n hn
 have hol:o.length≤n:=by
  rw[ho]
  have:=XbK (fun t:Int×Int=>!decide (vof t.2=x)) (c.1.take n)
  rw[Xay]at this
  omega
 unfold Zfk
 dsimp only
 rcases Xag n c.1.length with h1|h1
 ·left
  obtain⟨l1,l2,l3⟩:=c2 n h1
  have hlit:=ZG.1 l1
  rw[Zd (by omega),Zb ⟨by omega,by omega⟩,Xab,Ztv (by omega),Ze]
  by_cases q:vof (c.1.getD n (0,0)).2=x
  ·rw[Zu q,Zb ⟨by omega,by omega⟩,Zf (by omega) (by omega),Zf (by omega) (by omega)]
   refine⟨_,rfl,⟨n+1,by simp,by omega,?_,?_⟩,by (try dsimp only)<;>omega,rfl⟩
   ·dsimp only
    rw[Zev (0,0) h1,ZqQ,if_pos q]
    omega
   ·dsimp only
    rw[Zev (0,0) h1,ZwB,if_pos q,Xau,ho]
  ·rw[Zo q,Zb ⟨by omega,by omega⟩,Zb (by simp only[Zl,Xak,Xal];omega),Zf (by omega) (by omega)]
   refine⟨_,rfl,⟨n+1,by simp,by omega,?_,?_⟩,by (try dsimp only)<;>omega,rfl⟩
   ·dsimp only
    rw[Zev (0,0) h1,ZqQ,if_neg q,Int.add_zero]
    exact hb
   ·dsimp only
    rw[Zev (0,0) h1,ZwB,if_neg q,ho]
 ·right
  have hnn:n=c.1.length:=by omega
  rw[hnn,XaB]at hb ho
  unfold Zid
  dsimp only
  rw[Zc (by omega)]
  by_cases q:b<0
  ·rw[Zd q,ho]
   show some (Sum.inr (true,(0:Int),_))=some (Sum.inr (true,max 0 (c.2 - Zgy c.1 x),_))
   rw[show max 0 (c.2 - Zgy c.1 x)=(0:Int) by omega]
   rfl
  ·rw[Zc q,ho]
   show some (Sum.inr (true,b,_))=some (Sum.inr (true,max 0 (c.2 - Zgy c.1 x),_))
   rw[show max 0 (c.2 - Zgy c.1 x)=b by omega]
   rfl
end Go.AE.Y
namespace Go.AE.Y
open Go Go.AE
set_option maxHeartbeats 400000
theorem ZDo {c:Z9} {n:Nat} (h:n<c.1.length):((c.1.take (n+1)).map (fun t=>t.1)).sum=((c.1.take n).map (fun t=>t.1)).sum+(c.1.getD n (0,0)).1:=by
 rw[Zev (0,0) h,Xa3,List.sum_append]
 show _+((c.1.getD n (0,0)).1+0)=_
 omega
theorem ZJA {c:Z9} (hc:ZA c=true):∀n,n≤c.1.length→0≤((c.1.take n).map (fun t=>t.1)).sum∧((c.1.take n).map (fun t=>t.1)).sum≤1000*n
 |0,_=>⟨Xas _,Xas _⟩
 |n+1,h=>by
  have ih:=ZJA hc n (by omega)
  obtain⟨l1,l2,l3⟩:=(Zdp hc).2 n (by omega)
  rw[ZDo (by omega)]
  omega
theorem Zzi {c:Z9} (hc:ZA c=true):ZeP c=some (ZkZ c):=by
 have c1:=ZdM hc
 unfold ZeP
 refine ZL (f:=Ze8 c) (fun s:Int×Int=>∃n:Nat,s.2=n∧n≤c.1.length∧s.1=((c.1.take n).map (fun t=>t.1)).sum) (fun s=>c.1.length - s.2.toNat) (fun _=>ZkZ c) ?_ _ ⟨0,rfl,Nat.zero_le _,rfl⟩
 rintro⟨x,s⟩ ⟨n,hs,hn,hx⟩
 dsimp only at hs hx ⊢
 subst hs
 have hb:=ZJA hc n hn
 unfold Ze8
 dsimp only
 rcases Xag n c.1.length with h1|h1
 ·left
  obtain⟨l1,l2,l3⟩:=(Zdp hc).2 n h1
  rw[Zd (by omega),Zb ⟨by omega,by omega⟩,Xab,Zf (by omega) (by omega),Zf (by omega) (by omega)]
  exact⟨_,rfl,⟨n+1,by simp,by omega,by dsimp only;rw[ZDo h1,hx]⟩,by (try dsimp only)<;>omega,rfl⟩
 ·right
  have:n=c.1.length:=by omega
  rw[this,XaB]at hx
  rw[Zc (by omega),hx]
  rfl
theorem Zzp {c:Z9} (hc:ZA c=true):ZnV c=some (ZkZ c):=by
 have c1:=ZdM hc
 unfold ZnV
 refine ZL (f:=Zm2 c) (fun s:Int×Int=>∃n:Nat,s.2=n∧n≤c.1.length∧s.1=((c.1.take n).map (fun t=>t.1)).sum) (fun s=>c.1.length - s.2.toNat) (fun _=>ZkZ c) ?_ _ ⟨0,rfl,Nat.zero_le _,rfl⟩
 rintro⟨x,s⟩ ⟨n,hs,hn,hx⟩
 dsimp only at hs hx ⊢
 subst hs
 have hb:=ZJA hc n hn
 unfold Zm2
 dsimp only
 rcases Xag n c.1.length with h1|h1
 ·left
  obtain⟨l1,l2,l3⟩:=(Zdp hc).2 n h1
  rw[Zd (by omega),Zb ⟨by omega,by omega⟩,Xab,Zf (by omega) (by omega),Zf (by omega) (by omega)]
  exact⟨_,rfl,⟨n+1,by simp,by omega,by dsimp only;rw[ZDo h1,hx]⟩,by (try dsimp only)<;>omega,rfl⟩
 ·right
  have:n=c.1.length:=by omega
  rw[this,XaB]at hx
  rw[Zc (by omega),hx]
  rfl
theorem ZHg {c:Z9} (hl:c.1.length≤1048576):Ze5 c=some (Zmh c):=by
 unfold Ze5 Zmh
 rw[Zbh c (by omega),Ze]
 cases hc:ZA c with
 |false=>rw[cff,Xae]
 |true=>rw[ctt,Zzi hc,Ze,Xai]
theorem ZHw {c:Z9} (hl:c.1.length≤1048576):Zfi c=some (Zmh c):=by
 unfold Zfi Zmh
 rw[ZY c (by omega),Ze]
 cases hc:ZA c with
 |false=>rw[cff,Xae]
 |true=>rw[ctt,Zzp hc,Ze,Xai]
theorem ZKc {c:Z9} (hc:ZA c=true):Ze6 c=some ((ZpV c).2,(ZpV c).1):=by
 have c1:=ZdM hc
 have ht:=ZFR hc
 obtain⟨_,c2⟩:=Zdp hc
 unfold Ze6 Zgj Zgk
 rw[Zzi hc,Ze,Zf (by omega) (by omega),Zf (by omega) (by omega)]
 have:=Zbi (f:=Zdq c (max 0 (ZkZ c - c.2+1))) c.1 (0,0) (fun t=>(t.1,0 - t.2)) [] (fun o=>(max 0 (ZkZ c - c.2+1),o)) (fun i out hi ho=>?_) ?_
 ·rw[Xao]at this
  exact this
 ·obtain⟨l1,_,_⟩:=c2 i hi
  have hlit:=ZG.1 l1
  unfold Zdq Zgl
  dsimp only
  rw[Zd (by omega),Zb ⟨by omega,by omega⟩,Xab,Zf (by omega) (by omega),Zb (by simp only[Zl,Xak,Xal];simp at ho;omega),Zf (by omega) (by omega)]
 ·unfold Zdq
  dsimp only
  rw[Zc (by omega)]
theorem ZKB {c:Z9} (hc:ZA c=true):ZgI c=some (true,(ZpV c).2,(ZpV c).1):=by
 have c1:=ZdM hc
 have ht:=ZFR hc
 obtain⟨_,c2⟩:=Zdp hc
 unfold ZgI Zh9 Zia
 rw[ZY c (by omega),Ze,hc,cnt,Zzp hc,Ze,Zf (by omega) (by omega),Zf (by omega) (by omega)]
 have:=Zbi (f:=Zec c (ZkZ c - c.2+1)) c.1 (0,0) (fun t=>(t.1,0 - t.2)) [] (fun o=>(true,max 0 (ZkZ c - c.2+1),o)) (fun i out hi ho=>?_) ?_
 ·rw[Xao]at this
  exact this
 ·obtain⟨l1,_,_⟩:=c2 i hi
  have hlit:=ZG.1 l1
  unfold Zec
  dsimp only
  rw[Zd (by omega),Zb ⟨by omega,by omega⟩,Zb ⟨by omega,by omega⟩,Xab,Zf (by omega) (by omega),Zb (by simp only[Zl,Xak,Xal];simp at ho;omega),Zf (by omega) (by omega)]
 ·unfold Zec Zib
  dsimp only
  rw[Zc (by omega)]
  by_cases q:ZkZ c - c.2+1<0
  ·rw[Zd q,show max 0 (ZkZ c - c.2+1)=(0:Int) by omega]
   rfl
  ·rw[Zc q,show max 0 (ZkZ c - c.2+1)=ZkZ c - c.2+1 by omega]
   rfl
theorem ZKe {L:Zx} {c:Z9} (hL:Zb1 L) (hl:L.length≤1000000) (hc:ZA c=true):ZyB L c=some (Zvq L c):=by
 obtain⟨r,e,eb⟩:=ZNx hL hl hc
 unfold ZyB Zw0
 rw[ZsR L (by omega),Ze,ZKc hc,Ze,Zb (by simp only[Zl,Xak,Xal];omega),Zb ⟨by omega,by simp only[Zl];omega,rfl⟩]
 show (Zda (L++[ZpV c]) ZBx).bind _=_
 rw[e,Ze,eb]
theorem ZKD {L:Zx} {c:Z9} (hL:Zb1 L) (hl:L.length≤1000000) (hc:ZA c=true):Zuj L c=some (Zvq L c):=by
 obtain⟨r,e,eb⟩:=ZNx hL hl hc
 unfold Zuj Ztz
 rw[ZKB hc,Ze,Zb (by simp only[Zl,Xal];omega),Zb (by simp only[Zl,Xak,Xal,Xao];omega),Zb ⟨by omega,by simp only[Zl];omega,rfl⟩]
 show (Zdy (([]++L)++[ZpV c]) ZBx).bind _=_
 rw[Xao,ZxO (ZCS hL hc) (by rw[Xan,XaC];omega) ZGn,e,Ze,eb]
theorem Zud (d:DbT) (n:Nat):Zr3 d (n+1)=Zr3 d n++(bif d.2.getD n false then[]else[d.1.getD n ([],0)]):=rfl
theorem ZIF {d:DbT} (hg:d.2.length=d.1.length) (hl:d.1.length≤1000000):Zf4 d.1 d.2=some (Zog d):=by
 unfold Zf4
 refine ZL (f:=ZeX d.1 d.2) (fun s:Int×Zx=>∃n:Nat,s.1=n∧n≤d.1.length∧s.2=Zr3 d n) (fun s=>d.1.length - s.1.toNat) (fun _=>Zog d) ?_ _ ⟨0,rfl,Nat.zero_le _,rfl⟩
 rintro⟨s,o⟩ ⟨n,hs,hn,ho⟩
 dsimp only at hs ho ⊢
 subst hs
 have hlen:=Zs0 d n
 unfold ZeX
 dsimp only
 rcases Xag n d.1.length with h1|h1
 ·left
  rw[Zd (by omega),Zb ⟨by omega,by omega⟩,Zb ⟨by omega,by omega⟩,Xab]
  cases hq:d.2.getD n false with
  |true=>
   rw[cnt,Zf (by omega) (by omega)]
   exact⟨_,rfl,⟨n+1,by simp,by omega,by dsimp only;rw[Zud,hq,ctt,Xau,ho]⟩,by (try dsimp only)<;>omega,rfl⟩
  |false=>
   rw[cnf,Zb (by rw[ho];simp only[Zl,Xak,Xal];omega),Zf (by omega) (by omega)]
   exact⟨_,rfl,⟨n+1,by simp,by omega,by dsimp only;rw[Zud,hq,cff,ho]⟩,by (try dsimp only)<;>omega,rfl⟩
 ·right
  have:n=d.1.length:=by omega
  rw[Zc (by omega),ho,this]
  rfl
theorem ZHz {d:DbT} (hg:d.2.length=d.1.length) (hl:d.1.length≤1000000):Zr7 d=some (Zog d):=by
 unfold Zr7
 refine ZL (f:=Zom d) (fun s:Int×Zx=>∃n:Nat,s.1=n∧n≤d.1.length∧s.2=Zr3 d n) (fun s=>d.1.length - s.1.toNat) (fun _=>Zog d) ?_ _ ⟨0,rfl,Nat.zero_le _,rfl⟩
 rintro⟨s,o⟩ ⟨n,hs,hn,ho⟩
 dsimp only at hs ho ⊢
 subst hs
 have hlen:=Zs0 d n
 unfold Zom
 dsimp only
 rcases Xag n d.1.length with h1|h1
 ·left
  rw[Zd (by omega),Zb ⟨by omega,by omega⟩,Xab]
  cases hq:d.2.getD n false with
  |true=>
   rw[cnt,Zf (by omega) (by omega)]
   exact⟨_,rfl,⟨n+1,by simp,by omega,by dsimp only;rw[Zud,hq,ctt,Xau,ho]⟩,by (try dsimp only)<;>omega,rfl⟩
  |false=>
   rw[cnf,Zb ⟨by omega,by omega⟩,Zb (by rw[ho];simp only[Zl,Xak,Xal];omega),Zf (by omega) (by omega)]
   exact⟨_,rfl,⟨n+1,by simp,by omega,by dsimp only;rw[Zud,hq,cff,ho]⟩,by (try dsimp only)<;>omega,rfl⟩
 ·right
  have:n=d.1.length:=by omega
  rw[Zc (by omega),ho,this]
  rfl
theorem ZCq {d:DbT} {i:Int} (hg:d.2.length=d.1.length) (hl:d.1.length≤1000000):ZdZ i d.1 d.2=some (ZdX d i):=by
 unfold ZdZ ZdX
 rw[Zf (by omega) (by omega),ZbK,Ze]
 by_cases q1:0≤i
 ·rw[Xad q1,Xai]
  by_cases q2:i<d.1.length
  ·rw[Xad (show i≤(d.1.length:Int) - 1 by omega),ctt,Zb ⟨by omega,by omega⟩,Xad q2,Xai,Xai]
  ·rw[decide_eq_false (show ¬i≤(d.1.length:Int) - 1 by omega),cff,decide_eq_false q2,XaR,Xae]
 ·rw[decide_eq_false q1,Xae,cff,Xae,Xae]
theorem Zxa {d:DbT} {i:Int} (hg:d.2.length=d.1.length):ZjT d i=some (ZdX d i):=by
 unfold ZjT ZdX
 by_cases q1:0≤i
 ·rw[Zd q1,Xad q1,Xai]
  by_cases q2:i<d.1.length
  ·rw[Zd q2,Zb ⟨by omega,by omega⟩,Xad q2,Xai]
  ·rw[Zc q2,decide_eq_false q2,Xae]
 ·rw[Zc q1,decide_eq_false q1,Xae,Xae]
theorem ZGM (k:Int):∃n b,Zpd k=some (n,b)∧((k=1∧n=2∧b=false)∨((k=2∨k=3∨k=5)∧n=1∧b=true)∨((k=4∨k=8)∧n=1∧b=false)∨((k=6∨k=7)∧n=0∧b=false)∨((k≤0∨9≤k)∧n = -1∧b=false)):=by
 unfold Zpd
 by_cases k1:k=1
 ·rw[Zu k1];exact⟨_,_,rfl,Or.inl ⟨k1,rfl,rfl⟩⟩
 rw[Zo k1]
 by_cases k2:k=2
 ·rw[Zu k2];exact⟨_,_,rfl,by simp[k2]⟩
 rw[Zo k2]
 by_cases k3:k=3
 ·rw[Zu k3];exact⟨_,_,rfl,by simp[k3]⟩
 rw[Zo k3]
 by_cases k5:k=5
 ·rw[Zu k5];exact⟨_,_,rfl,by simp[k5]⟩
 rw[Zo k5]
 by_cases k4:k=4
 ·rw[Zu k4];exact⟨_,_,rfl,by simp[k4]⟩
 rw[Zo k4]
 by_cases k8:k=8
 ·rw[Zu k8];exact⟨_,_,rfl,by simp[k8]⟩
 rw[Zo k8]
 by_cases k6:k=6
 ·rw[Zu k6];exact⟨_,_,rfl,by simp[k6]⟩
 rw[Zo k6]
 by_cases k7:k=7
 ·rw[Zu k7];exact⟨_,_,rfl,by simp[k7]⟩
 rw[Zo k7]
 exact⟨_,_,rfl,Or.inr (Or.inr (Or.inr (Or.inr ⟨by omega,rfl,rfl⟩)))⟩
theorem ZH4 {s:ZB} (hl:s.2.2.2.1.length≤1048576):Zbz s.2.2.2 (([]:List (Int×Int)),(0:Int))=some (ZEb s):=by
 unfold Zbz ZEb
 by_cases q:s.2.2.2.2=0
 ·rw[Zu q,Xad q,XbD]
  have e:Zf7 s.2.2.2.1 []=some (decide (s.2.2.2.1=[])):=by
   unfold Zf7
   cases hs:s.2.2.2.1 with
   |nil=>
    rw[show ((([]:List (Int×Int)).length:Int) != (([]:List (Int×Int)).length:Int))=false by simp,cff,ZcB]
    unfold Zhr
    rw[Zc (by simp),Ze]
    rfl
   |cons t l=>
    rw[show (((t::l).length:Int) != (([]:List (Int×Int)).length:Int))=true by simp;omega,ctt,decide_eq_false (by simp)]
  rw[e,Ze]
 ·rw[Zo q,decide_eq_false q,XaR]
theorem ZHh {s:ZB} (hl:s.2.2.2.1.length≤1048576):Zlq s=some (Zjv s):=by
 obtain⟨n,b,e,h⟩:=ZGM s.1
 have hs:=ZH4 hl
 unfold Zlq Zjv
 rw[e,Ze]
 dsimp only
 rcases h with⟨k,rfl,rfl⟩|⟨k,rfl,rfl⟩|⟨k,rfl,rfl⟩|⟨k,rfl,rfl⟩|⟨k,rfl,rfl⟩
 ·rw[Zd (by omega),Zd (by omega),Zu rfl,Zo (by omega),hs,Ze,if_pos (Or.inl k)]
 ·rw[Zd (by omega),Zd (by omega),Zo (by omega),ctt,Zo (by omega),hs,Ze,if_pos (by omega)]
 ·rw[Zd (by omega),Zd (by omega),Zo (by omega),cff,if_neg (by omega),if_pos (by omega)]
  by_cases q:s.2.2.1=0
  ·rw[Zu q,Zo (by omega),hs,Ze,Xad q,XbD]
  ·rw[Zo q,decide_eq_false q,XaR]
 ·rw[Zd (by omega),Zc (by omega),if_neg (by omega)]
  rcases k with k|k
  ·rw[Zu k,Zo (by omega),cff,if_pos (by omega)]
   by_cases q:s.2.2.1=0
   ·rw[Zu q,Zo (by omega),hs,Ze,Xad q,XbD]
   ·rw[Zo q,decide_eq_false q,XaR]
  ·rw[Zo (by omega),if_neg (by omega),if_pos k]
   by_cases q0:s.2.1=0
   ·rw[Zu q0,Zo (by omega),cff,Xad q0,Xai]
    by_cases q:s.2.2.1=0
    ·rw[Zu q,Zu k,Xad q]
    ·rw[Zo q,decide_eq_false q]
   ·rw[Zo q0,decide_eq_false q0,Xae]
 ·rw[Zc (by omega),if_neg (by omega),if_neg (by omega),if_neg (by omega)]
theorem ZHA {s:ZB}:ZnY s=some (Zjv s):=by
 unfold ZnY Zjv ZEb
 by_cases q0:s.2.2.2.1=[]
 ·rw[Zu (by rw[q0];rfl),Xad q0,Xai]
  by_cases k1:s.1=1
  ·rw[Zu k1,if_pos (Or.inl k1)];rfl
  rw[Zo k1]
  by_cases k2:s.1=2
  ·rw[Zu k2,if_pos (Or.inr (Or.inl k2))];rfl
  rw[Zo k2]
  by_cases k3:s.1=3
  ·rw[Zu k3,if_pos (Or.inr (Or.inr (Or.inl k3)))];rfl
  rw[Zo k3]
  by_cases k5:s.1=5
  ·rw[Zu k5,if_pos (Or.inr (Or.inr (Or.inr k5)))];rfl
  rw[Zo k5,if_neg (by omega)]
  have two:cond (s.2.2.2.2==0) (some (s.2.2.1==0)) (some false)=some (decide (s.2.2.2.2=0)&&decide (s.2.2.1=0)):=by
   by_cases q:s.2.2.2.2=0
   ·rw[Zu q,Xad q,Xai];rfl
   ·rw[Zo q,decide_eq_false q,Xae]
  by_cases k4:s.1=4
  ·rw[Zu k4,if_pos (Or.inl k4),two]
  rw[Zo k4]
  by_cases k6:s.1=6
  ·rw[Zu k6,if_pos (Or.inr (Or.inl k6)),two]
  rw[Zo k6]
  by_cases k8:s.1=8
  ·rw[Zu k8,if_pos (Or.inr (Or.inr k8)),two]
  rw[Zo k8,if_neg (by omega)]
  by_cases k7:s.1=7
  ·rw[Zu k7,if_pos k7]
   by_cases q:s.2.1=0
   ·rw[Zu q,Xad q,Xai];rfl
   ·rw[Zo q,decide_eq_false q,Xae]
  ·rw[Zo k7,if_neg k7]
 ·have hlen:((s.2.2.2.1.length:Int))≠0:=fun e=>q0 (XaH (by omega))
  rw[Zo hlen,decide_eq_false q0,Xae]
  by_cases k1:s.1=1
  ·rw[Zu k1,if_pos (Or.inl k1)]
  rw[Zo k1]
  by_cases k2:s.1=2
  ·rw[Zu k2,if_pos (Or.inr (Or.inl k2))]
  rw[Zo k2]
  by_cases k3:s.1=3
  ·rw[Zu k3,if_pos (Or.inr (Or.inr (Or.inl k3)))]
  rw[Zo k3]
  by_cases k5:s.1=5
  ·rw[Zu k5,if_pos (Or.inr (Or.inr (Or.inr k5)))]
  rw[Zo k5,if_neg (by omega),Xae]
  by_cases k4:s.1=4
  ·rw[Zu k4,if_pos (Or.inl k4)]
  rw[Zo k4]
  by_cases k6:s.1=6
  ·rw[Zu k6,if_pos (Or.inr (Or.inl k6))]
  rw[Zo k6]
  by_cases k8:s.1=8
  ·rw[Zu k8,if_pos (Or.inr (Or.inr k8))]
  rw[Zo k8,if_neg (by omega)]
  by_cases k7:s.1=7
  ·rw[Zu k7,if_pos k7]
   by_cases q:s.2.1=0
   ·rw[Zu q,Xad q,Xai];rfl
   ·rw[Zo q,decide_eq_false q,Xae]
  ·rw[Zo k7,if_neg k7]
end Go.AE.Y
namespace Go.AE.Y
open Go Go.AE
set_option maxHeartbeats 400000
structure ZpJ (d:DbT):Prop where
 good:Zb1 d.1
 gone:d.2.length=d.1.length
 few:d.1.length≤900000
theorem ZJ8 (l:Int):Zj6 l=some (axB l):=by
 unfold Zj6 axB
 rw[ZoI,Ze]
 cases Zbe l with
 |true=>rw[cnt,ctt];rfl
 |false=>rw[cnf,cff];rfl
theorem ZKx (l:Int):Zkd l=some (axB l):=by
 unfold Zkd axB
 rw[Ztw,Ze]
 cases Zbe l with
 |true=>rw[cnt,ctt];rfl
 |false=>rw[cnf,cff];rfl
theorem ZIT {d:DbT} (h:ZpJ d):(Zog d).length≤900000:=by
 have:=Zs0 d d.1.length
 have:=h.few
 unfold Zog
 omega
theorem ZFD {d:DbT} {s:ZB} (h:ZpJ d) (hl:s.2.2.2.1.length≤1048576):∃r,Zmm d s=some r∧r.1=(ZbP d s).1∧(r.1=true→r=ZbP d s):=by
 have hf:=h.few
 unfold Zmm ZbP
 by_cases k6:s.1=6
 ·rw[Zu k6,if_pos k6,ZKx,Ze]
  exact⟨_,rfl,rfl,fun _=>rfl⟩
 rw[Zo k6,if_neg k6]
 by_cases k7:s.1=7
 ·rw[Zu k7,if_pos k7,ZGD s.2.2.2 (by omega),Ze,ZY s.2.2.2 (by omega),Ze]
  cases hc:ZA s.2.2.2 with
  |false=>
   rw[cff,Xae,cff]
   exact⟨_,rfl,rfl,fun q=>by cases q⟩
  |true=>
   rw[ctt,ZHz h.gone (by omega),Ze,ZKD (ZAN h.good) (by have:=ZIT h;omega) hc,Ze,Xai]
   cases Zvq (Zog d) s.2.2.2 with
   |true=>rw[ctt];exact⟨_,rfl,rfl,fun _=>rfl⟩
   |false=>rw[cff];exact⟨_,rfl,rfl,fun q=>by cases q⟩
 rw[Zo k7,if_neg k7,Zxa h.gone,Ze]
 cases qa:ZdX d s.2.1 with
 |false=>rw[cnf,cff];exact⟨_,rfl,rfl,fun q=>by cases q⟩
 |true=>
  obtain⟨a0,a1,a2⟩:=ZhU qa
  have ca:ZA (d.1.getD s.2.1.toNat ([],0))=true:=(h.good _ a2).1
  rw[cnt,ctt,Zb ⟨a0,by omega⟩]
  by_cases k1:s.1=1
  ·rw[Zu k1,if_pos k1,Zxa h.gone,Ze]
   cases qb:ZdX d s.2.2.1 with
   |false=>rw[cnf,cff];exact⟨_,rfl,rfl,fun q=>by cases q⟩
   |true=>
    obtain⟨b0,b1,b2⟩:=ZhU qb
    have cb:ZA (d.1.getD s.2.2.1.toNat ([],0))=true:=(h.good _ b2).1
    rw[cnt,ctt,Zb ⟨b0,by omega⟩,ZKv ca cb,Ze]
    exact⟨_,rfl,rfl,fun _=>rfl⟩
  rw[Zo k1,if_neg k1]
  by_cases k2:s.1=2
  ·rw[Zu k2,if_pos k2,ZKy ca,Ze]
   exact⟨_,rfl,rfl,fun _=>rfl⟩
  rw[Zo k2,if_neg k2]
  by_cases k3:s.1=3
  ·rw[Zu k3,if_pos k3,ZKw ca,Ze]
   exact⟨_,rfl,rfl,fun _=>rfl⟩
  rw[Zo k3,if_neg k3]
  by_cases k4:s.1=4
  ·rw[Zu k4,if_pos k4,ZKz ca,Ze]
   exact⟨_,rfl,rfl,fun _=>rfl⟩
  rw[Zo k4,if_neg k4,ZJq ca,Ze]
  exact⟨_,rfl,rfl,fun _=>rfl⟩
theorem ZIH {d:DbT} (h:ZpJ d) (f:Bool) (t:List (Int×Int)) (b:Int):ZU d.1 d.2 ((t,b),f)=some (f,d.1++[(t,b)],d.2++[false]):=by
 have:=h.few
 have:=h.gone
 unfold ZU Zhk
 dsimp only
 rw[Zb (by simp only[Zl,Xak,Xal];omega),Zb (by simp only[Zl,Xak,Xal];omega)]
theorem ZIJ {d:DbT} {s:ZB} (h:ZpJ d) (hl:s.2.2.2.1.length≤1048576):∃r,ZeB s d.1 d.2=some r∧(r.1=true→ZfG d s=some (r.2.1,r.2.2))∧(r.1=false→ZfG d s=none):=by
 have hf:=h.few
 have hg:=h.gone
 obtain⟨n,b,e,hk⟩:=ZGM s.1
 unfold ZeB Zhj ZfG
 rw[e,Ze,ZHh hl,Ze]
 dsimp only
 cases hp:Zjv s with
 |false=>rw[cnf,cff];exact⟨_,rfl,fun q=>(by cases q),fun _=>rfl⟩
 |true=>
  rw[cnt,ctt]
  have hkind:1≤s.1∧s.1≤8:=by
   unfold Zjv at hp
   by_cases q1:s.1=1∨s.1=2∨s.1=3∨s.1=5
   ·omega
   ·rw[if_neg q1]at hp
    by_cases q2:s.1=4∨s.1=6∨s.1=8
    ·omega
    ·rw[if_neg q2]at hp
     by_cases q3:s.1=7
     ·omega
     ·rw[if_neg q3]at hp;cases hp
  have push:∀(r:ZoC) (f:Bool) (t:List (Int×Int)) (c:Int),r.1=f→(f=true→r=(f,c,t))→s.1≠8→ZbP d s=r→∃q,ZU d.1 d.2 ((t,c),f)=some q∧(q.1=true→(if s.1=8 then(bif ZdX d s.2.1 then some (d.1,d.2.set s.2.1.toNat true)else none)else(bif (ZbP d s).1 then some (d.1++[ofR (ZbP d s)],d.2++[false])else none))=some (q.2.1,q.2.2)) ∧
    (q.1=false→(if s.1=8 then(bif ZdX d s.2.1 then some (d.1,d.2.set s.2.1.toNat true)else none)else(bif (ZbP d s).1 then some (d.1++[ofR (ZbP d s)],d.2++[false])else none))=none):=fun r f t c h1 h2 h8 hd=>by
   rw[ZIH h,if_neg h8,hd,h1]
   cases f with
   |true=>
    rw[ctt,h2 rfl]
    exact⟨_,rfl,fun _=>rfl,fun q=>by cases q⟩
   |false=>
    rw[cff]
    exact⟨_,rfl,fun q=>(by cases q),fun _=>rfl⟩
  have flip:∀r:ZoC,(r.1=true→r=(r.1,(ZmX r).2.2,(ZmX r).2.1)):=fun r _=>rfl
  have dead:ZdX d s.2.1=false→s.1≠6→s.1≠7→(if s.1=8 then(bif ZdX d s.2.1 then some (d.1,d.2.set s.2.1.toNat true)else none)else(bif (ZbP d s).1 then some (d.1++[ofR (ZbP d s)],d.2++[false])else none))=none:=fun q h6 h7=>by
   by_cases k8:s.1=8
   ·rw[if_pos k8,q,cff]
   ·rw[if_neg k8]
    unfold ZbP
    rw[if_neg h6,if_neg h7,q,cff]
    rfl
  have hA:s.1≠6→s.1≠7→ZdX d s.2.1=true→ZbP d s=(if s.1=1 then(bif ZdX d s.2.2.1 then ZuW (Zlg d s.2.1) (Zlg d s.2.2.1)else noC)else if s.1=2 then Zvg (Zlg d s.2.1) s.2.2.1 else if s.1=3 then Zu3 (Zlg d s.2.1) s.2.2.1 else if s.1=4 then ZA8 (Zlg d s.2.1)else ZwN (Zlg d s.2.1) s.2.2.1):=fun h6 h7 q=>by
   unfold ZbP
   rw[if_neg h6,if_neg h7,q,ctt]
  by_cases k67:s.1=6∨s.1=7
  ·have hn:n=0:=by omega
   rw[hn,Zc (by omega),Zc (by omega)]
   unfold ZbR
   rw[Zo (by omega),Zo (by omega),Zo (by omega),Zo (by omega),Zo (by omega),Zo (by omega)]
   rcases k67 with k|k
   ·rw[Zu k,ZJ8,Ze]
    exact push (axB s.2.1) _ _ _ rfl (fun _=>rfl) (by omega) (by unfold ZbP;rw[if_pos k])
   ·rw[Zo (by omega),Zu k,Zbh s.2.2.2 (by omega),Ze]
    have hd:ZbP d s=(bif ZA s.2.2.2&&Zvq (Zog d) s.2.2.2 then Zvk s.2.2.2 else noC):=by
     unfold ZbP
     rw[if_neg (by omega),if_pos k]
    cases hc:ZA s.2.2.2 with
    |false=>
     rw[cff]
     rw[hc,Xae,cff]at hd
     exact push noC _ _ _ rfl (fun q=>by cases q) (by omega) hd
    |true=>
     rw[ctt,ZIF h.gone (by omega),Ze,ZKe (ZAN h.good) (by have:=ZIT h;omega) hc,Ze]
     rw[hc,Xai]at hd
     cases hr:Zvq (Zog d) s.2.2.2 with
     |true=>
      rw[hr,ctt]at hd
      exact push (Zvk s.2.2.2) _ _ _ rfl (fun _=>rfl) (by omega) hd
     |false=>
      rw[hr,cff]at hd
      exact push noC _ _ _ rfl (fun q=>by cases q) (by omega) hd
  ·have hn:1≤n:=by omega
   rw[Zd (by omega),ZCq h.gone (by omega),Ze]
   cases qa:ZdX d s.2.1 with
   |false=>
    rw[cnf]
    have dd:=dead qa (by omega) (by omega)
    rw[qa]at dd
    exact⟨_,rfl,fun q=>(by cases q),fun _=>dd⟩
   |true=>
    obtain⟨a0,a1,a2⟩:=ZhU qa
    have ca:ZA (d.1.getD s.2.1.toNat ([],0))=true:=(h.good _ a2).1
    have hA:=hA (by omega) (by omega) qa
    rw[qa]at push
    rw[cnt]
    by_cases k1:s.1=1
    ·have hn:n=2:=by omega
     rw[if_pos k1]at hA
     rw[hn,Zd (by omega),ZCq h.gone (by omega),Ze]
     cases qb:ZdX d s.2.2.1 with
     |false=>
      rw[qb,cff]at hA
      rw[cnf]
      exact⟨_,rfl,fun q=>(by cases q),fun _=>by rw[if_neg (show ¬s.1=8 by omega),hA];rfl⟩
     |true=>
      obtain⟨b0,b1,b2⟩:=ZhU qb
      have cb:ZA (d.1.getD s.2.2.1.toNat ([],0))=true:=(h.good _ b2).1
      rw[qb,ctt]at hA
      unfold ZbR
      rw[cnt,Zo (by omega),Zu k1,Zb ⟨a0,by omega⟩,Zb ⟨b0,by omega⟩,ZJ6 ca cb,Ze]
      exact push (ZuW _ _) _ _ _ rfl (fun _=>rfl) (by omega) hA
    ·have hn:n=1:=by omega
     rw[if_neg k1]at hA
     rw[hn,Zc (by omega)]
     unfold ZbR
     by_cases k8:s.1=8
     ·rw[Zu k8,Zb ⟨a0,by omega⟩]
      exact⟨_,rfl,fun _=>(by rw[if_pos k8,ctt]),fun q=>by cases q⟩
     rw[Zo k8,Zo k1]
     by_cases k2:s.1=2
     ·rw[if_pos k2]at hA
      rw[Zu k2,Zb ⟨a0,by omega⟩,ZJ9 ca,Ze]
      exact push (Zvg _ _) _ _ _ rfl (flip _) (by omega) hA
     rw[if_neg k2]at hA
     rw[Zo k2]
     by_cases k3:s.1=3
     ·rw[if_pos k3]at hA
      rw[Zu k3,Zb ⟨a0,by omega⟩,ZJ7 ca,Ze]
      exact push (Zu3 _ _) _ _ _ rfl (flip _) (by omega) hA
     rw[if_neg k3]at hA
     rw[Zo k3]
     by_cases k4:s.1=4
     ·rw[if_pos k4]at hA
      rw[Zu k4,Zb ⟨a0,by omega⟩,ZKa ca,Ze]
      exact push (ZA8 _) _ _ _ rfl (fun _=>rfl) (by omega) hA
     rw[if_neg k4]at hA
     rw[Zo k4,Zu (by omega),Zb ⟨a0,by omega⟩,ZIB ca,Ze]
     exact push (ZwN _ _) _ _ _ rfl (fun _=>rfl) (by omega) hA
theorem ZFP {d d':DbT} {s:ZB} (h:ZpJ d) (hf:d.1.length<900000) (hs:ZfG d s=some d'):ZpJ d'∧d'.1.length≤d.1.length+1:=by
 unfold ZfG at hs
 cases hp:Zjv s with
 |false=>rw[hp,cff]at hs;cases hs
 |true=>
  rw[hp,ctt]at hs
  by_cases k8:s.1=8
  ·rw[if_pos k8]at hs
   cases hv:ZdX d s.2.1 with
   |false=>rw[hv,cff]at hs;cases hs
   |true=>
    rw[hv,ctt]at hs
    injection hs with hs
    subst hs
    exact⟨⟨h.good,by dsimp only;rw[Xam];exact h.gone,h.few⟩,Nat.le_succ _⟩
  ·rw[if_neg k8]at hs
   cases hv:(ZbP d s).1 with
   |false=>rw[hv,cff]at hs;cases hs
   |true=>
    rw[hv,ctt]at hs
    injection hs with hs
    subst hs
    have o1:=(ZGs h.good (by have:=h.few;omega) hv).1
    have o12:=ZAm o1
    have hg:=h.gone
    refine⟨⟨fun c hc=>?_,by dsimp only;rw[Xan,Xan,XaC,XaC,hg],by dsimp only;rw[Xan,XaC];omega⟩,by dsimp only;rw[Xan,XaC];omega⟩
    rcases List.mem_append.1 hc with q|q
    ·exact h.good c q
    ·rw[Xaj]at q
     rw[q]
     exact⟨o1,by omega⟩
theorem ZDc {d d':DbT} {S:List ZB} {n:Nat} (hn:n<S.length) (h:Zep d (S.take n)=some d'):Zep d (S.take (n+1))=ZfG d' (S.getD n zS):=by
 rw[Zev zS hn,ZyX,h,Ze]
 show (ZfG d' (S.getD n zS)).bind (fun d''=>some d'')=_
 cases ZfG d' (S.getD n zS)<;>rfl
theorem ZJi {d d':DbT} {S:List ZB} {n:Nat} (hn:n<S.length) (h:Zep d (S.take n)=some d') (h2:ZfG d' (S.getD n zS)=none):Zep d S=none:=by
 have e:S=S.take (n+1)++S.drop (n+1):=(List.take_append_drop _ _).symm
 rw[e,ZyX,ZDc hn h,h2]
 rfl
theorem ZDj {l:Zx} (hg:Zb1 l) (h4:l.length≤400):ZpJ (Zel l):=⟨hg,Xaw,by show l.length≤900000;omega⟩
def ZkS (S:List ZB):Prop:=∀s∈S,s.2.2.2.1.length≤1048576
theorem ZKd {l:Zx} {S:List ZB} (hs:Zjy l) (hS:ZkS S) :
  ∃r,ZyA l S=some r∧((r.1=true∧r.2.1 = -1∧(ZeE l=true∧S.length≤1000)∧Zep (Zel l) S=some (r.2.2.1,r.2.2.2.1))∨(r.1=false∧0≤r.2.2.2.2∧¬((ZeE l=true∧S.length≤1000)∧∃d,Zep (Zel l) S=some d))):=by
 unfold ZyA ZwZ
 rw[ZqV l hs,Ze]
 cases hp:ZeE l with
 |false=>rw[cnf];exact⟨_,rfl,Or.inr ⟨rfl,Xas _,fun h=>by cases h.1.1⟩⟩
 |true=>
  rw[cnt]
  by_cases q:1000<(S.length:Int)
  ·rw[Zd q];exact⟨_,rfl,Or.inr ⟨rfl,Xas _,fun h=>by have:=h.1.2;omega⟩⟩
  ·obtain⟨hg,h4⟩:=ZwF hs hp
   rw[Zc q,ZsR l (by omega),Ze,Zb ⟨by omega,by simp only[Zl];omega,rfl⟩,Xab]
   have:=ZbX (f:=Zr2 S) (fun s:Int×Zx×List Bool=>∃n:Nat,s.1=n∧n≤S.length∧Zep (Zel l) (S.take n)=some (s.2.1,s.2.2)∧ZpJ (s.2.1,s.2.2)∧s.2.1.length≤400+n) (fun s=>S.length - s.1.toNat)
    (fun r=>(r.1=true∧r.2.1 = -1∧(true=true∧S.length≤1000)∧Zep (Zel l) S=some (r.2.2.1,r.2.2.2.1))∨(r.1=false∧0≤r.2.2.2.2∧¬((true=true∧S.length≤1000)∧∃d,Zep (Zel l) S=some d))) ?_ ((0:Int),l,List.replicate l.length false) ⟨0,rfl,Nat.zero_le _,rfl,ZDj hg h4,by show l.length≤400+0;omega⟩
   ·exact this
   rintro⟨i,all,gone⟩ ⟨n,hn1,hn,hr,hok,hlen⟩
   dsimp only at hn1 hr hok hlen
   subst hn1
   unfold Zr2
   dsimp only
   rcases Xag n S.length with h1|h1
   ·have hm:=hS _ (ZF (l:=S) (i:=n) (d:=zS) h1)
    obtain⟨r,er,h2,h3⟩:=ZIJ hok hm
    have er:ZeB (S.getD n (0,(0,(0,([],0))))) all gone=some r:=er
    rw[Zd (by omega),Zb ⟨by omega,by omega⟩,Xab,er,Ze]
    cases hr1:r.1 with
    |true=>
     left
     rw[cnt,Zf (by omega) (by omega)]
     have h2:=h2 hr1
     have hso:=ZFP hok (by dsimp only;omega) h2
     refine⟨_,rfl,⟨n+1,by simp,by omega,?_,hso.1,?_⟩,by (try dsimp only)<;>omega⟩
     ·dsimp only
      rw[ZDc h1 hr]
      exact h2
     ·have:=hso.2
      dsimp only at this ⊢
      omega
    |false=>
     right
     rw[cnf]
     refine⟨_,rfl,Or.inr ⟨rfl,by (try dsimp only)<;>omega,fun h=>?_⟩⟩
     obtain⟨_,d,hd⟩:=h
     rw[ZJi h1 hr (h3 hr1)]at hd
     cases hd
   ·right
    have hnn:n=S.length:=by omega
    rw[hnn,XaB]at hr
    rw[Zc (by omega)]
    exact⟨_,rfl,Or.inl ⟨rfl,rfl,⟨rfl,by omega⟩,hr⟩⟩
theorem ZKC {l:Zx} {S:List ZB} (hg:Zb1 l) (h4:l.length≤400) (hS:ZkS S) (hn:S.length≤1000) :
  ∃r,Zuk l S=some r∧((r.1 = -1∧Zep (Zel l) S=some r.2)∨(0≤r.1∧Zep (Zel l) S=none)):=by
 unfold Zuk ZtA
 rw[Zb (by simp only[Zl,Xal];omega),Zb ⟨by omega,by simp only[Zl];omega,rfl⟩,Xab,Xao]
 refine ZbX (f:=Zpv S) (fun s:Int×Zx×List Bool=>∃n:Nat,s.1=n∧n≤S.length∧Zep (Zel l) (S.take n)=some s.2∧ZpJ s.2∧s.2.1.length≤400+n) (fun s=>S.length - s.1.toNat)
  (fun r=>(r.1 = -1∧Zep (Zel l) S=some r.2)∨(0≤r.1∧Zep (Zel l) S=none)) ?_ ((0:Int),l,List.replicate l.length false) ⟨0,rfl,Nat.zero_le _,rfl,ZDj hg h4,by show l.length≤400+0;omega⟩
 rintro⟨i,d⟩ ⟨n,hn1,hn,hr,hok,hlen⟩
 dsimp only at hn1 hr hok hlen
 subst hn1
 obtain⟨all,gone⟩:=d
 dsimp only at hlen
 unfold Zpv ZtB
 dsimp only
 rcases Xag n S.length with h1|h1
 ·have hm:=hS _ (ZF (l:=S) (i:=n) (d:=zS) h1)
  have hfail:ZfG (all,gone) (S.getD n zS)=none→∃r,some (Sum.inr ((n:Int),all,gone):(Int×Zx×List Bool)⊕(Int×Zx×List Bool))=some (.inr r)∧((r.1 = -1∧Zep (Zel l) S=some r.2)∨(0≤r.1∧Zep (Zel l) S=none)):=fun h=>⟨_,rfl,Or.inr ⟨by (try dsimp only)<;>omega,ZJi h1 hr h⟩⟩
  have hgo:∀d',ZfG (all,gone) (S.getD n zS)=some d'→∃m:Nat,((n:Int)+1)=m∧m≤S.length∧Zep (Zel l) (S.take m)=some d'∧ZpJ d'∧d'.1.length≤400+m:=fun d' h=>by
   obtain⟨o1,o2⟩:=ZFP hok (by dsimp only;omega) h
   exact⟨n+1,by simp,by omega,by rw[ZDc h1 hr];exact h,o1,by dsimp only at o2;omega⟩
  have hg2:=hok.gone
  have hf2:=hok.few
  dsimp only at hg2 hf2
  have hpq:ZnY (S.getD n (0,(0,(0,([],0)))))=some (Zjv (S.getD n zS)):=ZHA
  rw[Zd (by omega),Zb ⟨by omega,by omega⟩,Xab,hpq,Ze]
  unfold ZfG at hfail hgo
  cases hp:Zjv (S.getD n zS)with
  |false=>
   right
   rw[hp,cff]at hfail
   rw[cnf]
   exact hfail rfl
  |true=>
   rw[hp,ctt]at hfail hgo
   rw[cnt]
   change(S.getD n zS).2.2.2.1.length≤1048576 at hm
   show (∃s',cond ((S.getD n zS).1==(8:Int)) _ _=_∧_)∨(∃r,cond ((S.getD n zS).1==(8:Int)) _ _=_∧_)
   by_cases k8:(S.getD n zS).1=8
   ·rw[if_pos k8]at hfail hgo
    have hhas:ZjT (all,gone) (S.getD n (0,(0,(0,([],0))))).2.1=some (ZdX (all,gone) (S.getD n zS).2.1):=Zxa hok.gone
    rw[Zu k8,hhas,Ze]
    cases hv:ZdX (all,gone) (S.getD n zS).2.1 with
    |false=>
     right
     rw[hv,cff]at hfail
     rw[cnf]
     exact hfail rfl
    |true=>
     left
     obtain⟨a0,a1,_⟩:=ZhU hv
     dsimp only at a1
     rw[hv,ctt]at hgo
     have a0:0≤(S.getD n (0,(0,(0,([],0))))).2.1:=a0
     have a1:(S.getD n (0,(0,(0,([],0))))).2.1.toNat<all.length:=a1
     rw[cnt,Zb ⟨a0,by omega⟩,Zf (by omega) (by omega)]
     exact⟨_,rfl,hgo _ rfl,by (try dsimp only)<;>omega⟩
   ·rw[if_neg k8]at hfail hgo
    obtain⟨r,er,e1,e2⟩:=ZFD hok hm
    have er:Zmm (all,gone) (S.getD n (0,(0,(0,([],0)))))=some r:=er
    rw[Zo k8,er,Ze]
    cases hr1:r.1 with
    |false=>
     right
     rw[←e1,hr1,cff]at hfail
     rw[cnf]
     exact hfail rfl
    |true=>
     left
     rw[←e1,hr1,ctt,←e2 hr1]at hgo
     rw[cnt,Zb (by simp only[Zl,Xak,Xal];omega),Zb (by simp only[Zl,Xak,Xal];omega),Zf (by omega) (by omega)]
     exact⟨_,rfl,hgo _ rfl,by (try dsimp only)<;>omega⟩
 ·right
  have hnn:n=S.length:=by omega
  rw[hnn,XaB]at hr
  rw[Zc (by omega)]
  exact⟨_,rfl,Or.inl ⟨rfl,hr⟩⟩
end Go.AE.Y
namespace Go.AE.Y
open Go Go.AE
set_option maxHeartbeats 400000
theorem ZNw:∀(S:List ZB) (d d':DbT),ZpJ d→d.1.length+S.length≤900000→Zep d S=some d'→ZpJ d'∧d'.1.length≤d.1.length+S.length∧∀s∈S,Zjv s=true
 |[],d,d',h,_,hr=>by
  have hr:some d=some d':=hr
  injection hr with hr
  subst hr
  exact⟨h,Nat.le_refl _,fun s hs=>absurd hs XaE⟩
 |s::S,d,d',h,hl,hr=>by
  have hr:(ZfG d s).bind (fun d1=>Zep d1 S)=some d':=hr
  rw[Xak]at hl
  cases hs:ZfG d s with
  |none=>rw[hs]at hr;cases hr
  |some d1=>
   rw[hs,Ze]at hr
   obtain⟨o1,o2⟩:=ZFP h (by omega) hs
   obtain⟨i1,i2,i3⟩:=ZNw S d1 d' o1 (by omega) hr
   refine⟨i1,by rw[Xak];omega,fun x hx=>?_⟩
   rcases XaA.1 hx with e|e
   ·rw[e]
    unfold ZfG at hs
    cases hp:Zjv s with
    |true=>rfl
    |false=>rw[hp,cff]at hs;cases hs
   ·exact i3 x e
theorem ZyU {l:Zx} {S:List ZB} {q:DbT×Nat}:Zfq l S=some q↔(ZeE l=true∧S.length≤1000)∧Zep (Zel l) S=some q.1∧Zr0 q.1=some q.2:=by
 unfold Zfq
 by_cases h:ZeE l=true∧S.length≤1000
 ·rw[if_pos h]
  cases hr:Zep (Zel l) S with
  |none=>exact⟨fun e=>(by cases e),fun e=>(by cases e.2.1)⟩
  |some d=>
   rw[Ze]
   cases hf:Zr0 d with
   |none=>
    refine⟨fun e=>(by cases e),fun e=>?_⟩
    have e1:=e.2.1
    injection e1 with e1
    have e2:=e.2.2
    rw[←e1,hf]at e2
    cases e2
   |some i=>
    constructor
    ·intro e
     have e:some (d,i)=some q:=e
     injection e with e
     subst e
     exact⟨h,rfl,hf⟩
    ·intro e
     have e1:=e.2.1
     injection e1 with e1
     have e2:=e.2.2
     rw[←e1,hf]at e2
     injection e2 with e2
     show some (d,i)=some q
     rw[e1,e2]
 ·rw[if_neg h]
  exact⟨fun e=>(by cases e),fun e=>absurd e.1 h⟩
theorem ZD6 {R:Type} {f:Int→Option (Int⊕R)} (n:Nat) (p:Nat→Bool) (hit:Nat→R) (miss:R)
  (h:∀i:Nat,i<n→f i=some (bif p i then .inr (hit i)else .inl ((i:Int)+1))) (hn:f n=some (.inr miss)):loop f 0=some (match (List.range n).find? p with|some i=>hit i|none=>miss):=by
 have key:∀k i:Nat,i+k=n→loop f (i:Int)=some (match (List.range' i k).find? p with|some i=>hit i|none=>miss):=by
  intro k
  induction k with
  |zero=>
   intro i hi
   rw[ZcB,show i=n by omega,hn]
   rfl
  |succ k ih=>
   intro i hi
   rw[ZcB,h i (by omega),List.range'_succ,List.find?_cons]
   cases p i with
   |true=>rfl
   |false=>
    rw[cff]
    exact ih (i+1) (by omega)
 have:=key n 0 (by omega)
 rw[List.range_eq_range']
 exact this
theorem ZMi {r:Bool×Int×Zx×List Bool×Int} (h:ZpJ (r.2.2.1,r.2.2.2.1)):loop (Zh0 r) (0:Int)=some (match Zr0 (r.2.2.1,r.2.2.2.1)with|some i=>(true,(i:Int),r.2.2.1,r.2.2.2.1,0)|none=>(true,-1,r.2.2.1,r.2.2.2.1,0)):=by
 have hf:=h.few
 have hg:=h.gone
 dsimp only at hf hg
 unfold Zr0
 refine ZD6 r.2.2.1.length _ (fun i=>(true,(i:Int),r.2.2.1,r.2.2.2.1,0)) (true,-1,r.2.2.1,r.2.2.2.1,0) (fun i hi=>?_) ?_
 ·unfold Zh0
  rw[Zd (by omega),Zb ⟨by omega,by omega⟩,Zb ⟨by omega,by omega⟩,Xab]
  dsimp only
  cases hgi:r.2.2.2.1.getD i false with
  |true=>
   rw[cnt,Zf (by omega) (by omega)]
   rfl
  |false=>
   have hm:=(h.good _ (ZF (l:=r.2.2.1) (i:=i) (d:=([],0)) hi)).2
   have hfe:Ze5 (r.2.2.1.getD i ([],0))=some (Zmh (r.2.2.1.getD i ([],0))):=ZHg hm
   rw[cnf,hfe,Ze]
   cases Zmh (r.2.2.1.getD i ([],0))with
   |true=>rfl
   |false=>rw[cff,Zf (by omega) (by omega)];rfl
 ·unfold Zh0
  rw[Zc (by omega)]
theorem ZMK {d:DbT} (h:ZpJ d):Zre d=some (match Zr0 d with|some i=>(i:Int)|none=>-1):=by
 have hf:=h.few
 have hg:=h.gone
 unfold Zr0 Zre
 refine ZD6 d.1.length _ (fun i=>(i:Int)) (-1) (fun i hi=>?_) ?_
 ·unfold Zm5
  rw[Zd (by omega),Zb ⟨by omega,by omega⟩,Xab]
  cases hgi:d.2.getD i false with
  |true=>
   rw[cnt,Zf (by omega) (by omega)]
   rfl
  |false=>
   have hm:=(h.good _ (ZF (l:=d.1) (i:=i) (d:=([],0)) hi)).2
   have hfe:Zfi (d.1.getD i ([],0))=some (Zmh (d.1.getD i ([],0))):=ZHw hm
   rw[cnf,Zb ⟨by omega,by omega⟩,hfe,Ze]
   cases Zmh (d.1.getD i ([],0))with
   |true=>rfl
   |false=>rw[cff,Zf (by omega) (by omega)];rfl
 ·unfold Zm5
  rw[Zc (by omega)]
theorem ZGO {l:Zx} {S:List ZB} {d:DbT} (hs:Zjy l) (hp:ZeE l=true∧S.length≤1000) (h:Zep (Zel l) S=some d):ZpJ d∧d.1.length≤400+S.length∧∀s∈S,Zjv s=true:=by
 obtain⟨hg,h4⟩:=ZwF hs hp.1
 have e:(Zel l).1.length=l.length:=rfl
 obtain⟨a,b,c⟩:=ZNw S (Zel l) d (ZDj hg h4) (by rw[e];omega) h
 exact⟨a,by rw[e]at b;omega,c⟩
theorem ZCV {l:Zx} {S:List ZB} (hs:Zjy l) (hS:ZkS S) :
  ∃r,Zpq l S=some r∧((∃q:DbT×Nat,Zfq l S=some q∧r=(true,(q.2:Int),q.1.1,q.1.2,0))∨(Zfq l S=none∧((r.1=true∧r.2.1 = -1)∨(r.1=false∧r.2.2.2.2 = -1)))):=by
 obtain⟨r,e,h⟩:=ZKd hs hS
 unfold Zpq
 rw[e,Ze]
 rcases h with⟨h1,h2,h3,h4⟩|⟨h1,h2,h3⟩
 ·rw[h1,ctt,h2,Zc (by decide),ZMi (ZGO hs h3 h4).1]
  cases hf:Zr0 (r.2.2.1,r.2.2.2.1)with
  |some i=>exact⟨_,rfl,Or.inl ⟨((r.2.2.1,r.2.2.2.1),i),ZyU.2 ⟨h3,h4,hf⟩,rfl⟩⟩
  |none=>
   refine⟨_,rfl,Or.inr ⟨?_,Or.inl ⟨rfl,rfl⟩⟩⟩
   cases hq:Zfq l S with
   |none=>rfl
   |some q=>
    obtain⟨_,b,c⟩:=ZyU.1 hq
    rw[h4]at b
    injection b with b
    rw[←b,hf]at c
    cases c
 ·rw[h1,cff,Zd h2]
  refine⟨_,rfl,Or.inr ⟨?_,Or.inr ⟨rfl,rfl⟩⟩⟩
  cases hq:Zfq l S with
  |none=>rfl
  |some q=>
   obtain⟨a,b,c⟩:=ZyU.1 hq
   exact absurd ⟨a,_,b⟩ h3
theorem ZvP {l:Zx} {S:List ZB} (hs:Zjy l) (hS:ZkS S):Zhi l S=some (Zfq l S).isSome:=by
 obtain⟨r,e,h⟩:=ZCV hs hS
 unfold Zhi
 rw[e,Ze]
 rcases h with⟨q,hq,er⟩|⟨hq,⟨h1,h2⟩|⟨h1,h2⟩⟩
 ·rw[hq,er]
  show some (decide ((0:Int)≤(q.2:Int)))=_
  rw[Xad (by omega)]
  rfl
 ·rw[hq,h1,ctt,h2];rfl
 ·rw[hq,h1,cff,h2];rfl
theorem Zv1 {l:Zx} {S:List ZB} (hs:Zjy l) (hS:ZkS S):Zhs l S=some (Zfq l S).isSome:=by
 unfold Zhs Zxb
 rw[Zrc l hs,Ze]
 have hno:¬(ZeE l=true∧S.length≤1000)→(Zfq l S).isSome=false:=fun h=>by
  unfold Zfq
  rw[if_neg h]
  rfl
 cases hp:ZeE l with
 |false=>
  rw[cff,Ze,hno (by rw[hp];exact fun h=>by cases h.1)]
  rfl
 |true=>
  rw[ctt,Ze]
  by_cases hn:S.length≤1000
  ·rw[Xad (by omega),cnt]
   obtain⟨hg,h4⟩:=ZwF hs hp
   obtain⟨r,e,h⟩:=ZKC hg h4 hS hn
   rw[e,Ze]
   rcases h with⟨h1,h2⟩|⟨h1,h2⟩
   ·rw[h1,Zd (by decide),ZMK (ZGO hs ⟨hp,hn⟩ h2).1,Ze]
    unfold Zfq
    rw[if_pos ⟨hp,hn⟩,h2,Ze]
    cases Zr0 r.2 with
    |none=>rfl
    |some i=>
     show some (decide ((0:Int)≤(i:Int)))=_
     rw[Xad (by omega)]
     rfl
   ·rw[Zc (by omega)]
    unfold Zfq
    rw[if_pos ⟨hp,hn⟩,h2]
    rfl
  ·rw[decide_eq_false (by omega),cnf,hno (fun h=>hn h.2)]
end Go.AE.Y
namespace Go.AE.Y
open Go Go.AE
end Go.AE.Y
namespace Go.AE.Y
open Go Go.AE
theorem ZGU {m:Zp} {c:List Int}:∀n x b,ZlZ m c n x b=(ZmH m n x).foldl (ZbJ m c) b
 |0,x,b=>rfl
 |n+1,x,b=>by
  unfold ZlZ ZmH
  rw[Xa6]
  cases (Z8 m x).1 with
  |true=>rw[ctt,ctt,ZGU n]
  |false=>rfl
theorem ZCR {m:Zp} {c:List Int} {k:Nat}:∀(L:List (List Int)) (b:List Int),L.Pairwise (LtL k)→(∀z∈L,z≠[])→(b=[]∨∀z∈L,LtL k b z) →
  (b≠[]→L.foldl (ZbJ m c) b≠[]∧(ZX c (L.foldl (ZbJ m c) b) (L.foldl (ZbJ m c) b).length<ZX c b b.length∨L.foldl (ZbJ m c) b=b)) ∧
  (∀y∈L,ZcI m y=true→L.foldl (ZbJ m c) b≠[]∧(ZX c (L.foldl (ZbJ m c) b) (L.foldl (ZbJ m c) b).length<ZX c y y.length∨(ZX c (L.foldl (ZbJ m c) b) (L.foldl (ZbJ m c) b).length=ZX c y y.length∧(L.foldl (ZbJ m c) b=y∨LtL k (L.foldl (ZbJ m c) b) y)))) ∧
  (L.foldl (ZbJ m c) b=b∨(L.foldl (ZbJ m c) b∈L∧ZcI m (L.foldl (ZbJ m c) b)=true))
 |[],b,_,_,_=>⟨fun h=>⟨h,Or.inr rfl⟩,fun y hy _=>absurd hy XaE,Or.inl rfl⟩
 |x::L,b,hp,hne,hb=>by
  rw[Xa6]
  obtain⟨p1,p2⟩:=List.pairwise_cons.1 hp
  have hxne:=hne x Xav
  have hne':∀z∈L,z≠[]:=fun z hz=>hne z (Xaq _ hz)
  cases hs:ZcI m x&&(b.isEmpty||decide (ZX c x x.length<ZX c b b.length))with
  |true=>
   have e:ZbJ m c b x=x:=by unfold ZbJ;rw[hs,ctt]
   rw[e]
   rw[Xaf,XbU,Xah]at hs
   obtain⟨i1,i2,i3⟩:=ZCR (m:=m) (c:=c) L x p2 hne' (Or.inr p1)
   obtain⟨j1,j2⟩:=i1 hxne
   refine⟨fun hbn=>⟨j1,?_⟩,fun y hy hsy=>?_,?_⟩
   ·rcases hs.2 with h1|h1
    ·exact absurd (List.isEmpty_iff.1 h1) hbn
    ·left
     rcases j2 with j2|j2
     ·omega
     ·rw[j2];exact h1
   ·rcases XaA.1 hy with rfl|hy
    ·refine⟨j1,?_⟩
     rcases j2 with j2|j2
     ·exact Or.inl j2
     ·exact Or.inr ⟨by rw[j2],Or.inl j2⟩
    ·exact i2 y hy hsy
   ·right
    rcases i3 with i3|⟨i3,i4⟩
    ·rw[i3];exact⟨Xav,hs.1⟩
    ·exact⟨Xaq _ i3,i4⟩
  |false=>
   have e:ZbJ m c b x=b:=by unfold ZbJ;rw[hs,cff]
   rw[e]
   have hb':b=[]∨∀z∈L,LtL k b z:=hb.imp id (fun h z hz=>h z (Xaq _ hz))
   obtain⟨i1,i2,i3⟩:=ZCR (m:=m) (c:=c) L b p2 hne' hb'
   refine⟨i1,fun y hy hsy=>?_,i3.imp id (fun h=>⟨Xaq _ h.1,h.2⟩)⟩
   rcases XaA.1 hy with rfl|hy
   ·rw[hsy,Xai,Xbn,decide_eq_false_iff_not]at hs
    have hbn:b≠[]:=fun h=>by rw[h]at hs;exact absurd hs.1 (by decide)
    have hlt:LtL k b y:=by
     rcases hb with h|h
     ·exact absurd h hbn
     ·exact h y Xav
    obtain⟨j1,j2⟩:=i1 hbn
    refine⟨j1,?_⟩
    rcases j2 with j2|j2
    ·left;omega
    ·rw[j2]
     by_cases q:ZX c b b.length<ZX c y y.length
     ·exact Or.inl q
     ·exact Or.inr ⟨by omega,Or.inr hlt⟩
   ·exact i2 y hy hsy
theorem ZOR {m:Zp} {c:List Int} (hm:Zz m=true):(∀y,ZE m y=true→ZcI m y=true→Zgu m c≠[]∧(ZX c (Zgu m c) (Zgu m c).length<ZX c y y.length∨(ZX c (Zgu m c) (Zgu m c).length=ZX c y y.length∧(Zgu m c=y∨LtL m.1.length (Zgu m c) y))))∧(Zgu m c=[]∨(ZE m (Zgu m c)=true∧ZcI m (Zgu m c)=true)):=by
 have hz:=Zos hm
 have e:Zgu m c=(ZqC m (Zni m)).foldl (ZbJ m c) []:=by unfold Zgu ZqC Zni;exact ZGU 1024 _ _
 rw[e]
 obtain⟨_,i2,i3⟩:=ZCR (m:=m) (c:=c) (ZqC m (Zni m)) [] (ZEn 1024 _ hz) (fun z hzz=>ZIf hm (ZPU hz hzz)) (Or.inl rfl)
 refine⟨fun y hy hs=>i2 y ((ZxH hm).2 hy) hs,?_⟩
 rcases i3 with h|⟨h1,h2⟩
 ·exact Or.inl h
 ·exact Or.inr ⟨(ZxH hm).1 h1,h2⟩
theorem ZzH (m:Zp) (x:List Int) (h:Zde m) (hx:x.length≤1048576):Zlp m x=some (Zz m&&ZE m x&&ZcI m x):=by
 unfold Zlp
 rw[ZsV m x h hx,Ze]
 cases hv:Zz m&&ZE m x with
 |false=>rw[cff,Xae]
 |true=>
  rw[Xaf]at hv
  rw[ctt,Zxs h hv.1 hv.2,Ze,Xai]
end Go.AE.Y
namespace Go.AE.Y
open Go Go.AE
set_option maxHeartbeats 400000
noncomputable def ZsS (m:Zp) (c x:List Int) (S:List ZB):Bool:=
 (Zz m&&decide ((ZbV m).length<400))&&((ZE m x&&ZcI m x)&&ZfZ m c)&&(Zfq (ZbV m++[obC m c (ZX c x x.length - 1)]) S).isSome
theorem ZC5 {m:Zp} {c x:List Int} (hx:x≠[]):ZcT m c x=ZbV m++[obC m c (ZX c x x.length - 1)]:=if_neg hx
theorem Zyy {m:Zp} {c x:List Int} {S:List ZB} (h:Zde m) (hcl:c.length≤1048576) (hxl:x.length≤1048576) (hS:ZkS S):ZgX m c x S=some (ZsS m c x S):=by
 unfold ZgX ZnI ZsS
 rw[Zrr m h,Ze]
 unfold ZCM
 cases hm:Zz m with
 |false=>rw[Xae,Xae,Xae,Xae,cff];rfl
 |true=>
  rw[Xai,Xai]
  by_cases q4:(ZbV m).length≤400
  case neg=>
   rw[decide_eq_false q4,cff,decide_eq_false (show ¬(ZbV m).length<400 by omega),Xae,Xae]
   rfl
  rw[Xad q4,ctt,ctt,Ze]
  dsimp only
  by_cases q:(ZbV m).length<400
  case neg=>
   rw[decide_eq_false (show ¬((ZbV m).length:Int)<400 by omega),cnf,decide_eq_false q,Xae,Xae]
  rw[Xad (show ((ZbV m).length:Int)<400 by omega),cnt,Xad q,Xai,ZzH m x h hxl,Ze,hm,Xai]
  cases hx:ZE m x&&ZcI m x with
  |false=>rw[cnf,Xae,Xae]
  |true=>
   rw[cnt,ZfI m c hcl,Ze,Xai]
   cases hc:ZfZ m c with
   |false=>rw[cnf,Xae]
   |true=>
    rw[Xaf]at hx
    obtain⟨b1,b2,b3,b4,b5⟩:=Zs8 hm hc hx.1
    have hb:=b5 x.length (Nat.le_refl _)
    have hxne:x≠[]:=fun e=>by rw[e]at b4;simp at b4
    obtain⟨r1,_,_⟩:=Zvo hm hc q (Or.inr ⟨hx.1,hx.2⟩:ZBz m x)
    rw[ZC5 hxne]at r1
    rw[cnt,Zjq b2 b3 b1,Ze,Zf (by omega) (by omega),ZnF m c _ h hcl,Ze,(ZAV hm hc ⟨by omega,by omega⟩).1]
    unfold Zli
    dsimp only
    rw[ctt,ZsR _ (by omega),Ze,Zb (by simp only[Zl,Xak,Xal];omega)]
    have e:=ZvP r1 hS
    rw[show ((obC m c (ZX c x x.length - 1)).1,(obC m c (ZX c x x.length - 1)).2)=obC m c (ZX c x x.length - 1) from rfl,e,Ze,Xai]
theorem Zy1 {m:Zp} {c x:List Int} {S:List ZB} (h:Zde m) (hcl:c.length≤1048576) (hxl:x.length≤1048576) (hS:ZkS S) (hsol:Zic m x=some (Zz m&&ZE m x&&ZcI m x)):Zeq m c x S=some (ZsS m c x S):=by
 unfold Zeq ZsS
 rw[Zrv m h,Ze]
 unfold ZCM
 cases hm:Zz m with
 |false=>rw[Xae,Xae,Xae,Xae,cff];rfl
 |true=>
  rw[Xai,Xai]
  by_cases q4:(ZbV m).length≤400
  case neg=>
   rw[decide_eq_false q4,cff,decide_eq_false (show ¬(ZbV m).length<400 by omega),Xae,Xae]
   rfl
  rw[Xad q4,ctt]
  dsimp only
  rw[cnt,Zrj m c h hcl,Ze,hm,Xai]
  cases hc:ZfZ m c with
  |false=>rw[cnf,XaR,XaR,Xae]
  |true=>
   rw[cnt,hsol,Ze,hm,Xai,XbD]
   cases hx:ZE m x&&ZcI m x with
   |false=>rw[cnf,XaR,Xae]
   |true=>
    rw[cnt,XbD]
    by_cases q:(ZbV m).length<400
    case neg=>rw[Zd (by omega),decide_eq_false q,Xae]
    rw[Xaf]at hx
    obtain⟨b1,b2,b3,b4,b5⟩:=Zs8 hm hc hx.1
    have hb:=b5 x.length (Nat.le_refl _)
    have hxne:x≠[]:=fun e=>by rw[e]at b4;simp at b4
    obtain⟨r1,_,_⟩:=Zvo hm hc q (Or.inr ⟨hx.1,hx.2⟩:ZBz m x)
    rw[ZC5 hxne]at r1
    rw[Zc (by omega),ZwJ b2 b3 b1,Ze,Zf (by omega) (by omega),ZnT m c _ h hcl,Ze,(ZAV hm hc ⟨by omega,by omega⟩).1]
    unfold ZlA
    dsimp only
    rw[Zb (by simp only[Zl,Xal];omega),Xao,Zb (by simp only[Zl,Xak,Xal];omega)]
    have e:=Zv1 r1 hS
    rw[show ((obC m c (ZX c x x.length - 1)).1,(obC m c (ZX c x x.length - 1)).2)=obC m c (ZX c x x.length - 1) from rfl,e,Ze,Xad q,Xai]
end Go.AE.Y
namespace Go.AE.Y
open Go Go.AE
set_option maxHeartbeats 400000
end Go.AE.Y
namespace Go.AE.Y
open Go Go.AE
set_option maxHeartbeats 400000
end Go.AE.Y
