/-
  Plain laws of the models, in one text. No conditions.
-/
import Derived.Test.YtaeeiddjpigemaaGreatPx1
import Derived.Test.YtaeeiddjpigemaaGreatAEx3
namespace Go.AE.Y
open Go Go.AE
def LtL (n:Nat) (x y:List Int):Prop:=∃k,k<n∧x.getD k 0<y.getD k 0∧∀j,j<k→x.getD j 0=y.getD j 0
theorem LtL.trans {n:Nat} {x y z:List Int}:LtL n x y→LtL n y z→LtL n x z:=by
 rintro⟨a,a1,a2,a3⟩ ⟨b,b1,b2,b3⟩
 rcases Xag a b with h|h
 ·exact⟨a,a1,by rw[←b3 a h];exact a2,fun j hj=>by rw[a3 j hj,b3 j (by omega)]⟩
 ·rcases Xag b a with h'|h'
  ·exact⟨b,b1,by rw[a3 b h'];exact b2,fun j hj=>by rw[a3 j (by omega),b3 j hj]⟩
  ·have:a=b:=by omega
   subst this
   exact⟨a,a1,by omega,fun j hj=>by rw[a3 j hj,b3 j hj]⟩
theorem Zyw {x y:List Int}:∀n,(∀i,i<n→x.getD i 0≤y.getD i 0)→(∀i,i<n→x.getD i 0=y.getD i 0)∨LtL n x y
 |0,_=>Or.inl (fun i hi=>by omega)
 |n+1,h=>by
  rcases Zyw n (fun i hi=>h i (by omega))with e|⟨k,k1,k2,k3⟩
  ·have hn:=h n (by omega)
   by_cases q:x.getD n 0=y.getD n 0
   ·left
    intro i hi
    rcases Xag i n with h2|h2
    ·exact e i h2
    ·rw[show i=n by omega];exact q
   ·right
    exact⟨n,by omega,by omega,e⟩
  ·exact Or.inr ⟨k,by omega,k2,k3⟩
theorem Zwu {x y:List Int} (hl:x.length=y.length) (h:∀i,i<x.length→x.getD i 0=y.getD i 0):x=y:=by
 apply XbP hl
 intro i h1 h2
 have:=h i h1
 rwa [Xaa,Xaa,Xac h1,Xac h2]at this
theorem ZAW {s:List Int}:∀n x,n≤x.length→((Zfe s n x).1=false∧∀j,j<n→s.getD j 0≤x.getD j 0)∨((Zfe s n x).1=true∧∃k,k<n∧(Zfe s n x).2.getD k 0=x.getD k 0+1∧(∀j,j<k→(Zfe s n x).2.getD j 0=x.getD j 0)∧(∀j,n≤j→(Zfe s n x).2.getD j 0=x.getD j 0)∧∀j,k<j→j<n→(Zfe s n x).2.getD j 0=0∧s.getD j 0≤x.getD j 0)
 |0,_,_=>Or.inl ⟨rfl,fun j hj=>by omega⟩
 |n+1,x,hl=>by
  rw[ZyS]
  cases hq:decide (x.getD n 0<s.getD n 0)with
  |true=>
   rw[ctt]
   right
   exact⟨rfl,n,by omega,ZbE (by omega),fun j hj=>ZO (by omega),fun j hj=>ZO (by omega),fun j h1 h2=>by omega⟩
  |false=>
   rw[cff]
   have hq':=of_decide_eq_false hq
   rcases ZAW n (x.set n 0) (by rw[Xam];omega)with⟨h1,h2⟩|⟨h1,k,k1,k2,k3,k4,k5⟩
   ·left
    refine⟨h1,fun j hj=>?_⟩
    rcases Xag j n with h3|h3
    ·have:=h2 j h3
     rwa [ZO (by omega)]at this
    ·rw[show j=n by omega];omega
   ·right
    refine⟨h1,k,by omega,by rw[k2,ZO (by omega)],fun j hj=>by rw[k3 j hj,ZO (by omega)],fun j hj=>by rw[k4 j (by omega),ZO (by omega)],fun j h3 h4=>?_⟩
    rcases Xag j n with h5|h5
    ·have:=k5 j h3 h5
     rwa [ZO (by omega)]at this
    ·have:j=n:=by omega
     subst this
     exact⟨by rw[k4 j (Nat.le_refl _)];exact ZbE (by omega),by omega⟩
theorem ZBE {m:Zp} {x:List Int} (hx:ZE m x=true) (h:(Z8 m x).1=true):LtL m.1.length x (Z8 m x).2:=by
 obtain⟨x1,_⟩:=Zes hx
 unfold Z8 at h ⊢
 rcases ZAW (s:=m.1) x.length x (Nat.le_refl _)with⟨h1,_⟩|⟨_,k,k1,k2,k3,_⟩
 ·rw[h1]at h;cases h
 ·exact⟨k,by omega,by rw[k2];omega,fun j hj=>(k3 j hj).symm⟩
theorem ZPL {m:Zp} {x y:List Int} (hx:ZE m x=true) (hy:ZE m y=true) (h:LtL m.1.length x y):(Z8 m x).1=true∧((Z8 m x).2=y∨LtL m.1.length (Z8 m x).2 y):=by
 obtain⟨x1,x2⟩:=Zes hx
 obtain⟨y1,y2⟩:=Zes hy
 obtain⟨a,a1,a2,a3⟩:=h
 have hl:(Z8 m x).2.length=x.length:=ZBF _ _ _
 unfold Z8 at hl ⊢
 have hya:=y2 a
 rcases ZAW (s:=m.1) x.length x (Nat.le_refl _)with⟨h1,h2⟩|⟨h1,k,k1,k2,k3,k4,k5⟩
 ·have:=h2 a (by omega)
  omega
 ·refine⟨h1,?_⟩
  rcases Xag k a with q|q
  ·have:=(k5 a q (by omega)).2
   omega
  ·rcases Xag a k with q'|q'
   ·right
    exact⟨a,a1,by rw[k3 a q'];exact a2,fun j hj=>by rw[k3 j (by omega),a3 j hj]⟩
   ·have:a=k:=by omega
    subst this
    have hle:∀i,i<m.1.length→(Zfe m.1 x.length x).2.getD i 0≤y.getD i 0:=fun i hi=>by
     rcases Xag i a with r|r
     ·rw[k3 i r,a3 i r];omega
     ·rcases Xag a i with r'|r'
      ·rw[(k5 i r' (by omega)).1];exact(y2 i).1
      ·rw[show i=a by omega,k2];omega
    rcases Zyw m.1.length hle with e|e
    ·left
     exact Zwu (by omega) (fun i hi=>e i (by omega))
    ·exact Or.inr e
def ZmH (m:Zp):Nat→List Int→List (List Int)
 |0,x=>[x]
 |n+1,x=>x::bif (Z8 m x).1 then ZmH m n (Z8 m x).2 else[]
def ZqC (m:Zp) (x:List Int):List (List Int):=ZmH m 1024 x
def Zni (m:Zp):List Int:=List.replicate m.1.length 0
theorem ZJk {m:Zp} (hm:Zz m=true):∀n n' x,ZE m x=true→muF x≤n→muF x≤n'→ZmH m n x=ZmH m n' x
 |0,_,x,hx,h,_=>by have:=(Zq6 hm hx).1;omega
 |_+1,0,x,hx,_,h=>by have:=(Zq6 hm hx).1;omega
 |n+1,n'+1,x,hx,h,h'=>by
  unfold ZmH
  cases hq:(Z8 m x).1 with
  |false=>rfl
  |true=>
   have:=Zqp hm hx hq
   rw[ctt,ctt,ZJk hm n n' _ (ZhM hx) (by omega) (by omega)]
theorem ZCI {m:Zp} {x:List Int} (hm:Zz m=true) (hx:ZE m x=true):ZqC m x=x::bif (Z8 m x).1 then ZqC m (Z8 m x).2 else[]:=by
 have h1:ZqC m x=x::bif (Z8 m x).1 then ZmH m 1023 (Z8 m x).2 else[]:=rfl
 rw[h1]
 cases hq:(Z8 m x).1 with
 |false=>rw[cff,cff]
 |true=>
  have h2:=Zqp hm hx hq
  have h3:muF x≤1024:=by unfold muF;omega
  rw[ctt,ctt]
  unfold ZqC
  rw[ZJk hm 1023 1024 _ (ZhM hx) (by omega) (by omega)]
theorem ZEm {m:Zp}:∀n x,ZE m x=true→∀z∈ZmH m n x,ZE m z=true∧(z=x∨LtL m.1.length x z)
 |0,x,hx,z,hz=>by
  unfold ZmH at hz
  rw[Xaj]at hz
  subst hz
  exact⟨hx,Or.inl rfl⟩
 |n+1,x,hx,z,hz=>by
  unfold ZmH at hz
  rcases XaA.1 hz with rfl|hz
  ·exact⟨hx,Or.inl rfl⟩
  ·cases hq:(Z8 m x).1 with
   |false=>rw[hq,cff]at hz;cases hz
   |true=>
    rw[hq,ctt]at hz
    obtain⟨h1,h2⟩:=ZEm n _ (ZhM hx) z hz
    refine⟨h1,Or.inr ?_⟩
    rcases h2 with rfl|h2
    ·exact ZBE hx hq
    ·exact(ZBE hx hq).trans h2
theorem ZEn {m:Zp}:∀n x,ZE m x=true→(ZmH m n x).Pairwise (LtL m.1.length)
 |0,x,hx=>by unfold ZmH;exact Xbe _ _
 |n+1,x,hx=>by
  unfold ZmH
  cases hq:(Z8 m x).1 with
  |false=>rw[cff];exact Xbe _ _
  |true=>
   rw[ctt]
   refine List.Pairwise.cons (fun z hz=>?_) (ZEn n _ (ZhM hx))
   rcases(ZEm n _ (ZhM hx) z hz).2 with rfl|h2
   ·exact ZBE hx hq
   ·exact(ZBE hx hq).trans h2
theorem ZJj {m:Zp} (hm:Zz m=true) {y:List Int} (hy:ZE m y=true):∀n x,ZE m x=true→muF x≤n→(x=y∨LtL m.1.length x y)→y∈ZmH m n x
 |0,x,hx,h,_=>by have:=(Zq6 hm hx).1;omega
 |n+1,x,hx,h,hl=>by
  unfold ZmH
  rcases hl with rfl|hl
  ·exact Xav
  ·obtain⟨h1,h2⟩:=ZPL hx hy hl
   have:=Zqp hm hx h1
   rw[h1,ctt]
   refine Xaq _ (ZJj hm hy n _ (ZhM hx) (by omega) h2)
theorem ZxH {m:Zp} (hm:Zz m=true) {y:List Int}:y∈ZqC m (Zni m)↔ZE m y=true:=by
 have hz:=Zos hm
 constructor
 ·intro h
  exact(ZEm 1024 _ hz y h).1
 ·intro h
  obtain⟨y1,y2⟩:=Zes h
  refine ZJj hm h 1024 _ hz (by unfold muF;omega) ?_
  have e0:∀i,(Zni m).getD i 0=0:=fun i=>by
   unfold Zni
   rw[Xaa]
   rcases Xag i m.1.length with h|h
   ·rw[XaW h];rfl
   ·rw[Xax (by rw[Xaw];exact h)];rfl
  rcases Zyw (x:=Zni m) (y:=y) m.1.length (fun i _=>by rw[e0];exact(y2 i).1)with e|e
  ·exact Or.inl (Zwu (by unfold Zni;rw[Xaw];exact y1.symm) (fun i hi=>e i (by unfold Zni at hi;rwa [Xaw]at hi)))
  ·exact Or.inr e
theorem ZPU {m:Zp} {x z:List Int} (hx:ZE m x=true) (h:z∈ZqC m x):ZE m z=true:=(ZEm 1024 _ hx z h).1
theorem ZOV {X:Type} {m:Zp} {x:List Int} (hm:Zz m=true) (hx:ZE m x=true) (good:List Int→X) (bad:X) {f:Int×List Int→Option ((Int×List Int)⊕X)} {g:Int×List Int→Option X}
  (hf:∀i y,f (i,y)=cond (decide ((0:Int)≤i)) (rq (0≤i∧i<y.length) <|rq (0≤i∧i<m.1.length) <|cond ((y.getD i.toNat 0)==(m.1.getD i.toNat 0)) (rq (0≤i∧i<y.length) <|rq (i64 (i - (1:Int))) <|some (.inl ((i - (1:Int)),(y.set i.toNat (0:Int))))) (up (g (i,y)))) (up (g (i,y))))
  (hg:∀i y,g (i,y)=cond (decide (i<(0:Int))) (some bad) (rq (0≤i∧i<y.length) <|rq (i64 ((y.getD i.toNat 0)+(1:Int))) <|rq (0≤i∧i<y.length) <|some (good (y.set i.toNat ((y.getD i.toNat 0)+(1:Int)))))) :
  loop f (((x.length:Int) - 1),x)=some (bif (Z8 m x).1 then good (Z8 m x).2 else bad):=by
 obtain⟨x1,x2⟩:=Zes hx
 obtain⟨m1,m2,m3⟩:=ZcG hm
 unfold Z8
 refine ZL (f:=f) (fun s:Int×List Int=>∃n:Nat,s.1=(n:Int) - 1∧n≤x.length∧s.2.length=x.length∧Dig m.1 s.2) (fun s=>(s.1+1).toNat)
  (fun s=>bif (Zfe m.1 (s.1+1).toNat s.2).1 then good (Zfe m.1 (s.1+1).toNat s.2).2 else bad) ?_ _ ⟨x.length,rfl,Nat.le_refl _,rfl,x2⟩ |>.trans ?_
 ·rintro⟨s,y⟩ ⟨n,hs,hn,hl,hd⟩
  dsimp only at hs hl hd ⊢
  subst hs
  rw[hf,hg]
  cases n with
  |zero=>
   right
   rw[Zc (by omega),Zd (by omega)]
   rfl
  |succ n=>
   have e:(((n+1:Nat):Int) - 1).toNat=n:=by omega
   have e':(((n+1:Nat):Int) - 1+1).toNat=n+1:=by omega
   have hz:=ZsT hm hd n
   have hdn:=hd n
   rw[Zd (by omega),Zb ⟨by omega,by omega⟩,Zb ⟨by omega,by omega⟩,e,e',ZyS]
   by_cases hq:y.getD n 0=m.1.getD n 0
   ·left
    rw[Zu hq,decide_eq_false (show ¬y.getD n 0<m.1.getD n 0 by omega),cff,Zb ⟨by omega,by omega⟩,Zf (by omega) (by omega)]
    refine⟨_,rfl,⟨n,by (try dsimp only)<;>omega,by omega,by (try dsimp only)<;>(rw[Xam];exact hl),Zxp hd (by omega) (by omega)⟩,by (try dsimp only)<;>omega,?_⟩
    dsimp only
    rw[show (((n+1:Nat):Int) - 1 - 1+1).toNat=n by omega]
   ·right
    rw[Zo hq,Xad (show y.getD n 0<m.1.getD n 0 by omega),ctt,Zc (by omega),Zb ⟨by omega,by omega⟩,Zf (by omega) (by omega),Zb ⟨by omega,by omega⟩]
    rfl
 ·dsimp only
  rw[show ((x.length:Int) - 1+1).toNat=x.length by omega]
theorem ZIf {m:Zp} {x:List Int} (hm:Zz m=true) (hx:ZE m x=true):x≠[]:=by
 have:=(ZcG hm).1
 have:=(Zes hx).1
 rintro rfl
 simp at this
 omega
end Go.AE.Y
namespace Go.AE.Y
open Go Go.AE
theorem ZNF {f:Int→Int→Option Int} {l:List Int} {key:Int→Int} (hn:l.length≤4000000000) (hf:∀x∈l,∀y∈l,f x y=some (key x - key y)) (hi:∀x∈l,∀y∈l,key x=key y→x=y) :
  ZBJ f l=some (l.mergeSort fun x y=>decide (key x≤key y)):=by
 have hlt:∀x∈l,∀y∈l,ltM f x y=decide (key x<key y):=fun x hx y hy=>by
  unfold ltM
  rw[hf x hx y hy]
  by_cases h:key x<key y
  ·rw[Xad h];exact Xad (by omega)
  ·rw[decide_eq_false h];exact decide_eq_false (by omega)
 have hs:ZL9 f l:=by
  refine⟨hn,fun x hx y hy=>⟨_,hf x hx y hy⟩,fun x hx=>?_,fun x hx y hy z hz h1 h2=>?_,fun x hx y hy z hz h1 h2=>?_,fun x hx y hy h1 h2=>?_⟩
  ·rw[hlt x hx x hx];exact decide_eq_false (by omega)
  ·rw[hlt x hx y hy,Xah]at h1
   rw[hlt y hy z hz,Xah]at h2
   rw[hlt x hx z hz]
   exact Xad (by omega)
  ·rw[hlt x hx y hy,decide_eq_false_iff_not]at h1
   rw[hlt y hy z hz,decide_eq_false_iff_not]at h2
   rw[hlt x hx z hz]
   exact decide_eq_false (by omega)
  ·rw[hlt x hx y hy,decide_eq_false_iff_not]at h1
   rw[hlt y hy x hx,decide_eq_false_iff_not]at h2
   exact hi x hx y hy (by omega)
 unfold ZBJ
 rw[if_pos hs]
 have e:=List.map_mergeSort (r:=fun x y=>!ltM f y x) (s:=fun x y=>decide (key x≤key y)) (f:=id) (l:=l) (fun a ha b hb=>by
  rw[hlt b hb a ha]
  by_cases h:key b<key a
  ·rw[Xad h];exact(decide_eq_false (by show ¬key (id a)≤key (id b);simp only[id];omega)).symm
  ·rw[decide_eq_false h];exact(Xad (by show key (id a)≤key (id b);simp only[id];omega)).symm)
 rw[List.map_id,List.map_id]at e
 rw[e]
theorem ZJn (l:List Int) (key:Int→Int):(l.mergeSort fun x y=>decide (key x≤key y)).Pairwise (fun x y=>key x≤key y):=by
 have:=List.pairwise_mergeSort (le:=fun x y=>decide (key x≤key y)) (fun a b c h1 h2=>by rw[Xah]at h1 h2 ⊢;omega) (fun a b=>by rw[XbU,Xah,Xah];omega) l
 exact this.imp (fun h=>of_decide_eq_true h)
theorem ZMa {l l':List Int} {key:Int→Int} (h:l.Pairwise (fun x y=>key x<key y)) (h':l'.Pairwise (fun x y=>key x<key y)) (hm:∀x,x∈l↔x∈l'):l=l':=by
 have nd:∀{a:List Int},a.Pairwise (fun x y=>key x<key y)→a.Nodup:=fun ha=>ha.imp (fun hlt e=>by subst e;exact absurd hlt (Int.lt_irrefl _))
 exact List.Perm.eq_of_pairwise (le:=fun x y=>key x<key y) (fun a b _ _ h1 h2=>absurd h1 (by omega)) h h' ((List.perm_ext_iff_of_nodup (nd h) (nd h')).2 hm)
def ZeJ (s:List Int):Nat→List Int
 |0=>[]
 |n+1=>if 1≤n∧s.getD n 0=s.getD (n - 1) 0 then ZeJ s n else ZeJ s n++[s.getD n 0]
theorem ZlW {l:List Int} {n:Nat} (h:n<l.length):l.take (n+1)=l.take n++[l.getD n 0]:=by
 rw[Xbg,Xac h,Xaa,Xac h]
 rfl
theorem ZCJ {s:List Int}:∀n,n≤s.length→∀x,x∈ZeJ s n↔x∈s.take n
 |0,_,x=>by unfold ZeJ;rw[XaS]
 |n+1,h,x=>by
  have ih:=ZCJ (s:=s) n (by omega) x
  unfold ZeJ
  rw[ZlW (by omega),List.mem_append,Xaj]
  split
  ·rename_i hd
   rw[ih]
   constructor
   ·exact Or.inl
   ·rintro(h1|rfl)
    ·exact h1
    ·rw[hd.2]
     obtain⟨m,rfl⟩:∃m,n=m+1:=⟨n - 1,by omega⟩
     rw[ZlW (by omega)]
     exact Xbw _ (by rw[XbT];exact Xaj.2 rfl)
  ·rw[List.mem_append,Xaj,ih]
theorem ZIg {s:List Int} {key:Int→Int} (hs:s.Pairwise (fun x y=>key x≤key y)) (hi:∀x∈s,∀y∈s,key x=key y→x=y):∀n,n≤s.length→(ZeJ s n).Pairwise (fun x y=>key x<key y)
 |0,_=>List.Pairwise.nil
 |n+1,h=>by
  have ih:=ZIg hs hi n (by omega)
  have hat:∀i,i<s.length→s.getD i 0∈s:=fun i h=>ZF h
  have hle:∀i j,i<j→j<s.length→key (s.getD i 0)≤key (s.getD j 0):=fun i j h1 h2=>by
   have:=XaX.1 hs i j (by omega) h2 h1
   rwa [Xaa,Xaa,Xac h2,Xac (show i<s.length by omega)]
  unfold ZeJ
  split
  ·exact ih
  ·rename_i hd
   refine List.pairwise_append.2 ⟨ih,Xbe _ _,fun z hz y hy=>?_⟩
   rw[Xaj]at hy
   subst hy
   have hz':=(ZCJ (s:=s) n (by omega) z).1 hz
   obtain⟨i,i1,i2⟩:=Xat.1 hz'
   rw[Xay]at i1
   rw[Xa9]at i2
   have e:s.getD i 0=z:=by rw[Xaa,Xac (show i<s.length by omega)];exact i2
   have h1:=hle i n (by omega) (by omega)
   rw[e]at h1
   by_cases q:key z=key (s.getD n 0)
   ·exfalso
    apply hd
    refine⟨by omega,?_⟩
    have h3:=hle (n - 1) n (by omega) (by omega)
    have h2:key z≤key (s.getD (n - 1) 0):=by
     rcases Xag i (n - 1)with r|r
     ·rw[←e];exact hle i (n - 1) r (by omega)
     ·rw[←e,show i=n - 1 by omega];omega
    exact hi _ (hat n (by omega)) _ (hat (n - 1) (by omega)) (by omega)
   ·omega
theorem ZCi (s:List Int) (hn:s.length≤4000000000):Zjx s=some (ZeJ s s.length):=by
 have h1:∀n,1≤n→n≤s.length→(∀k,1≤k→k<n→s.getD k 0≠s.getD (k - 1) 0)→ZeJ s n=s.take n:=by
  intro n
  induction n with
  |zero=>intro h;omega
  |succ n ih=>
   intro _ h2 h3
   rw[ZlW (by omega)]
   unfold ZeJ
   rcases Xag 0 n with h4|h4
   ·rw[if_neg (fun h=>h3 n h4 (by omega) h.2),ih h4 (by omega) (fun k k1 k2=>h3 k k1 (by omega))]
   ·have:n=0:=by omega
    subst this
    rw[if_neg (fun h=>absurd h.1 (by omega))]
    rfl
 unfold Zjx
 rcases Xag s.length 2 with h2|h2
 ·rw[Zd (by omega)]
  rcases Xag 0 s.length with h3|h3
  ·rw[h1 s.length h3 (Nat.le_refl _) (fun k k1 k2=>by omega),XaB]
  ·have:s=[]:=XaH (by omega)
   subst this
   rfl
 rw[Zc (by omega)]
 refine ZL (f:=ZgD s) (fun t:Int=>∃n:Nat,t=n∧1≤n∧n≤s.length∧∀k,1≤k→k<n→s.getD k 0≠s.getD (k - 1) 0) (fun t=>s.length - t.toNat) (fun _=>ZeJ s s.length) ?_ _ ⟨1,rfl,by omega,by omega,fun k k1 k2=>by omega⟩
 rintro t ⟨n,rfl,n1,n2,n3⟩
 unfold ZgD
 rcases Xag n s.length with h3|h3
 ·rw[Zd (by omega),Zb ⟨by omega,by omega⟩,Zf (by omega) (by omega),Zb ⟨by omega,by omega⟩,Xab,show ((n:Int) - 1).toNat=n - 1 by omega]
  by_cases q:s.getD n 0=s.getD (n - 1) 0
  ·right
   rw[Zu q,Zb ⟨by omega,by omega⟩]
   have e0:ZeJ s (n+1)=s.take n:=by
    unfold ZeJ
    rw[if_pos ⟨n1,q⟩,h1 n n1 n2 n3]
   refine ZL (f:=ZgE n) (fun t:Int×Int×List Int=>∃b:Nat,t.2.1=b∧1≤b∧n+b≤s.length∧t.1=(ZeJ s (n+b)).length∧(ZeJ s (n+b)).length+1≤n+b∧t.2.2.length=s.length∧t.2.2.take (ZeJ s (n+b)).length=ZeJ s (n+b)∧∀j,n+b≤j+1→t.2.2.getD j 0=s.getD j 0) (fun t=>s.length - t.2.1.toNat) (fun _=>.inr (ZeJ s s.length)) ?_ _ ⟨1,rfl,Nat.le_refl _,by omega,?_,?_,rfl,?_,fun _ _=>rfl⟩
   ·rintro⟨k1,k2,a⟩ ⟨b,hb,b1,b2,b3,b4,b5,b6,b7⟩
    dsimp only at hb b3 b5 b6 b7 ⊢
    subst hb
    subst b3
    unfold ZgE
    dsimp only
    rcases Xag (n+b) s.length with h4|h4
    ·left
     have e1:((n:Int)+(b:Int)).toNat=n+b:=by omega
     have e2:((n:Int)+((b:Int) - 1)).toNat=n+b - 1:=by omega
     rw[Zd (by omega),Zb ⟨by omega,by omega⟩,Zf (by omega) (by omega),Zb ⟨by omega,by omega⟩,e1,e2,b7 (n+b) (by omega),b7 (n+b - 1) (by omega)]
     by_cases q2:s.getD (n+b) 0=s.getD (n+b - 1) 0
     ·have e3:ZeJ s (n+(b+1))=ZeJ s (n+b):=by
       show ZeJ s (n+b+1)=_
       conv=>lhs;unfold ZeJ
       rw[if_pos ⟨by omega,q2⟩]
      rw[show (s.getD (n+b) 0 != s.getD (n+b - 1) 0)=false by rw[q2];exact bne_self_eq_false _,cff,Zf (by omega) (by omega)]
      refine⟨_,rfl,⟨b+1,by simp,by omega,by omega,?_,?_,b5,?_,fun j hj=>b7 j (by omega)⟩,by (try dsimp only)<;>omega,rfl⟩
      ·rw[e3]
      ·rw[e3];omega
      ·rw[e3];exact b6
     ·have e3:ZeJ s (n+(b+1))=ZeJ s (n+b)++[s.getD (n+b) 0]:=by
       show ZeJ s (n+b+1)=_
       conv=>lhs;unfold ZeJ
       rw[if_neg (fun h=>q2 h.2)]
      have e4:(ZeJ s (n+(b+1))).length=(ZeJ s (n+b)).length+1:=by rw[e3,Xan,XaC]
      rw[show (s.getD (n+b) 0 != s.getD (n+b - 1) 0)=true by rw[bne_iff_ne];exact q2,ctt,Zb ⟨by omega,by omega⟩,Zb ⟨by omega,by omega⟩,Zf (by omega) (by omega),Zf (by omega) (by omega),Xab]
      refine⟨_,rfl,⟨b+1,by simp,by omega,by omega,?_,?_,?_,?_,fun j hj=>?_⟩,by (try dsimp only)<;>omega,rfl⟩
      ·rw[e4];simp
      ·rw[e4];omega
      ·dsimp only;rw[Xam];exact b5
      ·dsimp only
       rw[e4,Xbg,List.take_set_of_le (Nat.le_refl _),b6,List.getElem?_set_self (by omega),e3]
       rfl
      ·dsimp only
       rw[Xaa,List.getElem?_set_ne (by omega),←Xaa]
       exact b7 j (by omega)
    ·right
     have e:n+b=s.length:=by omega
     unfold ZkR
     dsimp only
     rw[e]at b4 b6 ⊢
     have hl:(a.take (ZeJ s s.length).length++List.replicate (a.length - (ZeJ s s.length).length) (0:Int)).length=s.length:=by rw[Xan,Xay,Xaw];omega
     rw[Zc (by omega),Zb ⟨by omega,by omega⟩,Xab,hl,Zb ⟨by omega,by omega⟩,b6,List.take_left' rfl]
     rfl
   ·dsimp only
    rw[e0,Xay];omega
   ·rw[e0,Xay];omega
   ·dsimp only
    rw[e0,Xay,Nat.min_eq_left n2]
  ·left
   rw[Zo q,Zf (by omega) (by omega)]
   refine⟨_,rfl,⟨n+1,by simp,by omega,by omega,fun k k1 k2=>?_⟩,by omega,rfl⟩
   rcases Xag k n with h|h
   ·exact n3 k k1 h
   ·rw[show k=n by omega];exact q
 ·right
  have:n=s.length:=by omega
  rw[Zc (by omega),h1 s.length (by omega) (Nat.le_refl _) (by rw[←this];exact n3),XaB]
theorem ZJY (s:List Int) (v:Int) (h:s.length≤4000000000):Zcz s v=some (s.any (fun x=>v==x)):=by
 unfold Zcz Zlz
 obtain⟨r,hr1,hr2⟩:=ZhH (f:=ZcY s v) s 0 (fun x=>v==x) (fun i hi=>by
  unfold ZcY
  rw[Zd (by omega),Zb ⟨by omega,by omega⟩,Xab]
  cases v==s.getD i 0 with
  |true=>rw[ctt,ctt]
  |false=>rw[cff,cff,Zf (by omega) (by omega)]) (by
  unfold ZcY
  rw[Zc (by omega)])
 rw[hr1,Ze,hr2]
def Zdl (l:List Int):Nat→List Int
 |0=>List.replicate 13 0
 |n+1=>(Zdl l n).set (vof (l.getD n 0)).toNat (l.getD n 0)
def ZrQ (s:List Int):Nat→List Int
 |0=>[]
 |n+1=>ZrQ s n++(if s.getD (n+1) 0=0 then[]else[s.getD (n+1) 0])
def ZcN (l:List Int):Bool:=l.all Zbe&&l.all (fun x=>!(l.any (fun y=>(0 - x)==y)))
def Zcl (l:List Int):List Int:=ZrQ (Zdl l l.length) 12
def Zi3 (l:List Int):Bool×Int×List (Int×Int):=bif decide (l.length≤40)&&ZcN l then(true,1,(Zcl l).map (fun x=>(1,x)))else(false,0,[])
theorem Zi9 {n:Int} (h:Zbe n=true):1≤vof n∧vof n≤12∧n≠0:=by
 have:=ZG.1 h
 unfold vof
 omega
theorem ZwG (l:List Int):∀n,(Zdl l n).length=13
 |0=>rfl
 |n+1=>by unfold Zdl;rw[Xam];exact ZwG l n
theorem Zhq {l:List Int} (h:ZcN l=true):(∀x∈l,Zbe x=true)∧∀x∈l,∀y∈l,vof x=vof y→x=y:=by
 unfold ZcN at h
 simp only[Xaf,Xar,XaY,XaO]at h
 refine⟨h.1,fun x hx y hy e=>?_⟩
 have h2:=h.2 x hx y hy
 rw[beq_iff_eq]at h2
 have:=Zi9 (h.1 x hx)
 unfold vof at e this
 omega
theorem ZBa {l:List Int} (hl:∀x∈l,Zbe x=true):∀n,n≤l.length→∀v:Nat,v≤12→((Zdl l n).getD v 0=0∧∀x∈l.take n,vof x≠v)∨((Zdl l n).getD v 0∈l.take n∧vof ((Zdl l n).getD v 0)=v)
 |0,_,v,hv=>by
  left
  refine⟨?_,fun x hx=>by rw[XaS]at hx;cases hx⟩
  show (List.replicate 13 (0:Int)).getD v 0=0
  rw[Xaa,XaW (by omega)]
  rfl
 |n+1,h,v,hv=>by
  have hn:=Zi9 (hl _ (ZF (l:=l) (i:=n) (d:=0) (by omega)))
  have hln:=ZwG l n
  unfold Zdl
  rw[ZlW (by omega)]
  by_cases q:(vof (l.getD n 0)).toNat=v
  ·right
   subst q
   have e:((Zdl l n).set (vof (l.getD n 0)).toNat (l.getD n 0)).getD (vof (l.getD n 0)).toNat 0=l.getD n 0:=by
    rw[Xaa (l:=(Zdl l n).set _ _),List.getElem?_set_self (by omega)]
    rfl
   rw[e]
   refine⟨Xbw _ (Xaj.2 rfl),?_⟩
   omega
  ·have e:((Zdl l n).set (vof (l.getD n 0)).toNat (l.getD n 0)).getD v 0=(Zdl l n).getD v 0:=by
    rw[Xaa (l:=(Zdl l n).set _ _),List.getElem?_set_ne q,←Xaa]
   rw[e]
   rcases ZBa hl n (by omega) v hv with⟨h1,h2⟩|⟨h1,h2⟩
   ·left
    refine⟨h1,fun x hx=>?_⟩
    rcases List.mem_append.1 hx with hx|hx
    ·exact h2 x hx
    ·rw[Xaj]at hx
     rw[hx]
     omega
   ·right
    exact⟨XbB _ h1,h2⟩
theorem ZAS {l:List Int} (hl:∀x∈l,Zbe x=true):∀n,n≤12→(ZrQ (Zdl l l.length) n).Pairwise (fun x y=>vof x<vof y)∧(∀x∈ZrQ (Zdl l l.length) n,x∈l∧vof x≤n)∧∀x∈l,vof x≤n→∃y∈ZrQ (Zdl l l.length) n,vof y=vof x
 |0,_=>⟨List.Pairwise.nil,fun x hx=>absurd hx XaE,fun x hx h=>(by have:=Zi9 (hl x hx);omega)⟩
 |n+1,h=>by
  obtain⟨i1,i2,i3⟩:=ZAS hl n (by omega)
  have hs:=ZBa hl l.length (Nat.le_refl _) (n+1) h
  rw[XaB]at hs
  unfold ZrQ
  rcases hs with⟨h1,h2⟩|⟨h1,h2⟩
  ·rw[if_pos h1,Xau]
   refine⟨i1,fun x hx=>⟨(i2 x hx).1,by have:=(i2 x hx).2;omega⟩,fun x hx hv=>?_⟩
   have:=h2 x hx
   exact i3 x hx (by omega)
  ·have hne:=(Zi9 (hl _ h1)).2.2
   rw[if_neg hne]
   refine⟨List.pairwise_append.2 ⟨i1,Xbe _ _,fun x hx y hy=>?_⟩,fun x hx=>?_,fun x hx hv=>?_⟩
   ·rw[Xaj]at hy
    rw[hy,h2]
    have:=(i2 x hx).2
    omega
   ·rcases List.mem_append.1 hx with hx|hx
    ·exact⟨(i2 x hx).1,by have:=(i2 x hx).2;omega⟩
    ·rw[Xaj]at hx
     rw[hx]
     exact⟨h1,by omega⟩
   ·by_cases q:vof x≤n
    ·obtain⟨y,y1,y2⟩:=i3 x hx q
     exact⟨y,XbB _ y1,y2⟩
    ·exact⟨_,Xbw _ (Xaj.2 rfl),by omega⟩
theorem ZwD {l:List Int} (h:ZcN l=true):(Zcl l).Pairwise (fun x y=>vof x<vof y):=(ZAS (Zhq h).1 12 (Nat.le_refl _)).1
theorem Zqn {l:List Int} (h:ZcN l=true) (x:Int):x∈Zcl l↔x∈l:=by
 obtain⟨h1,h2⟩:=Zhq h
 obtain⟨i1,i2,i3⟩:=ZAS h1 12 (Nat.le_refl _)
 constructor
 ·exact fun hx=>(i2 x hx).1
 ·intro hx
  obtain⟨y,y1,y2⟩:=i3 x hx (by have:=Zi9 (h1 x hx);omega)
  rw[h2 x hx y (i2 y y1).1 y2.symm]
  exact y1
theorem Zqm (l:List Int):(Zcl l).length≤12:=by
 unfold Zcl
 have:∀s n,(ZrQ s n).length≤n:=by
  intro s n
  induction n with
  |zero=>exact Nat.le_refl _
  |succ n ih=>
   unfold ZrQ
   rw[Xan]
   split
   ·rw[Xal];omega
   ·rw[XaC];omega
 exact this _ _
theorem Zlj (l:List Int) (hn:l.length≤4000000000):Zi5 l=some (Zi3 l):=by
 unfold Zi5 Zi3
 by_cases h0:l.length≤40
 case neg=>rw[Zd (by omega),decide_eq_false h0,Xae,cff]
 rw[Zc (by omega),Xad h0,Xai]
 refine ZL (f:=Zlk l) (fun s:Int=>∃i:Nat,s=i∧i≤l.length∧∀j,j<i→Zbe (l.getD j 0)=true∧l.any (fun y=>(0 - l.getD j 0)==y)=false) (fun s=>l.length - s.toNat) (fun _=>bif ZcN l then(true,1,(Zcl l).map (fun x=>(1,x)))else(false,0,[])) ?_ _ ⟨0,rfl,Nat.zero_le _,fun j hj=>by omega⟩
 rintro s ⟨i,rfl,hi,hp⟩
 unfold Zlk
 rcases Xag i l.length with h1|h1
 ·have hmem:=ZF (l:=l) (i:=i) (d:=0) h1
  rw[Zd (by omega),Zb ⟨by omega,by omega⟩,Xab,ZoI,Ze]
  cases q1:Zbe (l.getD i 0)with
  |false=>
   right
   have:ZcN l=false:=by
    cases h:ZcN l with
    |false=>rfl
    |true=>have:=(Zhq h).1 _ hmem;rw[q1]at this;cases this
   rw[Xbc,ctt,this,cff]
  |true=>
   have hl:=ZG.1 q1
   have hc:Zcz l (0 - l.getD i 0)=some (l.any (fun y=>(0 - l.getD i 0)==y)):=ZJY l _ hn
   rw[Xbm,cff,Zf (by omega) (by omega),hc,Ze]
   cases q2:l.any (fun y=>(0 - l.getD i 0)==y)with
   |true=>
    right
    have:ZcN l=false:=by
     cases h:ZcN l with
     |false=>rfl
     |true=>
      unfold ZcN at h
      simp only[Xaf,Xar]at h
      have:=h.2 _ hmem
      rw[q2]at this
      cases this
    rw[ctt,this,cff]
   |false=>
    left
    rw[cff,Zf (by omega) (by omega)]
    refine⟨_,rfl,⟨i+1,by simp,by omega,fun j hj=>?_⟩,by omega,rfl⟩
    rcases Xag j i with h2|h2
    ·exact hp j h2
    ·rw[show j=i by omega];exact⟨q1,q2⟩
 ·right
  have hei:i=l.length:=by omega
  have hok:ZcN l=true:=by
   unfold ZcN
   simp only[Xaf,Xar]
   constructor
   ·intro x hx
    obtain⟨j,hj,rfl⟩:=Xat.1 hx
    have:=(hp j (by omega)).1
    rwa [Xaa,Xac hj]at this
   ·intro x hx
    obtain⟨j,hj,rfl⟩:=Xat.1 hx
    have:=(hp j (by omega)).2
    rw[Xaa,Xac hj]at this
    dsimp only[Option.getD_some]at this
    rw[this]
    rfl
  obtain⟨o1,o2⟩:=Zhq hok
  have hf:∀x∈l,∀y∈l,Zjn x y=some (vof x - vof y):=fun x hx y hy=>by
   have hx':=ZG.1 (o1 x hx)
   have hy':=ZG.1 (o1 y hy)
   have vx:=Zi9 (o1 x hx)
   have vy:=Zi9 (o1 y hy)
   unfold Zjn
   rw[ZeQ (by omega),Ze,ZeQ (by omega),Ze,Zf (by omega) (by omega)]
  have hS:∀S,S=l.mergeSort (fun x y=>decide (vof x≤vof y))→ZeJ S S.length=Zcl l∧S.length=l.length:=by
   rintro S rfl
   have hperm:=List.mergeSort_perm l (fun x y=>decide (vof x≤vof y))
   refine⟨ZMa (ZIg (ZJn l vof) (fun x hx y hy=>o2 x (hperm.mem_iff.1 hx) y (hperm.mem_iff.1 hy)) _ (Nat.le_refl _)) (ZwD hok) (fun x=>?_),hperm.length_eq⟩
   rw[ZCJ _ (Nat.le_refl _),XaB,hperm.mem_iff,Zqn hok]
  obtain⟨e1,e2⟩:=hS _ rfl
  have hclone:Zbr l=some l:=by
   unfold Zbr
   refine ZAU (fun e=>by rw[e]) ?_
   rw[Zb (by simp only[Xal,Zl];omega),Xao]
  rw[Zc (by omega),hclone,Ze,ZNF (key:=vof) (by omega) hf o2,Ze,ZCi _ (by omega),Ze,e1,hok,ctt]
  have hlen:=Zqm l
  refine ZL (f:=Zll (Zcl l)) (fun s:Int×List (Int×Int)=>∃i:Nat,s.1=i∧i≤(Zcl l).length∧s.2=((Zcl l).take i).map (fun x=>(1,x))) (fun s=>(Zcl l).length - s.1.toNat) (fun _=>.inr (true,1,(Zcl l).map (fun x=>(1,x)))) ?_ _ ⟨0,rfl,Nat.zero_le _,rfl⟩
  rintro⟨s,o⟩ ⟨i,rfl,hi,rfl⟩
  unfold Zll
  dsimp only
  rcases Xag i (Zcl l).length with h4|h4
  ·left
   rw[Zd (by omega),Zb ⟨by omega,by omega⟩,Zb (by simp[Zl];omega),Zf (by omega) (by omega),Xab]
   exact⟨_,rfl,⟨i+1,by simp,by omega,by rw[ZlW h4,Xa3];rfl⟩,by (try dsimp only)<;>omega,rfl⟩
  ·right
   have:i=(Zcl l).length:=by omega
   rw[Zc (by omega),this,XaB]
theorem ZlB (l:List Int) (_hn:l.length≤4000000000):Zi7 l=some (Zi3 l):=by
 unfold Zi7 Zi3
 rw[Zb ⟨by omega,by simp only[Zl];omega,rfl⟩]
 by_cases h0:l.length≤40
 case neg=>rw[Zd (by omega),decide_eq_false h0,Xae,cff]
 rw[Zc (by omega),Xad h0,Xai]
 refine ZL (f:=ZlC l) (fun s:Int×List Int=>∃i:Nat,s.1=i∧i≤l.length∧s.2=Zdl l i∧(∀x∈l.take i,Zbe x=true)∧∀x∈l.take i,∀y∈l.take i,y≠0 - x) (fun s=>l.length - s.1.toNat) (fun _=>bif ZcN l then(true,1,(Zcl l).map (fun x=>(1,x)))else(false,0,[])) ?_ _ ⟨0,rfl,Nat.zero_le _,rfl,fun x hx=>absurd hx (by rw[XaS];exact XaE),fun x hx=>absurd hx (by rw[XaS];exact XaE)⟩
 rintro⟨s,a⟩ ⟨i,hs,hi,ha,hp,hd⟩
 dsimp only at hs ha ⊢
 subst hs
 subst ha
 unfold ZlC
 dsimp only
 rcases Xag i l.length with h1|h1
 ·have hmem:=ZF (l:=l) (i:=i) (d:=0) h1
  rw[Zd (by omega),Zb ⟨by omega,by omega⟩,Xab,Ztw,Ze]
  cases q1:Zbe (l.getD i 0)with
  |false=>
   right
   have:ZcN l=false:=by
    cases h:ZcN l with
    |false=>rfl
    |true=>have:=(Zhq h).1 _ hmem;rw[q1]at this;cases this
   rw[Xbc,ctt,this,cff]
  |true=>
   have hl:=ZG.1 q1
   have hv:=Zi9 q1
   have hsl:=ZwG l i
   rw[Xbm,cff,Zb ⟨by omega,by omega⟩,Ztv (by omega),Ze,Zb ⟨by omega,by omega⟩,Zb ⟨by omega,by omega⟩,Zf (by omega) (by omega)]
   have htl:∀x∈l.take i,x∈l:=fun x hx=>XbO hx
   have hg:((Zdl l i).getD (vof (l.getD i 0)).toNat 0=0∧∀x∈l.take i,vof x≠(vof (l.getD i 0)).toNat)∨((Zdl l i).getD (vof (l.getD i 0)).toNat 0∈l.take i∧vof ((Zdl l i).getD (vof (l.getD i 0)).toNat 0)=(vof (l.getD i 0)).toNat):=by
    have e:∀n,n≤i→Zdl (l.take i) n=Zdl l n:=by
     intro n
     induction n with
     |zero=>intro _;rfl
     |succ n ih=>
      intro hn
      unfold Zdl
      rw[ih (by omega),show (l.take i).getD n 0=l.getD n 0 by rw[Xaa,List.getElem?_take_of_lt (by omega),←Xaa]]
    have:=ZBa (l:=l.take i) hp i (by rw[Xay];omega) (vof (l.getD i 0)).toNat (by omega)
    rw[e i (Nat.le_refl _),List.take_take,Nat.min_self]at this
    exact this
   by_cases q2:(Zdl l i).getD (vof (l.getD i 0)).toNat 0=0 - l.getD i 0
   ·right
    have:ZcN l=false:=by
     cases h:ZcN l with
     |false=>rfl
     |true=>
      exfalso
      rcases hg with⟨g1,g2⟩|⟨g1,g2⟩
      ·omega
      ·have:=(Zhq h).2 _ (htl _ g1) _ hmem (by omega)
       omega
    rw[Zu q2,this,cff]
   ·left
    rw[Zo q2,Zb ⟨by omega,by omega⟩,Zb ⟨by omega,by omega⟩,Zf (by omega) (by omega)]
    have hno:∀y∈l.take i,y≠0 - l.getD i 0:=fun y hy e=>by
     have hy2:=Zi9 (hp y hy)
     have hvy:vof y=vof (l.getD i 0):=by unfold vof;omega
     rcases hg with⟨g1,g2⟩|⟨g1,g2⟩
     ·exact g2 y hy (by omega)
     ·have hz:=Zi9 (hp _ g1)
      have hd1:=hd _ g1 y hy
      generalize (Zdl l i).getD (vof (l.getD i 0)).toNat 0=z at *
      unfold vof at g2 hvy hz hy2 hv
      omega
    refine⟨_,rfl,⟨i+1,by simp,by omega,rfl,?_,?_⟩,by (try dsimp only)<;>omega,rfl⟩
    ·intro x hx
     rw[ZlW h1]at hx
     rcases List.mem_append.1 hx with hx|hx
     ·exact hp x hx
     ·rw[Xaj]at hx;rw[hx];exact q1
    ·intro x hx y hy
     rw[ZlW h1]at hx hy
     rcases List.mem_append.1 hx with hx|hx<;>rcases List.mem_append.1 hy with hy|hy
     ·exact hd x hx y hy
     ·rw[Xaj]at hy
      rw[hy]
      have:=hno x hx
      omega
     ·rw[Xaj]at hx
      rw[hx]
      exact hno y hy
     ·rw[Xaj]at hx hy
      rw[hx,hy]
      omega
 ·right
  have hei:i=l.length:=by omega
  rw[hei,XaB]at hp hd
  have hok:ZcN l=true:=by
   unfold ZcN
   simp only[Xaf,Xar,XaY,XaO,beq_iff_eq]
   exact⟨hp,fun x hx y hy e=>hd x hx y hy e.symm⟩
  rw[Zc (by omega),hok,ctt,hei]
  unfold Zp0
  have hsl:=ZwG l l.length
  have key:loop (Zh6 (Zdl l l.length)) ((1:Int),([]:List (Int×Int)))=some (true,1,(Zcl l).map (fun x=>(1,x))):=by
   have hdl:∀n,(ZrQ (Zdl l l.length) n).length≤n:=by
    intro n
    induction n with
    |zero=>exact Nat.le_refl _
    |succ n ih=>
     unfold ZrQ
     rw[Xan]
     split
     ·rw[Xal];omega
     ·rw[XaC];omega
   refine ZL (f:=Zh6 (Zdl l l.length)) (fun s:Int×List (Int×Int)=>∃n:Nat,s.1=(n:Int)+1∧n≤12∧s.2=(ZrQ (Zdl l l.length) n).map (fun x=>(1,x))) (fun s=>14 - s.1.toNat) (fun _=>(true,1,(Zcl l).map (fun x=>(1,x)))) ?_ _ ⟨0,rfl,by omega,rfl⟩
   rintro⟨s,o⟩ ⟨n,hs,hn,ho⟩
   dsimp only at hs ho ⊢
   subst hs
   subst ho
   have:=hdl n
   unfold Zh6
   dsimp only
   rcases Xag n 12 with h4|h4
   ·left
    rw[Zd (by omega),Zb ⟨by omega,by omega⟩,show ((n:Int)+1).toNat=n+1 by omega]
    by_cases q:(Zdl l l.length).getD (n+1) 0=0
    ·rw[show ((Zdl l l.length).getD (n+1) 0 != 0)=false by rw[q];rfl,cff,Zf (by omega) (by omega)]
     refine⟨_,rfl,⟨n+1,by simp,by omega,?_⟩,by (try dsimp only)<;>omega,rfl⟩
     conv=>rhs;unfold ZrQ
     rw[if_pos q,Xau]
    ·rw[show ((Zdl l l.length).getD (n+1) 0 != 0)=true by rw[bne_iff_ne];exact q,ctt,Zb ⟨by omega,by omega⟩,Zb (by simp[Zl];omega),Zf (by omega) (by omega)]
     refine⟨_,rfl,⟨n+1,by simp,by omega,?_⟩,by (try dsimp only)<;>omega,rfl⟩
     conv=>rhs;unfold ZrQ
     rw[if_neg q,Xa3]
     rfl
   ·right
    have:n=12:=by omega
    subst this
    rw[Zc (by omega)]
    rfl
  rw[key]
  rfl
end Go.AE.Y
namespace Go.AE.Y
open Go Go.AE
def ZbO (c:List Int):List Int:=c.map (fun x=>0 - x)
end Go.AE.Y
namespace Go.AE.Y
open Go Go.AE
def zS:ZB:=(0,(0,(0,([],0))))
def HS (s:ZB) (k k':Int):Prop:=s.1=k∧s.2.1=k+1∧s.2.2.1=k+1+1∧∃k1,HdL HT s.2.2.2.1 (k+1+1+1) k1∧s.2.2.2.2=k1∧k'=k1+1∧s.2.2.2.1.length≤4000000000
theorem HS.mono (s:ZB) (k k':Int) (h:HS s k k'):k≤k':=by
 obtain⟨_,_,_,k1,h1,_,h2,_⟩:=h
 have:=HdL.mono HT.mono h1
 omega
end Go.AE.Y
namespace Go.AE.Y
open Go Go.AE
def ZbS (l:List Int):List (Int×Int):=l.map (fun x=>(1,x))
theorem ZDl (v:List Bool):∀(l:List Int) (a:Int),(ZbS l).foldl (fun a t=>bif ZT v t.2 then a+t.1 else a) a=a+(l.countP (ZT v):Nat)
 |[],a=>by simp[ZbS]
 |x::l,a=>by
  show (ZbS l).foldl _ (bif ZT v x then a+1 else a)=_
  rw[ZDl v l,List.countP_cons]
  cases ZT v x with
  |true=>rw[ctt,if_pos rfl];omega
  |false=>rw[cff,if_neg (by decide)];omega
theorem ZGx (v:List Bool) (l:List Int):ZR v (ZbS l,1)=l.any (ZT v):=by
 unfold ZR Zcy
 rw[ZDl]
 cases hq:l.any (ZT v)with
 |true=>
  obtain⟨x,h1,h2⟩:=Xbk.1 hq
  have:=List.countP_pos_iff.2 ⟨x,h1,h2⟩
  exact Xad (by (try dsimp only)<;>omega)
 |false=>
  have:l.countP (ZT v)=0:=List.countP_eq_zero.2 (fun x hx=>by have:=XaO.1 hq x hx;exact this)
  rw[this]
  rfl
theorem Zs1 {v:List Bool} {x:Int} (h:x≠0):ZT v (0 - x) = !(ZT v x):=by
 have ev:vof (0 - x)=vof x:=by unfold vof;omega
 unfold ZT
 rw[ev]
 by_cases h1:0<x
 ·rw[Xad h1,decide_eq_false (show ¬0<0 - x by omega)]
  cases v.getD (vof x - 1).toNat false<;>rfl
 ·rw[decide_eq_false h1,Xad (show 0<0 - x by omega)]
  cases v.getD (vof x - 1).toNat false<;>rfl
theorem ZKJ {v:List Bool}:∀{c:List Int},(∀x∈c,x≠0)→(ZbO c).any (ZT v) = !(c.all (ZT v))
 |[],_=>rfl
 |x::c,h=>by
  show (ZT v (0 - x)||(ZbO c).any (ZT v)) = !(ZT v x&&c.all (ZT v))
  rw[ZKJ (fun y hy=>h y (Xaq _ hy)),Zs1 (h x Xav)]
  cases ZT v x<;>rfl
theorem ZKI {l l':List Int} {p:Int→Bool} (h:∀x,x∈l↔x∈l'):l.any p=l'.any p:=by
 rw[Xbp,Xbk,Xbk]
 exact⟨fun ⟨x,h1,h2⟩=>⟨x,(h x).1 h1,h2⟩,fun ⟨x,h1,h2⟩=>⟨x,(h x).2 h1,h2⟩⟩
theorem ZI6 {l:List Int} {i:Nat} (h:i<l.length):(ZbS l).getD i (0,0)=(1,l.getD i 0):=by
 unfold ZbS
 rw[Xaa,Xbo,Xac h,Xaa,Xac h]
 rfl
theorem ZAl {l:List Int} (h1:∀x∈l,Zbe x=true) (h2:l.Pairwise (fun x y=>vof x<vof y)):ZA (ZbS l,1)=true:=by
 unfold ZA
 have hl:(ZbS l).length=l.length:=Xap ..
 simp only[Xaf,Xar]
 refine⟨fun i hi=>?_,rfl,rfl⟩
 have hi':i<l.length:=by rw[←hl];exact Xaz.1 hi
 unfold ZfP
 rw[ZI6 hi']
 simp only[Xaf,XbU,Xah]
 refine⟨h1 _ (ZF hi'),⟨by omega,by omega⟩,?_⟩
 rcases Xag 0 i with q|q
 ·right
  rw[ZI6 (show i - 1<l.length by omega)]
  have:=XaX.1 h2 (i - 1) i (by omega) hi' (by omega)
  rwa [Xaa,Xaa,Xac hi',Xac (show i - 1<l.length by omega)]
 ·left
  exact beq_iff_eq.2 (by omega)
end Go.AE.Y
namespace Go.AE.Y
open Go Go.AE
set_option maxHeartbeats 400000
def Zf8 (g:Nat→Int):Nat→Int
 |0=>0
 |n+1=>Zf8 g n+g n
theorem ZGP (g h:Nat→Int):∀n,Zf8 (fun i=>g i+h i) n=Zf8 g n+Zf8 h n
 |0=>rfl
 |n+1=>by unfold Zf8;rw[ZGP g h n];omega
theorem ZBk (c:Nat) (a:Int):∀n,Zf8 (fun i=>if i=c then a else 0) n=if c<n then a else 0
 |0=>by rw[if_neg (by omega)];rfl
 |n+1=>by
  unfold Zf8
  rw[ZBk c a n]
  by_cases q:c<n
  ·rw[if_pos q,if_neg (by omega),if_pos (by omega)];omega
  ·by_cases q2:n=c
   ·rw[if_neg q,if_pos q2,if_pos (by omega)];omega
   ·rw[if_neg q,if_neg q2,if_neg (by omega)];omega
theorem Zxd {g h:Nat→Int}:∀n,(∀i,i<n→g i=h i)→Zf8 g n=Zf8 h n
 |0,_=>rfl
 |n+1,e=>by unfold Zf8;rw[Zxd n (fun i hi=>e i (by omega)),e n (by omega)]
theorem ZDk {g h:Nat→Int}:∀n,(∀i,i<n→g i≤h i)→Zf8 g n≤Zf8 h n
 |0,_=>Xas _
 |n+1,e=>by
  have:=ZDk n (fun i hi=>e i (by omega))
  have:=e n (by omega)
  unfold Zf8
  omega
theorem ZJy {f:Nat→Int} {n:Nat}:∀l:List Nat,l.Nodup→(∀x∈l,x<n)→(l.map f).sum=Zf8 (fun i=>if i∈l then f i else 0) n
 |[],_,_=>by
  have:Zf8 (fun i=>if i∈([]:List Nat)then f i else 0) n=Zf8 (fun i=>if i=n then 0 else 0) n:=Zxd n (fun i hi=>by rw[if_neg XaE,if_neg (by omega)])
  rw[this,ZBk,if_neg (by omega)]
  rfl
 |c::l,hn,hx=>by
  rw[Xa7]at hn
  have e:Zf8 (fun i=>if i∈c::l then f i else 0) n=Zf8 (fun i=>(if i=c then f c else 0)+(if i∈l then f i else 0)) n:=Zxd n (fun i hi=>by
   by_cases q:i=c
   ·subst q
    rw[if_pos Xav,if_pos rfl,if_neg hn.1];omega
   ·by_cases q2:i∈l
    ·rw[if_pos (Xaq _ q2),if_neg q,if_pos q2];omega
    ·rw[if_neg (fun h=>(XaA.1 h).elim q q2),if_neg q,if_neg q2];omega)
  rw[e,ZGP,ZBk,if_pos (hx c Xav),XaV,XbN,ZJy l hn.2 (fun x h=>hx x (Xaq _ h))]
theorem Zs4 {α β:Type} {f:α→β} {l:List α} (h:∀a∈l,∀b∈l,f a=f b→a=b) (hn:l.Nodup):(l.map f).Nodup:=by
 induction l with
 |nil=>exact List.Pairwise.nil
 |cons a l ih=>
  rw[Xa7]at hn
  rw[XaV,Xa7]
  refine⟨fun hm=>?_,ih (fun x hx y hy=>h x (Xaq _ hx) y (Xaq _ hy)) hn.2⟩
  obtain⟨b,hb,e⟩:=XaG.1 hm
  have:=h b (Xaq _ hb) a Xav e
  rw[this]at hb
  exact hn.1 hb
def ZbL (m:Zp) (i k:Nat):Int:=1+(k:Int)+ZN m i
def trV (m:Zp) (v:List Bool) (i k:Nat):Bool:=v.getD ((k:Int)+ZN m i).toNat false
def Dec (m:Zp) (v:List Bool) (x:List Int):Prop:=ZE m x=true∧∀i,i<m.1.length→∀k:Nat,(k:Int)≤m.1.getD i 0→trV m v i k=decide (x.getD i 0=k)
theorem ZOE {m:Zp} (hm:Zz m=true) {i:Nat} (hi:i≤m.1.length):0≤ZN m i:=by
 have:=(ZgO hm i hi).1
 omega
theorem Zdf {m:Zp} (hm:Zz m=true) {i k:Nat} (hi:i<m.1.length) (hk:(k:Int)≤m.1.getD i 0):1≤ZbL m i k∧ZbL m i k≤ZN m (i+1)∧ZbL m i k≤12∧1+ZN m i≤ZbL m i k:=by
 have h0:=ZOE hm (Nat.le_of_lt hi)
 have h1:=(ZgO hm (i+1) (by omega)).2
 have h2:=Zf2 (m:=m) hi
 unfold ZbL
 omega
theorem ZLf {m:Zp} (hm:Zz m=true) {i k:Nat} (hi:i<m.1.length) (hk:(k:Int)≤m.1.getD i 0):Zbe (ZbL m i k)=true∧vof (ZbL m i k)=ZbL m i k∧Zbe (0 - ZbL m i k)=true∧vof (0 - ZbL m i k)=ZbL m i k:=by
 have h:=Zdf hm hi hk
 refine⟨ZG.2 ⟨by omega,by omega,by omega⟩,by unfold vof;omega,ZG.2 ⟨by omega,by omega,by omega⟩,by unfold vof;omega⟩
theorem ZnM {m:Zp} {v:List Bool} (hm:Zz m=true) {i k:Nat} (hi:i<m.1.length) (hk:(k:Int)≤m.1.getD i 0):ZT v (ZbL m i k)=trV m v i k:=by
 have h:=Zdf hm hi hk
 have hv:=(ZLf hm hi hk).2.1
 unfold ZT trV
 rw[hv,Xad (show 0<ZbL m i k by omega),show (ZbL m i k - 1).toNat=((k:Int)+ZN m i).toNat by unfold ZbL;omega]
 cases v.getD ((k:Int)+ZN m i).toNat false<;>rfl
theorem ZNj {m:Zp} {v:List Bool} (hm:Zz m=true) {i k:Nat} (hi:i<m.1.length) (hk:(k:Int)≤m.1.getD i 0):ZT v (0 - ZbL m i k) = !trV m v i k:=by
 have h:=Zdf hm hi hk
 rw[Zs1 (by omega),ZnM hm hi hk]
theorem ZxY {m:Zp} (hm:Zz m=true) {i k i' k':Nat} (hi:i<m.1.length) (hk:(k:Int)≤m.1.getD i 0) (hi':i'<m.1.length) (hk':(k':Int)≤m.1.getD i' 0) (h:ZbL m i k=ZbL m i' k'):i=i'∧k=k':=by
 have h1:=Zdf hm hi hk
 have h2:=Zdf hm hi' hk'
 have mono:∀a b,a<b→b≤m.1.length→ZN m (a+1)≤ZN m b:=fun a b hab hb=>by
  have:=Zwo hm (a+1) (b - (a+1)) (by omega)
  rwa [show a+1+(b - (a+1))=b by omega]at this
 rcases Nat.lt_trichotomy i i' with q|q|q
 ·have:=mono i i' q (by omega)
  omega
 ·subst q
  unfold ZbL at h
  exact⟨rfl,by omega⟩
 ·have:=mono i' i q (by omega)
  omega
def Zkb (vs:List Int):List (Int×Int)×Int:=(ZbS (ZbO vs),(vs.length:Int) - 1)
def Zj4 (vs:List Int):List (Int×Int)×Int:=(ZbS (Zcl vs),1)
theorem ZGr {v:List Bool}:∀vs:List Int,(∀x∈vs,x≠0)→(ZbO vs).countP (ZT v)+vs.countP (ZT v)=vs.length
 |[],_=>rfl
 |x::vs,h=>by
  have ih:=ZGr (v:=v) vs (fun y hy=>h y (Xaq _ hy))
  have hx:=h x Xav
  show ((0 - x)::ZbO vs).countP (ZT v)+(x::vs).countP (ZT v)=_
  rw[List.countP_cons,List.countP_cons,Zs1 hx,Xak]
  cases ZT v x with
  |true=>simp;omega
  |false=>simp;omega
theorem ZD8 {v:List Bool} {vs:List Int} (h:∀x∈vs,x≠0):ZR v (Zkb vs)=decide (vs.countP (ZT v)≤1):=by
 have h1:=ZGr (v:=v) vs h
 have h2:Zcy v (ZbS (ZbO vs))=((ZbO vs).countP (ZT v):Nat):=by
  unfold Zcy
  rw[ZDl]
  omega
 unfold ZR Zkb
 dsimp only
 rw[h2,decide_eq_decide]
 omega
theorem ZDK {v:List Bool} {vs:List Int} (h:ZcN vs=true):ZR v (Zj4 vs)=vs.any (ZT v):=by
 unfold Zj4
 rw[ZGx,ZKI (Zqn h)]
theorem Zpp {α:Type} {p:α→Bool} {l:List α} (hn:l.Nodup):l.countP p≤1↔∀x∈l,∀y∈l,p x=true→p y=true→x=y:=by
 induction l with
 |nil=>exact⟨fun _ x hx=>absurd hx XaE,fun _=>Nat.zero_le _⟩
 |cons a l ih=>
  rw[Xa7]at hn
  rw[List.countP_cons]
  constructor
  ·intro h x hx y hy px py
   by_cases pa:p a=true
   ·rw[if_pos pa]at h
    have hz:l.countP p=0:=by omega
    have hno:=List.countP_eq_zero.1 hz
    rcases XaA.1 hx with rfl|hx
    ·rcases XaA.1 hy with rfl|hy
     ·rfl
     ·exact absurd py (hno y hy)
    ·exact absurd px (hno x hx)
   ·rw[if_neg pa]at h
    rcases XaA.1 hx with rfl|hx
    ·exact absurd px pa
    ·rcases XaA.1 hy with rfl|hy
     ·exact absurd py pa
     ·exact(ih hn.2).1 (by omega) x hx y hy px py
  ·intro h
   by_cases pa:p a=true
   ·rw[if_pos pa]
    have:l.countP p=0:=List.countP_eq_zero.2 (fun y hy py=>by
     have:=h a Xav y (Xaq _ hy) pa py
     rw[this]at hn
     exact hn.1 hy)
    omega
   ·rw[if_neg pa]
    have:=(ih hn.2).2 (fun x hx y hy=>h x (Xaq _ hx) y (Xaq _ hy))
    omega
def Zd8 (m:Zp) (i:Nat):Nat:=(m.1.getD i 0+1).toNat
def ZdB (m:Zp) (i:Nat):List Int:=(List.range (Zd8 m i)).map (ZbL m i)
def Zn8 (m:Zp) (i:Nat):List (List (Int×Int)×Int):=[Zj4 (ZdB m i),Zkb (ZdB m i)]
theorem ZfK {m:Zp} (hm:Zz m=true) {i k:Nat} (hi:i<m.1.length):k<Zd8 m i↔(k:Int)≤m.1.getD i 0:=by
 have:=ZeR hm hi
 unfold Zd8
 omega
theorem Zy9 {m:Zp} (hm:Zz m=true) {i:Nat} (hi:i<m.1.length):ZcN (ZdB m i)=true∧(ZdB m i).Nodup∧(∀x∈ZdB m i,x≠0)∧1≤(ZdB m i).length∧(ZdB m i).length≤4:=by
 have hs:=ZeR hm hi
 have hroom:∀x∈ZdB m i,1≤x∧x≤12:=fun x hx=>by
  obtain⟨k,hk,rfl⟩:=XaG.1 hx
  have:=Zdf hm hi ((ZfK hm hi).1 (Xaz.1 hk))
  omega
 refine⟨?_,?_,fun x hx=>by have:=hroom x hx;omega,?_,?_⟩
 ·unfold ZcN
  rw[Xaf,Xar,Xar]
  refine⟨fun x hx=>ZG.2 (by have:=hroom x hx;omega),fun x hx=>?_⟩
  rw[XaY,XaO]
  intro y hy e
  have:=hroom x hx
  have:=hroom y hy
  have:=beq_iff_eq.1 e
  omega
 ·unfold ZdB
  refine Zs4 (fun a _ b _ e=>?_) List.nodup_range
  unfold ZbL at e
  omega
 ·unfold ZdB Zd8
  rw[Xap,XaK]
  omega
 ·unfold ZdB Zd8
  rw[Xap,XaK]
  omega
theorem ZIe {m:Zp} {v:List Bool} (hm:Zz m=true) {i:Nat} (hi:i<m.1.length):(∀c∈Zn8 m i,ZR v c=true)↔∃k:Nat,(k:Int)≤m.1.getD i 0∧∀k':Nat,(k':Int)≤m.1.getD i 0→trV m v i k'=decide (k'=k):=by
 obtain⟨v1,v2,v3,_⟩:=Zy9 hm hi
 have hmem:∀k:Nat,(k:Int)≤m.1.getD i 0→ZbL m i k∈ZdB m i:=fun k hk=>XaG.2 ⟨k,Xaz.2 ((ZfK hm hi).2 hk),rfl⟩
 have hcl:ZR v (Zj4 (ZdB m i))=(ZdB m i).any (ZT v):=ZDK v1
 have hmo:ZR v (Zkb (ZdB m i))=decide ((ZdB m i).countP (ZT v)≤1):=ZD8 v3
 constructor
 ·intro h
  have h1:=h _ Xav
  have h2:=h _ (Xaq _ Xav)
  rw[hcl,Xbk]at h1
  rw[hmo,Xah,Zpp v2]at h2
  obtain⟨x,hx,px⟩:=h1
  obtain⟨k,hk,rfl⟩:=XaG.1 hx
  have hk:=(ZfK hm hi).1 (Xaz.1 hk)
  refine⟨k,hk,fun k' hk'=>?_⟩
  by_cases e:k'=k
  ·subst e
   rw[Xad rfl,←ZnM hm hi hk]
   exact px
  ·rw[decide_eq_false e,←ZnM hm hi hk']
   cases q:ZT v (ZbL m i k')with
   |false=>rfl
   |true=>
    have:=h2 _ (hmem k' hk') _ (hmem k hk) q px
    exact absurd (ZxY hm hi hk' hi hk this).2 e
 ·rintro⟨k,hk,h⟩ c hc
  have hk1:ZT v (ZbL m i k)=true:=by rw[ZnM hm hi hk,h k hk,Xad rfl]
  rcases XaA.1 hc with rfl|hc
  ·rw[hcl,Xbk]
   exact⟨_,hmem k hk,hk1⟩
  ·rw[Xaj]at hc
   subst hc
   rw[hmo,Xah,Zpp v2]
   intro x hx y hy px py
   obtain⟨a,ha,rfl⟩:=XaG.1 hx
   obtain⟨b,hb,rfl⟩:=XaG.1 hy
   have ha:=(ZfK hm hi).1 (Xaz.1 ha)
   have hb:=(ZfK hm hi).1 (Xaz.1 hb)
   rw[ZnM hm hi ha,h a ha,Xah]at px
   rw[ZnM hm hi hb,h b hb,Xah]at py
   rw[px,py]
theorem ZM2 {m:Zp} {v:List Bool} {x:List Int} (hm:Zz m=true) (h:Dec m v x):∀i,i<m.1.length→∀c∈Zn8 m i,ZR v c=true:=fun i hi=>by
 obtain⟨h1,h2⟩:=h
 obtain⟨x1,x2⟩:=Zcp h1
 have hx:=x2 i (by omega)
 refine(ZIe hm hi).2 ⟨(x.getD i 0).toNat,by omega,fun k' hk'=>?_⟩
 rw[h2 i hi k' hk',decide_eq_decide]
 omega
theorem ZMX {m:Zp} {v:List Bool} (hm:Zz m=true) (h:∀i,i<m.1.length→∀c∈Zn8 m i,ZR v c=true):∃x,Dec m v x:=by
 have hk:∀i,i<m.1.length→∃k:Nat,(k:Int)≤m.1.getD i 0∧∀k':Nat,(k':Int)≤m.1.getD i 0→trV m v i k'=decide (k'=k):=fun i hi=>(ZIe hm hi).1 (h i hi)
 let g:Nat→Nat:=fun i=>if hi:i<m.1.length then Classical.choose (hk i hi)else 0
 have hg:∀i,i<m.1.length→(g i:Int)≤m.1.getD i 0∧∀k':Nat,(k':Int)≤m.1.getD i 0→trV m v i k'=decide (k'=g i):=fun i hi=>by
  have e:g i=Classical.choose (hk i hi):=dif_pos hi
  rw[e]
  exact Classical.choose_spec (hk i hi)
 refine⟨(List.range m.1.length).map (fun i=>(g i:Int)),?_,fun i hi k hk'=>?_⟩
 ·unfold ZE cellAt
  simp only[Xaf,Xah,Xap,XaK,Xar,Xaz,true_and]
  intro i hi
  rw[ZnE (d:=0) (h:=by rw[XaK];exact hi)]
  have e:(List.range m.1.length).getD i 0=i:=by rw[Xaa,List.getElem?_range hi];rfl
  rw[e]
  exact⟨by omega,(hg i hi).1⟩
 ·rw[(hg i hi).2 k hk',ZnE (d:=0) (h:=by rw[XaK];exact hi)]
  have e:(List.range m.1.length).getD i 0=i:=by rw[Xaa,List.getElem?_range hi];rfl
  rw[e,decide_eq_decide]
  omega
theorem ZPy {m:Zp} {x:List Int} (hm:Zz m=true) (hx:ZE m x=true):Dec m (Ztn m x x.length) x:=by
 obtain⟨x1,x2⟩:=Zcp hx
 refine⟨hx,fun i hi k hk=>?_⟩
 unfold trV
 exact ZIn hm hx x.length (Nat.le_refl _) i (by omega) k hk
end Go.AE.Y
namespace Go.AE.Y
open Go Go.AE
abbrev Zx:=List (List (Int×Int)×Int)
def OkP (p:List Int):Prop:=p.length=12∧∀j,p.getD j 0=0∨p.getD j 0=1∨p.getD j 0 = -1
def agP (p:List Int) (v:List Bool):Prop:=∀j,p.getD j 0≠0→v.getD j false=decide (0<p.getD j 0)
def unZ (l:Int) (p:List Int):Int:=if l<0 then 0 - p.getD (0 - l - 1).toNat 0 else p.getD (l - 1).toNat 0
def ZeC (L:Zx) (v:List Bool):Prop:=∀c∈L,ZR v c=true
def Zb1 (L:Zx):Prop:=∀c∈L,ZA c=true∧c.1.length≤1048576
theorem Ztp {l:Int} {p:List Int} (hl:Zbe l=true) (hp:OkP p):Zq0 l p=some (unZ l p):=by
 have h:=ZG.1 hl
 obtain⟨h12,hv⟩:=hp
 unfold Zq0 unZ
 by_cases q:l<0
 ·have:=hv (0 - l - 1).toNat
  rw[Zd q,if_pos q,Zf (by omega) (by omega),Zf (by omega) (by omega),Zb ⟨by omega,by omega⟩,Zf (by omega) (by omega)]
 ·rw[Zc q,if_neg q,Zf (by omega) (by omega),Zb ⟨by omega,by omega⟩]
theorem ZLd {l:Int} {p:List Int} {v:List Bool} (hl:Zbe l=true) (hp:OkP p) (ha:agP p v):(unZ l p<0→ZT v l=false)∧(0<unZ l p→ZT v l=true):=by
 have h:=ZG.1 hl
 unfold unZ ZT
 by_cases q:l<0
 ·rw[if_pos q,show vof l=0 - l by unfold vof;omega,decide_eq_false (show ¬0<l by omega)]
  have h1:=ha (0 - l - 1).toNat
  have h2:=hp.2 (0 - l - 1).toNat
  constructor
  ·intro h3
   rw[h1 (by omega),Xad (by omega)]
   rfl
  ·intro h3
   rw[h1 (by omega),decide_eq_false (by omega)]
   rfl
 ·rw[if_neg q,show vof l=l by unfold vof;omega,Xad (show 0<l by omega)]
  have h1:=ha (l - 1).toNat
  constructor
  ·intro h3
   rw[h1 (by omega),decide_eq_false (by omega)]
   rfl
  ·intro h3
   rw[h1 (by omega),Xad (by omega)]
   rfl
def ZdJ (c:List (Int×Int)) (p:List Int):Nat→Int
 |0=>0
 |n+1=>ZdJ c p n+(if 0≤unZ (c.getD n (0,0)).2 p then(c.getD n (0,0)).1 else 0)
def ZrW (c:List (Int×Int)) (v:List Bool):Nat→Int
 |0=>0
 |n+1=>ZrW c v n+(if ZT v (c.getD n (0,0)).2=true then(c.getD n (0,0)).1 else 0)
theorem ZLc (c:List (Int×Int)) (v:List Bool):∀n,n≤c.length→Zcy v (c.take n)=ZrW c v n
 |0,_=>rfl
 |n+1,h=>by
  have ih:=ZLc c v n (by omega)
  unfold Zcy at ih ⊢
  rw[Xbg,Xac (show n<c.length by omega),Xba,ih]
  have e2:ZrW c v (n+1)=ZrW c v n+(if ZT v (c.getD n (0,0)).2=true then(c.getD n (0,0)).1 else 0):=rfl
  have e:c.getD n (0,0)=c[n]:=by rw[Xaa,Xac (show n<c.length by omega)];rfl
  rw[e2,e]
  show (bif ZT v c[n].2 then ZrW c v n+c[n].1 else ZrW c v n)=_
  cases ZT v c[n].2 with
  |true=>rw[ctt,if_pos rfl]
  |false=>rw[cff,if_neg (by decide)];omega
theorem Zdp {c:List (Int×Int)×Int} (h:ZA c=true):(0≤c.2∧c.2≤20000)∧∀i,i<c.1.length→Zbe (c.1.getD i (0,0)).2=true∧1≤(c.1.getD i (0,0)).1∧(c.1.getD i (0,0)).1≤1000:=by
 have h2:=ZMe h
 unfold ZA at h
 simp only[Xaf,Xah]at h
 exact⟨h.2,fun i hi=>⟨ZG.2 (h2 i hi).1,(h2 i hi).2⟩⟩
theorem Zy0 {c:List (Int×Int)×Int} (h:ZA c=true) (p:List Int):∀n:Nat,n≤c.1.length→0≤ZdJ c.1 p n∧ZdJ c.1 p n≤1000*n
 |0,_=>⟨Xas _,Xas _⟩
 |n+1,hn=>by
  have ih:=Zy0 h p n (by omega)
  have:=(Zdp h).2 n (by omega)
  unfold ZdJ
  split<;>omega
theorem Zmj {c:List (Int×Int)×Int} {p:List Int} (hc:ZA c=true) (hl:c.1.length≤1048576) (hp:OkP p):ZeO c p=some (ZdJ c.1 p c.1.length - c.2):=by
 obtain⟨c1,c2⟩:=Zdp hc
 unfold ZeO
 rw[Zf (by omega) (by omega)]
 refine ZL (f:=Ze7 c p) (fun s:Int×Int=>∃n:Nat,s.2=n∧n≤c.1.length∧s.1=ZdJ c.1 p n - c.2) (fun s=>c.1.length - s.2.toNat) (fun _=>ZdJ c.1 p c.1.length - c.2) ?_ _ ⟨0,rfl,Nat.zero_le _,by show 0 - c.2=0 - c.2;rfl⟩
 rintro⟨o,s⟩ ⟨n,hs,hn,ho⟩
 dsimp only at hs ho ⊢
 subst hs
 subst ho
 have hb:=Zy0 hc p n hn
 unfold Ze7
 dsimp only
 rcases Xag n c.1.length with h1|h1
 ·left
  obtain⟨l1,l2,l3⟩:=c2 n h1
  rw[Zd (by omega),Zb ⟨by omega,by omega⟩,Xab,Ztp l1 hp,Ze]
  by_cases q:0≤unZ (c.1.getD n (0,0)).2 p
  ·rw[Zd q,Zf (by omega) (by omega),Zf (by omega) (by omega)]
   refine⟨_,rfl,⟨n+1,by simp,by omega,?_⟩,by (try dsimp only)<;>omega,rfl⟩
   dsimp only
   conv=>rhs;unfold ZdJ
   rw[if_pos q]
   omega
  ·rw[Zc q,Zf (by omega) (by omega)]
   refine⟨_,rfl,⟨n+1,by simp,by omega,?_⟩,by (try dsimp only)<;>omega,rfl⟩
   dsimp only
   conv=>rhs;unfold ZdJ
   rw[if_neg q]
   omega
 ·right
  have:n=c.1.length:=by omega
  rw[Zc (by omega),this]
theorem ZBK {c:List (Int×Int)×Int} {p:List Int} {v:List Bool} (hc:ZA c=true) (hp:OkP p) (ha:agP p v):∀n,n≤c.1.length→ZrW c.1 v n≤ZdJ c.1 p n∧∀i,i<n→0≤unZ (c.1.getD i (0,0)).2 p→ZT v (c.1.getD i (0,0)).2=false→ZrW c.1 v n+(c.1.getD i (0,0)).1≤ZdJ c.1 p n
 |0,_=>⟨Xas _,fun i hi=>by omega⟩
 |n+1,hn=>by
  obtain⟨i1,i2⟩:=ZBK hc hp ha n (by omega)
  obtain⟨l1,l2,l3⟩:=(Zdp hc).2 n (by omega)
  obtain⟨u1,u2⟩:=ZLd l1 hp ha
  have e1:ZdJ c.1 p (n+1)=ZdJ c.1 p n+(if 0≤unZ (c.1.getD n (0,0)).2 p then(c.1.getD n (0,0)).1 else 0):=rfl
  have e2:ZrW c.1 v (n+1)=ZrW c.1 v n+(if ZT v (c.1.getD n (0,0)).2=true then(c.1.getD n (0,0)).1 else 0):=rfl
  have hle:(if ZT v (c.1.getD n (0,0)).2=true then(c.1.getD n (0,0)).1 else 0)≤(if 0≤unZ (c.1.getD n (0,0)).2 p then(c.1.getD n (0,0)).1 else 0):=by
   by_cases q:0≤unZ (c.1.getD n (0,0)).2 p
   ·rw[if_pos q]
    split<;>omega
   ·rw[if_neg q,u1 (by omega),if_neg (by decide)]
    omega
  refine⟨by omega,fun i hi h1 h2=>?_⟩
  rcases Xag i n with h3|h3
  ·have:=i2 i h3 h1 h2
   omega
  ·have:i=n:=by omega
   subst this
   rw[e1,e2,if_pos h1,h2,if_neg (by decide)]
   omega
theorem Zwt (v:List Bool) (c:List (Int×Int)×Int):ZR v c=true↔c.2≤ZrW c.1 v c.1.length:=by
 unfold ZR
 rw[Xah,←ZLc c.1 v c.1.length (Nat.le_refl _),XaB]
theorem ZBe {c:List (Int×Int)×Int} {p:List Int} {v:List Bool} (hc:ZA c=true) (hp:OkP p) (ha:agP p v) (h:ZdJ c.1 p c.1.length - c.2<0):¬ZR v c=true:=by
 rw[Zwt]
 have:=(ZBK hc hp ha c.1.length (Nat.le_refl _)).1
 omega
theorem ZND {c:List (Int×Int)×Int} {p:List Int} {v:List Bool} (hc:ZA c=true) (hp:OkP p) (ha:agP p v) (ht:∀j,j<12→p.getD j 0≠0) (h:0≤ZdJ c.1 p c.1.length - c.2):ZR v c=true:=by
 rw[Zwt]
 have key:∀n,n≤c.1.length→ZrW c.1 v n=ZdJ c.1 p n:=by
  intro n
  induction n with
  |zero=>intro _;rfl
  |succ n ih=>
   intro hn
   obtain⟨l1,l2,l3⟩:=(Zdp hc).2 n (by omega)
   obtain⟨u1,u2⟩:=ZLd l1 hp ha
   have hl:=ZG.1 l1
   have hne:unZ (c.1.getD n (0,0)).2 p≠0:=by
    unfold unZ
    split
    ·have:=ht (0 - (c.1.getD n (0,0)).2 - 1).toNat (by omega)
     omega
    ·exact ht _ (by omega)
   unfold ZrW ZdJ
   rw[ih (by omega)]
   by_cases q:0≤unZ (c.1.getD n (0,0)).2 p
   ·rw[if_pos q,u2 (by omega),if_pos rfl]
   ·rw[if_neg q,u1 (by omega),if_neg (by decide)]
 rw[key _ (Nat.le_refl _)]
 omega
theorem Zwy {c:List (Int×Int)×Int} {p:List Int} (hc:ZA c=true) (hl:c.1.length≤1048576) (hp:OkP p):∃o,Zds c p=some o∧o.length≤1048576∧∀l∈o,Zbe l=true∧unZ l p=0∧∀v,agP p v→ZR v c=true→ZT v l=true:=by
 obtain⟨c1,c2⟩:=Zdp hc
 unfold Zds
 rw[Zmj hc hl hp,Ze]
 refine ZbX (f:=ZdH c p (ZdJ c.1 p c.1.length - c.2)) (fun s:Int×List Int=>∃n:Nat,s.1=n∧n≤c.1.length∧s.2.length≤n∧∀l∈s.2,Zbe l=true∧unZ l p=0∧∀v,agP p v→ZR v c=true→ZT v l=true) (fun s=>c.1.length - s.1.toNat) (fun o=>o.length≤1048576∧∀l∈o,Zbe l=true∧unZ l p=0∧∀v,agP p v→ZR v c=true→ZT v l=true) ?_ _ ⟨0,rfl,Nat.zero_le _,Nat.le_refl _,fun l h=>absurd h XaE⟩
 rintro⟨s,o⟩ ⟨n,hs,hn,ho,hall⟩
 dsimp only at hs ho hall ⊢
 subst hs
 unfold ZdH
 dsimp only
 rcases Xag n c.1.length with h1|h1
 ·left
  obtain⟨l1,l2,l3⟩:=c2 n h1
  rw[Zd (by omega),Zb ⟨by omega,by omega⟩,Xab,Ztp l1 hp,Ze]
  by_cases q:unZ (c.1.getD n (0,0)).2 p=0
  ·rw[Zu q]
   by_cases q2:ZdJ c.1 p c.1.length - c.2<(c.1.getD n (0,0)).1
   ·rw[Zd q2,Zb (by simp[Zl];omega),Zf (by omega) (by omega)]
    refine⟨_,rfl,⟨n+1,by simp,by omega,by simp;omega,fun l h=>?_⟩,by (try dsimp only)<;>omega⟩
    rcases List.mem_append.1 h with h|h
    ·exact hall l h
    ·rw[Xaj]at h
     subst h
     refine⟨l1,q,fun v ha he=>?_⟩
     cases hb:ZT v (c.1.getD n (0,0)).2 with
     |true=>rfl
     |false=>
      have:=(ZBK hc hp ha c.1.length (Nat.le_refl _)).2 n h1 (by omega) hb
      have:=(Zwt v c).1 he
      omega
   ·rw[Zc q2,Zf (by omega) (by omega)]
    exact⟨_,rfl,⟨n+1,by simp,by omega,by (try dsimp only)<;>omega,hall⟩,by (try dsimp only)<;>omega⟩
  ·rw[Zo q,Zf (by omega) (by omega)]
   exact⟨_,rfl,⟨n+1,by simp,by omega,by (try dsimp only)<;>omega,hall⟩,by (try dsimp only)<;>omega⟩
 ·right
  rw[Zc (by omega)]
  exact⟨_,rfl,by omega,hall⟩
def ZeD (l:Int) (p:List Int):List Int:=if 0<l then p.set (l - 1).toNat 1 else p.set (0 - l - 1).toNat (-1)
def zcN (p:List Int):Nat→Nat
 |0=>0
 |n+1=>zcN p n+(if p.getD n 0=0 then 1 else 0)
theorem ZGl {p:List Int} {j:Nat} {x:Int} (hj:j<p.length) (hx:x≠0):∀n,zcN (p.set j x) n+(if j<n∧p.getD j 0=0 then 1 else 0)=zcN p n
 |0=>by simp[zcN]
 |n+1=>by
  have ih:=ZGl hj hx n
  have e1:zcN (p.set j x) (n+1)=zcN (p.set j x) n+(if (p.set j x).getD n 0=0 then 1 else 0):=rfl
  have e2:zcN p (n+1)=zcN p n+(if p.getD n 0=0 then 1 else 0):=rfl
  rw[e1,e2]
  by_cases q:j=n
  ·subst q
   have hA:(if (p.set j x).getD j 0=0 then 1 else 0)=0:=if_neg (by rw[ZbE hj];exact hx)
   have hB:(if j<j∧p.getD j 0=0 then 1 else 0)=0:=if_neg (fun h=>absurd h.1 (by omega))
   rw[hB]at ih
   by_cases q2:p.getD j 0=0
   ·have hC:(if j<j+1∧p.getD j 0=0 then 1 else 0)=1:=if_pos ⟨by omega,q2⟩
    rw[hA,hC,if_pos q2]
    omega
   ·have hC:(if j<j+1∧p.getD j 0=0 then 1 else 0)=0:=if_neg (fun h=>q2 h.2)
    rw[hA,hC,if_neg q2]
    omega
  ·rw[ZO q]
   by_cases q2:j<n∧p.getD j 0=0
   ·have hC:(if j<n+1∧p.getD j 0=0 then 1 else 0)=1:=if_pos ⟨by omega,q2.2⟩
    rw[if_pos q2]at ih
    rw[hC]
    omega
   ·have hC:(if j<n+1∧p.getD j 0=0 then 1 else 0)=0:=if_neg (fun h=>q2 ⟨by omega,h.2⟩)
    rw[if_neg q2]at ih
    rw[hC]
    omega
theorem ZFz {l:Int} {p:List Int} (hl:Zbe l=true) (hp:OkP p):OkP (ZeD l p)∧(∀v,agP p v→ZT v l=true→agP (ZeD l p) v)∧zcN (ZeD l p) 12≤zcN p 12∧(unZ l p=0→zcN (ZeD l p) 12+1=zcN p 12)∧(∀j,(ZeD l p).getD j 0=0→p.getD j 0=0)∧∀j,(ZeD l p).getD j 0=if (j:Int)+1=vof l then(if 0<l then 1 else -1)else p.getD j 0:=by
 have h:=ZG.1 hl
 obtain⟨h12,hv⟩:=hp
 unfold ZeD unZ
 by_cases q:0<l
 ·rw[if_pos q,if_neg (show ¬l<0 by omega)]
  have hj:(l - 1).toNat<p.length:=by omega
  have hz:=ZGl (p:=p) (x:=1) hj (by decide) 12
  have hg:∀j,(p.set (l - 1).toNat 1).getD j 0=if (j:Int)+1=vof l then 1 else p.getD j 0:=fun j=>by
   have:vof l=l:=by unfold vof;omega
   rw[this]
   by_cases e:(l - 1).toNat=j
   ·rw[←e,ZbE hj,if_pos (by omega)]
   ·rw[ZO e,if_neg (by omega)]
  refine⟨⟨by rw[Xam];exact h12,fun j=>?_⟩,fun v ha hb j hne=>?_,?_,fun h0=>?_,fun j h0=>?_,fun j=>by rw[if_pos q];exact hg j⟩
  ·rw[hg]
   split
   ·exact Or.inr (Or.inl rfl)
   ·exact hv j
  ·rw[hg]at hne ⊢
   split
   ·rename_i e
    rw[if_pos e]at hne
    unfold ZT at hb
    rw[beq_iff_eq,Xad q,show (vof l - 1).toNat=j by omega]at hb
    rw[hb]
    rfl
   ·rename_i e
    rw[if_neg e]at hne
    exact ha j hne
  ·split at hz<;>omega
  ·rw[if_pos ⟨by omega,h0⟩]at hz
   exact hz
  ·rw[hg]at h0
   split at h0
   ·omega
   ·exact h0
 ·rw[if_neg q,if_pos (show l<0 by omega)]
  have hj:(0 - l - 1).toNat<p.length:=by omega
  have hz:=ZGl (p:=p) (x:=-1) hj (by decide) 12
  have hg:∀j,(p.set (0 - l - 1).toNat (-1)).getD j 0=if (j:Int)+1=vof l then -1 else p.getD j 0:=fun j=>by
   have:vof l=0 - l:=by unfold vof;omega
   rw[this]
   by_cases e:(0 - l - 1).toNat=j
   ·rw[←e,ZbE hj,if_pos (by omega)]
   ·rw[ZO e,if_neg (by omega)]
  refine⟨⟨by rw[Xam];exact h12,fun j=>?_⟩,fun v ha hb j hne=>?_,?_,fun h0=>?_,fun j h0=>?_,fun j=>by rw[if_neg q];exact hg j⟩
  ·rw[hg]
   split
   ·exact Or.inr (Or.inr rfl)
   ·exact hv j
  ·rw[hg]at hne ⊢
   split
   ·rename_i e
    rw[if_pos e]at hne
    unfold ZT at hb
    rw[beq_iff_eq,decide_eq_false q,show (vof l - 1).toNat=j by omega]at hb
    rw[hb]
    rfl
   ·rename_i e
    rw[if_neg e]at hne
    exact ha j hne
  ·split at hz<;>omega
  ·rw[if_pos ⟨by omega,by omega⟩]at hz
   exact hz
  ·rw[hg]at h0
   split at h0
   ·omega
   ·exact h0
end Go.AE.Y
namespace Go.AE.Y
open Go Go.AE
set_option maxHeartbeats 400000
abbrev Z9:=List (Int×Int)×Int
def Zvk (c:Z9):ZoC:=(true,c.2,c.1)
def noC:ZoC:=(false,0,[])
def Ztu (c:Z9) (k:Int):Z9:=(c.1.map (fun t=>(t.1*k,t.2)),c.2*k)
def upI (n k:Int):Int:=(n+k - 1) / k
def Zu4 (c:Z9) (k:Int):Z9:=(c.1.map (fun t=>(upI t.1 k,t.2)),upI c.2 k)
def Zvr (c:Z9):Z9:=(if 0<c.2 then c.1.map (fun t=>(min t.1 c.2,t.2))else[],c.2)
def Zgy (c:List (Int×Int)) (x:Int):Int:=((c.filter (fun t=>decide (vof t.2=x))).map (fun t=>t.1)).sum
def ZBL (c:Z9) (x:Int):Z9:=(c.1.filter (fun t=>!decide (vof t.2=x)),max 0 (c.2 - Zgy c.1 x))
def ZuW (a b:Z9):ZoC:=bif ZA a&&ZA b then Zcw (Zcx (a.1++b.1) (a.2+b.2)).2 (Zcx (a.1++b.1) (a.2+b.2)).1 else noC
def Zfm (c:Z9):ZoC:=bif ZA c then Zvk c else noC
def Zvg (c:Z9) (k:Int):ZoC:=bif ZA c&&(decide (1≤k)&&decide (k≤1000))then Zfm (Ztu c k)else noC
def Zu3 (c:Z9) (k:Int):ZoC:=bif ZA c&&(decide (1≤k)&&decide (k≤1000))then Zfm (Zu4 c k)else noC
def ZA8 (c:Z9):ZoC:=bif ZA c then Zvk (Zvr c)else noC
def ZwN (c:Z9) (x:Int):ZoC:=bif ZA c&&(decide (1≤x)&&decide (x≤12))then Zvk (ZBL c x)else noC
def axB (l:Int):ZoC:=bif Zbe l then Zvk ([(1,l)],0)else noC
def ofR (r:ZoC):Z9:=(r.2.2,r.2.1)
theorem Zqi {c:Z9} (h:ZA c=true):∀t∈c.1,okS t∧1≤t.1:=fun t ht=>by
 obtain⟨i,hi,rfl⟩:=Xat.1 ht
 obtain⟨l1,l2,l3⟩:=(Zdp h).2 i hi
 have e:c.1.getD i (0,0)=c.1[i]:=by rw[Xaa,Xac hi];rfl
 rw[e]at l1 l2 l3
 exact⟨⟨⟨by omega,l3⟩,l1⟩,l2⟩
theorem ZEe {a b:Z9} (ha:ZA a=true) (hb:ZA b=true):∀t∈a.1++b.1,okS t:=fun t ht=>by
 rcases List.mem_append.1 ht with h|h
 ·exact(Zqi ha t h).1
 ·exact(Zqi hb t h).1
theorem ZyR {net:List Int} {b:Int} (h:(Zcw net b).1=true):ofR (Zcw net b)=(Zb0 net 12,max 0 (Z4 net b 12))∧ZA (ofR (Zcw net b))=true:=by
 unfold Zcw at h ⊢
 cases q:ZA (Zb0 net 12,max 0 (Z4 net b 12))with
 |true=>rw[ctt];exact⟨rfl,q⟩
 |false=>rw[q,cff]at h;cases h
theorem ZGT {c:Z9} (h:(Zfm c).1=true):ofR (Zfm c)=c∧ZA (ofR (Zfm c))=true:=by
 unfold Zfm at h ⊢
 cases q:ZA c with
 |true=>rw[ctt];exact⟨rfl,q⟩
 |false=>rw[q,cff]at h;cases h
theorem ZeV (v:List Bool) (t:Int×Int) (l:List (Int×Int)):Zcy v (t::l)=(bif ZT v t.2 then t.1 else 0)+Zcy v l:=by
 have:=ZrV v [t] l
 rw[Zy4]at this
 exact this
theorem Zy3 (v:List Bool):Zcy v []=0:=rfl
theorem ZpP {v:List Bool} {c:Z9}:ZR v c=true↔c.2≤Zcy v c.1:=decide_eq_true_iff
theorem Zxc {v:List Bool}:∀{l:List (Int×Int)},(∀t∈l,1≤t.1)→0≤Zcy v l
 |[],_=>Xas _
 |t::l,h=>by
  rw[ZeV]
  have:=Zxc (v:=v) (l:=l) (fun x hx=>h x (Xaq _ hx))
  have:=h t Xav
  cases ZT v t.2 with
  |true=>rw[ctt];omega
  |false=>rw[cff];omega
theorem ZNo {c:Z9} {k:Int} {v:List Bool} (hk:1≤k) (h:ZR v c=true):ZR v (Ztu c k)=true:=by
 rw[ZpP]at h ⊢
 have e:∀l:List (Int×Int),Zcy v (l.map (fun t=>(t.1*k,t.2)))=Zcy v l*k:=by
  intro l
  induction l with
  |nil=>rw[List.map_nil,Zy3,Int.zero_mul]
  |cons t l ih=>
   rw[XaV,ZeV,ZeV,ih,Int.add_mul]
   cases ZT v t.2 with
   |true=>rw[ctt,ctt]
   |false=>rw[cff,cff,Int.zero_mul]
 show c.2*k≤Zcy v (c.1.map (fun t=>(t.1*k,t.2)))
 rw[e]
 exact Int.mul_le_mul_of_nonneg_right h (by omega)
theorem ZNN {n m k:Int} (hk:1≤k) (h:n≤m*k):upI n k≤m:=by
 unfold upI
 have:(n+k - 1) / k<m+1:=Int.ediv_lt_of_lt_mul (by omega) (by rw[Int.add_mul];omega)
 omega
theorem ZNg {n k:Int} (hk:1≤k):n≤upI n k*k:=by
 unfold upI
 have h1:=Int.emod_add_mul_ediv (n+k - 1) k
 have h2:=XbH (n+k - 1) (show 0<k by omega)
 rw[Int.mul_comm]at h1
 omega
theorem ZM5 {c:Z9} {k:Int} {v:List Bool} (hk:1≤k) (h:ZR v c=true):ZR v (Zu4 c k)=true:=by
 rw[ZpP]at h ⊢
 have e:∀l:List (Int×Int),Zcy v l≤Zcy v (l.map (fun t=>(upI t.1 k,t.2)))*k:=by
  intro l
  induction l with
  |nil=>rw[List.map_nil,Zy3,Int.zero_mul];exact Xas _
  |cons t l ih=>
   rw[XaV,ZeV,ZeV,Int.add_mul]
   have:=ZNg (n:=t.1) hk
   dsimp only
   cases ZT v t.2 with
   |true=>rw[ctt,ctt];omega
   |false=>rw[cff,cff,Int.zero_mul];omega
 have h2:=e c.1
 show upI c.2 k≤Zcy v (c.1.map (fun t=>(upI t.1 k,t.2)))
 exact ZNN hk (by omega)
theorem ZK9 {v:List Bool} {b:Int} (hb:0<b):∀l:List (Int×Int),(∀t∈l,1≤t.1)→min b (Zcy v l)≤Zcy v (l.map (fun t=>(min t.1 b,t.2)))
 |[],_=>by rw[List.map_nil,Zy3];omega
 |t::l,h=>by
  have ih:=ZK9 (v:=v) hb l (fun x hx=>h x (Xaq _ hx))
  have hp:=Zxc (v:=v) (l:=l) (fun x hx=>h x (Xaq _ hx))
  have:=h t Xav
  rw[XaV,ZeV,ZeV]
  dsimp only
  cases ZT v t.2 with
  |true=>rw[ctt,ctt];omega
  |false=>rw[cff,cff];omega
theorem ZNz {c:Z9} {v:List Bool} (hc:ZA c=true) (h:ZR v c=true):ZR v (Zvr c)=true:=by
 rw[ZpP]at h ⊢
 unfold Zvr
 dsimp only
 by_cases q:0<c.2
 ·rw[if_pos q]
  have:=ZK9 (v:=v) q c.1 (fun t ht=>(Zqi hc t ht).2)
  omega
 ·rw[if_neg q,Zy3]
  omega
theorem ZJE {v:List Bool} {x:Int}:∀l:List (Int×Int),(∀t∈l,1≤t.1)→Zcy v l≤Zcy v (l.filter (fun t=>!decide (vof t.2=x)))+Zgy l x∧0≤Zcy v (l.filter (fun t=>!decide (vof t.2=x)))
 |[],_=>by unfold Zgy;exact⟨Xas _,Xas _⟩
 |t::l,h=>by
  obtain⟨i1,i2⟩:=ZJE (v:=v) (x:=x) l (fun y hy=>h y (Xaq _ hy))
  have:=h t Xav
  unfold Zgy at i1 ⊢
  by_cases q:vof t.2=x
  ·rw[Xa4 (by rw[Xad q];decide),Xa5 (p:=fun t:Int×Int=>decide (vof t.2=x)) (Xad q),XaV,XbN,ZeV]
   refine⟨?_,i2⟩
   cases ZT v t.2 with
   |true=>rw[ctt];omega
   |false=>rw[cff];omega
  ·rw[Xa5 (by rw[decide_eq_false q];rfl),Xa4 (p:=fun t:Int×Int=>decide (vof t.2=x)) (by rw[Xah];exact q),ZeV,ZeV]
   cases ZT v t.2 with
   |true=>rw[ctt];omega
   |false=>rw[cff];omega
theorem ZMM {c:Z9} {x:Int} {v:List Bool} (hc:ZA c=true) (h:ZR v c=true):ZR v (ZBL c x)=true:=by
 rw[ZpP]at h ⊢
 obtain⟨w1,w2⟩:=ZJE (v:=v) (x:=x) c.1 (fun t ht=>(Zqi hc t ht).2)
 show max 0 (c.2 - Zgy c.1 x)≤Zcy v (c.1.filter (fun t=>!decide (vof t.2=x)))
 omega
theorem ZMT {a b:Z9} {v:List Bool} (ha:ZA a=true) (hb:ZA b=true) (h1:ZR v a=true) (h2:ZR v b=true) (hr:(ZuW a b).1=true):ZR v (ofR (ZuW a b))=true:=by
 unfold ZuW at hr ⊢
 rw[ha,hb,Xai,ctt]at hr ⊢
 rw[(ZyR hr).1,ZGJ (ZEe ha hb),Xah,ZrV]
 rw[ZpP]at h1 h2
 omega
theorem ZOC {l:Int} {v:List Bool}:ZR v ([(1,l)],0)=true:=by
 rw[ZpP]
 show (0:Int)≤Zcy v [(1,l)]
 rw[Zy4]
 cases ZT v l with
 |true=>rw[ctt];exact Int.one_nonneg
 |false=>rw[cff];exact Xas _
end Go.AE.Y
namespace Go.AE.Y
open Go Go.AE
set_option maxHeartbeats 400000
def Zqr (L:Zx) (p:List Int):Prop:=∀c∈L,0≤ZdJ c.1 p c.1.length - c.2
theorem ZJc {c:List (Int×Int)×Int} {o5 r9:List Int} (hp:OkP o5) (hr:r9.length≤1048576) (h9:∀l∈r9,Zbe l=true∧unZ l o5=0∧∀v,agP o5 v→ZR v c=true→ZT v l=true) (m4:Bool) {i3:Int} (hi:0≤i3∧i3≤2000000) :
  ∃md out,loop (Zem i3 r9) (m4,(0:Int),o5)=some (.inl (md,i3+1,out))∧OkP out∧(∀v,agP o5 v→ZR v c=true→agP out v)∧(∀j,out.getD j 0=0→o5.getD j 0=0)∧((md=m4∧out=o5)∨(md=true∧zcN out 12<zcN o5 12)):=by
 have key:=ZbX (f:=Zem i3 r9) (fun s:Bool×Int×List Int=>∃n:Nat,s.2.1=n∧n≤r9.length∧OkP s.2.2∧(∀v,agP o5 v→ZR v c=true→agP s.2.2 v)∧(∀j,s.2.2.getD j 0=0→o5.getD j 0=0)∧((n=0∧s.1=m4∧s.2.2=o5)∨(s.1=true∧zcN s.2.2 12<zcN o5 12))) (fun s=>r9.length - s.2.1.toNat)
  (fun r=>∃md out,r = .inl (md,i3+1,out)∧OkP out∧(∀v,agP o5 v→ZR v c=true→agP out v)∧(∀j,out.getD j 0=0→o5.getD j 0=0)∧((md=m4∧out=o5)∨(md=true∧zcN out 12<zcN o5 12))) ?_ (m4,(0:Int),o5) ⟨0,rfl,Nat.zero_le _,hp,fun v h _=>h,fun j h=>h,Or.inl ⟨rfl,rfl,rfl⟩⟩
 ·obtain⟨r,e,md,out,rfl,h⟩:=key
  exact⟨md,out,e,h⟩
 rintro⟨md,s,o⟩ ⟨n,hs,hn,ho,ha,hz,hc⟩
 dsimp only at hs ho ha hz hc ⊢
 subst hs
 unfold Zem
 dsimp only
 rcases Xag n r9.length with h1|h1
 ·left
  obtain⟨l1,l2,l3⟩:=h9 _ (ZF (l:=r9) (i:=n) (d:=0) h1)
  have hl:=ZG.1 l1
  obtain⟨s1,s2,s3,s4,s5,_⟩:=ZFz l1 ho
  have ho12:=ho.1
  have hz0:zcN (ZeD (r9.getD n 0) o) 12<zcN o5 12:=by
   rcases hc with⟨h0,_,h2⟩|⟨_,h2⟩
   ·subst h2
    have:=s4 l2
    omega
   ·omega
  have inv:∃n':Nat,((n:Int)+1)=n'∧n'≤r9.length∧OkP (ZeD (r9.getD n 0) o)∧(∀v,agP o5 v→ZR v c=true→agP (ZeD (r9.getD n 0) o) v)∧(∀j,(ZeD (r9.getD n 0) o).getD j 0=0→o5.getD j 0=0)∧((n'=0∧true=m4∧ZeD (r9.getD n 0) o=o5)∨(true=true∧zcN (ZeD (r9.getD n 0) o) 12<zcN o5 12)):=
   ⟨n+1,by simp,by omega,s1,fun v h1 h2=>s2 v (ha v h1 h2) (l3 v h1 h2),fun j h=>hz j (s5 j h),Or.inr ⟨rfl,hz0⟩⟩
  rw[Zd (by omega),Zb ⟨by omega,by omega⟩,Xab]
  refine⟨(true,(n:Int)+1,ZeD (r9.getD n 0) o),?_,inv,by (try dsimp only)<;>omega⟩
  unfold ZeD
  by_cases q:0<r9.getD n 0
  ·rw[Zd q,if_pos q,Zf (by omega) (by omega),Zb ⟨by omega,by omega⟩,Zf (by omega) (by omega)]
  ·rw[Zc q,if_neg q,Zf (by omega) (by omega),Zf (by omega) (by omega),Zb ⟨by omega,by omega⟩,Zf (by omega) (by omega)]
 ·right
  rw[Zc (by omega),Zf (by omega) (by omega)]
  refine⟨_,rfl,md,o,rfl,ho,ha,hz,?_⟩
  rcases hc with⟨_,h2⟩|h2
  ·exact Or.inl h2
  ·exact Or.inr h2
def Two (L:Zx) (o3 out:List Int):Prop:=OkP out∧(∀v,agP o3 v→ZeC L v→agP out v)∧∀j,out.getD j 0=0→o3.getD j 0=0
theorem ZJb {L:Zx} {o3:List Int} (hL:Zb1 L) (hl:L.length≤1048576) (hp:OkP o3) :
  ∃r,loop (Zc1 L) (false,(0:Int),o3)=some r∧((∃md out,r = .inl (md,out)∧Two L o3 out∧((md=false∧out=o3∧Zqr L o3)∨(md=true∧zcN out 12<zcN o3 12)))∨(∃i out,r = .inr (i,out)∧0≤i∧Two L o3 out∧∀v,agP o3 v→¬ZeC L v)):=by
 refine ZbX (f:=Zc1 L) (fun s:Bool×Int×List Int=>∃n:Nat,s.2.1=n∧n≤L.length∧Two L o3 s.2.2∧((s.1=false∧s.2.2=o3∧∀k,k<n→0≤ZdJ (L.getD k ([],0)).1 o3 (L.getD k ([],0)).1.length - (L.getD k ([],0)).2)∨(s.1=true∧zcN s.2.2 12<zcN o3 12))) (fun s=>L.length - s.2.1.toNat) _ ?_ _ ⟨0,rfl,Nat.zero_le _,⟨hp,fun v h _=>h,fun j h=>h⟩,Or.inl ⟨rfl,rfl,fun k hk=>by omega⟩⟩
 rintro⟨md,s,o⟩ ⟨n,hs,hn,⟨t1,t2,t3⟩,hc⟩
 dsimp only at hs t1 t2 t3 hc ⊢
 subst hs
 unfold Zc1
 dsimp only
 rcases Xag n L.length with h1|h1
 ·have hmem:=ZF (l:=L) (i:=n) (d:=([],0)) h1
  obtain⟨g1,g2⟩:=hL _ hmem
  rw[Zd (by omega),Zb ⟨by omega,by omega⟩,Xab,Zmj g1 g2 t1,Ze]
  by_cases q:ZdJ (L.getD n ([],0)).1 o (L.getD n ([],0)).1.length - (L.getD n ([],0)).2<0
  ·right
   rw[Zd q]
   exact⟨_,rfl,Or.inr ⟨n,o,rfl,by omega,⟨t1,t2,t3⟩,fun v ha hs=>ZBe g1 t1 (t2 v ha hs) q (hs _ hmem)⟩⟩
  ·left
   obtain⟨r9,e9,k1,k2⟩:=Zwy g1 g2 t1
   obtain⟨md',out,e3,u1,u2,u3,u4⟩:=ZJc t1 k1 k2 md (i3:=(n:Int)) ⟨by omega,by omega⟩
   rw[Zc q,e9,Ze,e3]
   refine⟨_,rfl,⟨n+1,by simp,by omega,⟨u1,fun v ha hs=>u2 v (t2 v ha hs) (hs _ hmem),fun j h=>t3 j (u3 j h)⟩,?_⟩,by (try dsimp only)<;>omega⟩
   dsimp only
   rcases u4 with⟨rfl,rfl⟩|⟨rfl,hz⟩
   ·rcases hc with⟨c1,c2,c3⟩|c
    ·refine Or.inl ⟨c1,c2,fun k hk=>?_⟩
     rcases Xag k n with h2|h2
     ·exact c3 k h2
     ·rw[show k=n by omega,←c2];omega
    ·exact Or.inr c
   ·refine Or.inr ⟨rfl,?_⟩
    rcases hc with⟨c1,c2,c3⟩|c
    ·rw[←c2];exact hz
    ·have:=c.2;omega
 ·right
  have hnn:n=L.length:=by omega
  rw[Zc (by omega)]
  refine⟨_,rfl,Or.inl ⟨md,o,rfl,⟨t1,t2,t3⟩,?_⟩⟩
  rcases hc with⟨c1,c2,c3⟩|c
  ·refine Or.inl ⟨c1,c2,fun x hx=>?_⟩
   obtain⟨k,hk,rfl⟩:=Xat.1 hx
   have:=c3 k (by omega)
   rwa [Xaa,Xac hk]at this
  ·exact Or.inr c
theorem Zwk {s:List Int} (h:s.length≤1048576):Zbr s=some s:=by
 unfold Zbr
 refine ZAU (fun e=>by rw[e]) ?_
 rw[Zb (by simp only[Xal,Zl];omega),Xao]
theorem Zj7 {L:Zx} {p:List Int} (hL:Zb1 L) (hl:L.length≤1048576) (hp:OkP p) :
  ∃r,Zda L p=some r∧Two L p r.2∧((r.1 = -1∧Zqr L r.2)∨(0≤r.1∧∀v,agP p v→¬ZeC L v)):=by
 unfold Zda
 rw[Zwk (by have:=hp.1;omega),Ze]
 refine ZbX (f:=Zfp L) (fun s:Bool×List Int=>Two L p s.2∧(s.1=false→Zqr L s.2)) (fun s=>bif s.1 then 2*zcN s.2 12+1 else 0) (fun r=>Two L p r.2∧((r.1 = -1∧Zqr L r.2)∨(0≤r.1∧∀v,agP p v→¬ZeC L v))) ?_ _ ⟨⟨hp,fun v h _=>h,fun j h=>h⟩,fun h=>by cases h⟩
 rintro⟨md,o⟩ ⟨⟨t1,t2,t3⟩,hk⟩
 dsimp only at t1 t2 t3 hk ⊢
 unfold Zfp
 dsimp only
 cases md with
 |false=>
  right
  rw[cff]
  exact⟨_,rfl,⟨t1,t2,t3⟩,Or.inl ⟨rfl,hk rfl⟩⟩
 |true=>
  rw[ctt]
  obtain⟨r,e,h|h⟩:=ZJb hL hl t1
  ·obtain⟨md',out,rfl,⟨u1,u2,u3⟩,hc⟩:=h
   left
   rw[e]
   refine⟨_,rfl,⟨⟨u1,fun v ha hs=>u2 v (t2 v ha hs) hs,fun j h=>t3 j (u3 j h)⟩,?_⟩,?_⟩
   ·dsimp only
    intro hf
    rcases hc with⟨_,c2,c3⟩|⟨c1,_⟩
    ·rw[c2];exact c3
    ·rw[c1]at hf;cases hf
   ·dsimp only
    rw[ctt]
    rcases hc with⟨c1,_,_⟩|⟨c1,c2⟩
    ·rw[c1,cff];omega
    ·rw[c1,ctt];omega
  ·obtain⟨i,out,rfl,h0,⟨u1,u2,u3⟩,hc⟩:=h
   right
   rw[e]
   exact⟨_,rfl,⟨u1,fun v ha hs=>u2 v (t2 v ha hs) hs,fun j h=>t3 j (u3 j h)⟩,Or.inr ⟨h0,fun v ha hs=>hc v (t2 v ha hs) hs⟩⟩
theorem Zu5 {p:List Int} (hp:OkP p):∃r,Zi6 p=some r∧((r=(0,true,p.map (fun n=>decide (0<n)))∧∀j,j<12→p.getD j 0≠0)∨(∃k:Nat,k<12∧p.getD k 0=0∧r=((k:Int)+1,false,[]))):=by
 have h12:=hp.1
 unfold Zi6
 refine ZbX (f:=Zlr p) (fun s:Int×List Bool=>∃n:Nat,s.1=n∧n≤12∧s.2=(p.take n).map (fun n=>decide (0<n))∧∀j,j<n→p.getD j 0≠0) (fun s=>12 - s.1.toNat) _ ?_ _ ⟨0,rfl,by omega,by rw[XaS];rfl,fun j hj=>by omega⟩
 rintro⟨s,o⟩ ⟨n,hs,hn,ho,hz⟩
 dsimp only at hs ho hz ⊢
 subst hs
 subst ho
 unfold Zlr
 dsimp only
 rcases Xag n 12 with h1|h1
 ·rw[Zd (by omega),Zb ⟨by omega,by omega⟩,Xab]
  by_cases q:p.getD n 0=0
  ·right
   rw[Zu q,Zf (by omega) (by omega)]
   exact⟨_,rfl,Or.inr ⟨n,h1,q,rfl⟩⟩
  ·left
   rw[Zo q,Zb (by simp[Zl];omega),Zf (by omega) (by omega)]
   refine⟨_,rfl,⟨n+1,by simp,by omega,?_,fun j hj=>?_⟩,by (try dsimp only)<;>omega⟩
   ·dsimp only
    rw[Xbg,Xac (show n<p.length by omega),Xa3,Xaa,Xac (show n<p.length by omega)]
    rfl
   ·rcases Xag j n with h2|h2
    ·exact hz j h2
    ·rw[show j=n by omega];exact q
 ·right
  have hnn:n=12:=by omega
  unfold ZpS
  rw[Zc (by omega)]
  exact⟨_,rfl,Or.inl ⟨by rw[hnn,←h12,XaB],fun j hj=>hz j (by omega)⟩⟩
def Zer (D:List Int):Prop:=(∀x∈D,Zbe x=true)∧∀i j,i<D.length→j<D.length→vof (D.getD i 0)=vof (D.getD j 0)→i=j
def agD (D:List Int) (v:List Bool):Prop:=∀x∈D,ZT v x=true
def Zft (D:List Int):Nat→List Int
 |0=>List.replicate 12 0
 |n+1=>ZeD (D.getD n 0) (Zft D n)
theorem ZEj (j:Nat):(List.replicate 12 (0:Int)).getD j 0=0:=by
 rw[Xaa]
 rcases Xag j 12 with h|h
 ·rw[XaW h];rfl
 ·rw[Xax (by rw[Xaw];exact h)];rfl
theorem ZqE {D:List Int} (hD:Zer D):∀n,n≤D.length→OkP (Zft D n)∧(∀v,agD D v→agP (Zft D n) v)∧(∀j,(Zft D n).getD j 0=0→∀i,i<n→vof (D.getD i 0)≠(j:Int)+1)∧(∀j,(Zft D n).getD j 0≠0→∃i,i<n∧vof (D.getD i 0)=(j:Int)+1)∧zcN (Zft D n) 12+n=12
 |0,_=>⟨⟨rfl,fun j=>Or.inl (ZEj j)⟩,fun v _ j hne=>absurd (ZEj j) hne,fun j _ i hi=>(by omega),fun j hne=>absurd (ZEj j) hne,(by show zcN (List.replicate 12 0) 12+0=12;decide)⟩
 |n+1,h=>by
  obtain⟨i1,i2,i3,i4,i5⟩:=ZqE hD n (by omega)
  have hmem:=ZF (l:=D) (i:=n) (d:=0) (by omega)
  have hl:=hD.1 _ hmem
  have hlit:=ZG.1 hl
  obtain⟨s1,s2,s3,s4,s5,s6⟩:=ZFz hl i1
  have hvr:1≤vof (D.getD n 0)∧vof (D.getD n 0)≤12:=by unfold vof;omega
  have hun:unZ (D.getD n 0) (Zft D n)=0:=by
   have hz:(Zft D n).getD (vof (D.getD n 0) - 1).toNat 0=0:=by
    by_cases q:(Zft D n).getD (vof (D.getD n 0) - 1).toNat 0=0
    ·exact q
    ·obtain⟨i,hi,e⟩:=i4 _ q
     have:=hD.2 i n (by omega) (by omega) (by rw[e];omega)
     omega
   unfold unZ
   unfold vof at hz
   split
   ·rw[show (0 - D.getD n 0 - 1)=max (D.getD n 0) (-(D.getD n 0)) - 1 by omega,hz];rfl
   ·rw[show (D.getD n 0 - 1)=max (D.getD n 0) (-(D.getD n 0)) - 1 by omega,hz]
  refine⟨s1,fun v ha=>s2 v (i2 v ha) (ha _ hmem),fun j h0 i hi=>?_,fun j hne=>?_,?_⟩
  ·have h0':(ZeD (D.getD n 0) (Zft D n)).getD j 0=0:=h0
   rw[s6]at h0'
   by_cases q:(j:Int)+1=vof (D.getD n 0)
   ·rw[if_pos q]at h0'
    split at h0'<;>omega
   ·rw[if_neg q]at h0'
    rcases Xag i n with h2|h2
    ·exact i3 j h0' i h2
    ·rw[show i=n by omega];omega
  ·have hne':(ZeD (D.getD n 0) (Zft D n)).getD j 0≠0:=hne
   rw[s6]at hne'
   by_cases q:(j:Int)+1=vof (D.getD n 0)
   ·exact⟨n,by omega,by omega⟩
   ·rw[if_neg q]at hne'
    obtain⟨i,hi,e⟩:=i4 j hne'
    exact⟨i,by omega,e⟩
  ·have:=s4 hun
   show zcN (ZeD (D.getD n 0) (Zft D n)) 12+(n+1)=12
   omega
theorem Zi4 {D:List Int} (hD:Zer D):D.length≤12:=by
 have:=(ZqE hD D.length (Nat.le_refl _)).2.2.2.2
 omega
theorem ZCL {D:List Int} {l:Int} (hD:Zer D) (hl:Zbe l=true) (hn:∀i,i<D.length→vof (D.getD i 0)≠vof l):Zer (D++[l]):=by
 have hg:∀i,i<D.length→(D++[l]).getD i 0=D.getD i 0:=fun i hi=>by rw[Xaa,XaL hi,←Xaa]
 have hg':(D++[l]).getD D.length 0=l:=by rw[Xaa,XaN (Nat.le_refl _),Nat.sub_self];rfl
 refine⟨fun x hx=>?_,fun i j hi hj e=>?_⟩
 ·rcases List.mem_append.1 hx with hx|hx
  ·exact hD.1 x hx
  ·rw[Xaj]at hx;rw[hx];exact hl
 ·rw[Xan,XaC]at hi hj
  rcases Xag i D.length with h1|h1<;>rcases Xag j D.length with h2|h2
  ·rw[hg i h1,hg j h2]at e
   exact hD.2 i j h1 h2 e
  ·rw[hg i h1,show j=D.length by omega,hg']at e
   exact absurd e (hn i h1)
  ·rw[hg j h2,show i=D.length by omega,hg']at e
   exact absurd e.symm (hn j h2)
  ·omega
theorem ZFg {D:List Int} (hD:Zer D):ZcN (ZbO D)=true:=by
 unfold ZcN ZbO
 simp only[Xaf,Xar,XaY,XaO,beq_iff_eq]
 refine⟨fun x hx=>?_,fun x hx y hy e=>?_⟩
 ·obtain⟨z,hz,rfl⟩:=XaG.1 hx
  rw[ZNf]
  exact hD.1 z hz
 ·obtain⟨z,hz,rfl⟩:=XaG.1 hx
  obtain⟨w,hw,rfl⟩:=XaG.1 hy
  obtain⟨i,hi,rfl⟩:=Xat.1 hz
  obtain⟨j,hj,rfl⟩:=Xat.1 hw
  have e1:D.getD i 0=D[i]:=by rw[Xaa,Xac hi];rfl
  have e2:D.getD j 0=D[j]:=by rw[Xaa,Xac hj];rfl
  have:=hD.2 i j hi hj (by rw[e1,e2];unfold vof;omega)
  subst this
  have:=ZG.1 (hD.1 _ hz)
  omega
abbrev VR:=Bool×Int×Bool×List Bool×Zx×List ZB
structure Ext (L:Zx) (S:List ZB) (L':Zx) (S':List ZB):Prop where
 good:Zb1 L'
 len:L'.length+S.length=L.length+S'.length
 up:S.length≤S'.length
 top:S'.length≤1000
 sound:∀v,ZeC L v→ZeC L' v
 back:∀v,ZeC L' v→ZeC L v
structure ZmV (D:List Int) (L:Zx) (S:List ZB) (fuel:Int) (r:VR):Prop where
 fu:0≤r.2.1∧r.2.1≤fuel
 ext:Ext L S r.2.2.2.2.1 r.2.2.2.2.2
 sat:r.1=true→r.2.2.2.1.length=12∧ZeC L r.2.2.2.1
 no:r.1=false→r.2.2.1=false→∀v,ZeC L v→¬agD D v
theorem Ext.refl {L:Zx} {S:List ZB} (h:Zb1 L) (hs:S.length≤1000):Ext L S L S:=⟨h,by omega,Nat.le_refl _,hs,fun _ h=>h,fun _ h=>h⟩
theorem Ext.trans {L L' L'':Zx} {S S' S'':List ZB} (a:Ext L S L' S') (b:Ext L' S' L'' S''):Ext L S L'' S'':=
 ⟨b.good,by have:=a.len;have:=b.len;omega,XbX a.up b.up,b.top,fun v h=>b.sound v (a.sound v h),fun v h=>a.back v (b.back v h)⟩
theorem ZPz {D:List Int} {L:Zx} {S:List ZB} (hD:Zer D) (hL:Zb1 L) (hl:L.length≤2000) (hS:S.length<1000) (hno:∀v,ZeC L v→¬agD D v) (f:Int) (m:Bool) :
  ∃r,Zdb D f m L S=some r∧Ext L S r.1 r.2:=by
 have hd:=Zi4 hD
 have hneg:∀x∈D,x≠0:=fun x hx=>(ZG.1 (hD.1 x hx)).1
 have hlo:=ZFg hD
 have hc:Zi3 (ZbO D)=(true,1,ZbS (Zcl (ZbO D))):=by
  unfold Zi3
  rw[hlo,Xad (show (ZbO D).length≤40 by unfold ZbO;rw[Xap];omega)]
  rfl
 have hcon:ZA (ZbS (Zcl (ZbO D)),1)=true:=ZAl (fun x hx=>(Zhq hlo).1 x ((Zqn hlo x).1 hx)) (ZwD hlo)
 have hev:∀v,ZR v (ZbS (Zcl (ZbO D)),1) = !(D.all (ZT v)):=fun v=>by rw[ZGx,ZKI (Zqn hlo),ZKJ hneg]
 have hlf:=Zqm (ZbO D)
 have hol:(ZbS (Zcl (ZbO D))).length≤12:=by unfold ZbS;rw[Xap];exact hlf
 refine⟨(L++[(ZbS (Zcl (ZbO D)),1)],S++[((7:Int),((0:Int),((0:Int),(ZbS (Zcl (ZbO D)),(1:Int)))))]),?_,?_⟩
 ·unfold Zdb
  refine(Zbi (f:=ZbZ D L S) D 0 (fun x=>0 - x) [] (fun _=>(L++[(ZbS (Zcl (ZbO D)),1)],S++[((7:Int),((0:Int),((0:Int),(ZbS (Zcl (ZbO D)),(1:Int)))))])) (fun i out hi ho=>?_) ?_)
  ·have:=ZG.1 (hD.1 _ (ZF (l:=D) (i:=i) (d:=0) hi))
   unfold ZbZ
   dsimp only
   rw[Zd (by omega),Zb ⟨by omega,by omega⟩,Xab,Zf (by omega) (by omega),Zb (by simp only[Zl,Xak,Xal];simp at ho;omega),Zf (by omega) (by omega)]
  ·unfold ZbZ Zgp Zgq
   dsimp only
   rw[Zc (by omega),Xao,show D.map (fun x=>0 - x)=ZbO D from rfl,Zlj _ (by unfold ZbO;rw[Xap];omega),Ze,hc]
   dsimp only
   rw[Zb (by simp[Zl];omega),ZEh _ (by (try dsimp only)<;>omega),Ze,Zb (by simp[Zl];omega)]
   rfl
 ·refine⟨fun c hcm=>?_,by simp;omega,by simp,by simp;omega,fun v h c hcm=>?_,fun v h c hcm=>h c (XbB _ hcm)⟩
  ·rcases List.mem_append.1 hcm with h|h
   ·exact hL c h
   ·rw[Xaj]at h
    subst h
    exact⟨hcon,by (try dsimp only)<;>omega⟩
  ·rcases List.mem_append.1 hcm with h2|h2
   ·exact h c h2
   ·rw[Xaj]at h2
    subst h2
    rw[hev]
    cases hb:D.all (ZT v)with
    |false=>rfl
    |true=>exact absurd (Xar.1 hb) (hno v h)
theorem ZEE {D:List Int} {L:Zx} {S:List ZB} {fuel:Int} {rec_:List Int→Int→Bool→Zx→List ZB→Option VR}
  (hrec:∀(l:Int) (L':Zx) (S':List ZB) (f':Int),Zer (D++[l])→Zb1 L'→L'.length≤400+S'.length→S'.length≤1000→(0≤f'∧f'≤2000)→∃r,rec_ (D++[l]) f' false L' S'=some r∧ZmV (D++[l]) L' S' f' r)
  (hD:Zer D) (hL:Zb1 L) (hl:L.length≤400+S.length) (hS:S.length≤1000) (hf:0≤fuel∧fuel≤2000):∃r,ZZ rec_ D fuel false L S=some r∧ZmV D L S fuel r:=by
 have hd:=Zi4 hD
 have much:ZmV D L S fuel (false,fuel,true,([]:List Bool),L,S):=⟨⟨hf.1,Xas _⟩,Ext.refl hL hS,fun h=>(by cases h),fun _ h=>(by cases h)⟩
 unfold ZZ
 by_cases q1:fuel=0
 ·exact⟨_,by rw[Zu q1],much⟩
 rw[Zo q1]
 by_cases q2:1000≤(S.length:Int)
 ·exact⟨_,by rw[Zd q2],much⟩
 rw[Zc q2,Zf (by omega) (by omega),Zb ⟨by omega,by simp only[Zl];omega,rfl⟩]
 obtain⟨p1,p2,p3,p4,p5⟩:=ZqE hD D.length (Nat.le_refl _)
 have tail:∃r,Zbu D fuel false L S rec_ (Zft D D.length)=some r∧ZmV D L S fuel r:=by
  unfold Zbu
  obtain⟨⟨i,out⟩,e1,⟨t1,t2,t3⟩,hc⟩:=Zj7 hL (by omega) p1
  dsimp only at t1 t2 t3 hc
  rw[e1,Ze]
  dsimp only
  have failed:∀(f:Int) (L':Zx) (S':List ZB),(0≤f∧f≤fuel)→Ext L S L' S'→S'.length<1000→(∀v,ZeC L v→¬agD D v)→∃r,Zct D (f,false,L',S')=some r∧ZmV D L S fuel r:=fun f L' S' hf' hx hs' hno=>by
   obtain⟨⟨L2,S2⟩,e,hx2⟩:=ZPz hD hx.good (by have:=hx.len;omega) hs' (fun v hv=>hno v (hx.back v hv)) f false
   unfold Zct
   dsimp only
   rw[e,Ze]
   exact⟨_,rfl,⟨hf',hx.trans hx2,fun h=>(by cases h),fun _ _=>hno⟩⟩
  rcases hc with⟨rfl,hk⟩|⟨h0,hk⟩
  ·rw[Zd (by omega)]
   obtain⟨r4,e4,h|h⟩:=Zu5 t1
   ·obtain⟨rfl,ht⟩:=h
    rw[e4,Ze]
    dsimp only
    rw[ctt]
    refine⟨_,rfl,⟨⟨by (try dsimp only)<;>omega,by (try dsimp only)<;>omega⟩,Ext.refl hL hS,fun _=>⟨by show (out.map _).length=12;rw[Xap];exact t1.1,fun c hcm=>?_⟩,fun h=>(by cases h)⟩⟩
    have ha:agP out (out.map (fun n=>decide (0<n))):=fun j hne=>by
     rcases Xag j out.length with h1|h1
     ·rw[Xaa,Xbo,Xac h1,Xaa,Xac h1]
      rfl
     ·rw[Xaa,Xax h1]at hne
      exact absurd rfl hne
    exact ZND (hL c hcm).1 t1 ha ht (hk c hcm)
   ·obtain⟨k,hk12,hk0,rfl⟩:=h
    rw[e4,Ze]
    dsimp only
    rw[cff,Zf (by omega) (by omega)]
    have hvar:∀l:Int,vof l=(k:Int)+1→∀i,i<D.length→vof (D.getD i 0)≠vof l:=fun l hl i hi=>by
     rw[hl]
     exact p3 k (t3 k hk0) i hi
    refine ZbX (f:=Zdc D ((k:Int)+1,false,[]) rec_) (fun s:Int×Int×Bool×Zx×List ZB=>∃n:Nat,s.1=n∧n≤2∧(0≤s.2.1∧s.2.1≤fuel)∧s.2.2.1=false∧Ext L S s.2.2.2.1 s.2.2.2.2∧(1≤n→∀v,ZeC L v→agD D v→ZT v ((k:Int)+1)=false)∧(2≤n→∀v,ZeC L v→agD D v→ZT v (0 - ((k:Int)+1))=false)) (fun s=>2 - s.1.toNat) (ZmV D L S fuel) ?_ _ ⟨0,rfl,by omega,⟨by (try dsimp only)<;>omega,by (try dsimp only)<;>omega⟩,rfl,Ext.refl hL hS,fun h=>by omega,fun h=>by omega⟩
    rintro⟨s,f,m,L',S'⟩ ⟨n,hs,hn,hf',hm,hx,g1,g2⟩
    dsimp only at hs hf' hm hx g1 g2 ⊢
    subst hs
    subst hm
    unfold Zdc
    dsimp only
    rcases Xag n 2 with h1|h1
    ·have hlit:∃l,[((k:Int)+1),(0 - ((k:Int)+1))].getD n 0=l∧vof l=(k:Int)+1∧Zbe l=true∧((n=0∧l=(k:Int)+1)∨(n=1∧l=0 - ((k:Int)+1))):=by
      have:n=0∨n=1:=by omega
      rcases this with rfl|rfl
      ·exact⟨(k:Int)+1,rfl,by unfold vof;omega,ZG.2 ⟨by omega,by omega,by omega⟩,Or.inl ⟨rfl,rfl⟩⟩
      ·exact⟨0 - ((k:Int)+1),rfl,by unfold vof;omega,ZG.2 ⟨by omega,by omega,by omega⟩,Or.inr ⟨rfl,rfl⟩⟩
     obtain⟨l,el,hv,hli,hnl⟩:=hlit
     have hlen:=hx.len
     have htop:=hx.top
     obtain⟨r8,e8,⟨f1,x1,sa1,no1⟩⟩:=hrec l L' S' f (ZCL hD hli (hvar l hv)) hx.good (by omega) htop ⟨by omega,by omega⟩
     rw[Zd (by simp;omega),Zb ⟨by omega,by simp;omega⟩,Xab,el,Zwk (by omega),Ze,Zb (by simp[Zl];omega),e8,Ze]
     cases hok:r8.1 with
     |true=>
      right
      rw[ctt]
      refine⟨_,rfl,⟨⟨by (try dsimp only)<;>omega,by (try dsimp only)<;>omega⟩,hx.trans x1,fun _=>⟨(sa1 hok).1,fun c hcm=>?_⟩,fun h=>(by cases h)⟩⟩
      exact hx.back _ (sa1 hok).2 c hcm
     |false=>
      rw[cff]
      cases hmu:r8.2.2.1 with
      |true=>
       right
       rw[ctt]
       exact⟨_,rfl,⟨⟨by (try dsimp only)<;>omega,by (try dsimp only)<;>omega⟩,hx.trans x1,fun h=>(by cases h),fun _ h=>(by cases h)⟩⟩
      |false=>
       left
       have hno:∀v,ZeC L v→agD D v→ZT v l=false:=fun v h1 h2=>by
        cases hb:ZT v l with
        |false=>rfl
        |true=>
         exfalso
         refine no1 hok hmu v (hx.sound v h1) (fun x hxm=>?_)
         rcases List.mem_append.1 hxm with h|h
         ·exact h2 x h
         ·rw[Xaj]at h;rw[h];exact hb
       rw[cff,Zf (by omega) (by omega)]
       refine⟨_,rfl,⟨n+1,by simp,by omega,⟨by (try dsimp only)<;>omega,by (try dsimp only)<;>omega⟩,rfl,hx.trans x1,fun _=>?_,fun h2=>?_⟩,by (try dsimp only)<;>omega⟩
       ·rcases hnl with⟨rfl,rfl⟩|⟨rfl,rfl⟩
        ·exact hno
        ·exact g1 (by omega)
       ·rcases hnl with⟨rfl,rfl⟩|⟨rfl,rfl⟩
        ·omega
        ·exact hno
    ·right
     have hn2:n=2:=by omega
     rw[Zc (by simp;omega)]
     unfold ZfY
     dsimp only
     have hno:∀v,ZeC L v→¬agD D v:=fun v h1 h2=>by
      have a1:=g1 (by omega) v h1 h2
      have a2:=g2 (by omega) v h1 h2
      rw[Zs1 (by omega),a1]at a2
      cases a2
     by_cases q3:1000≤(S'.length:Int)
     ·rw[Zd q3]
      exact⟨_,rfl,⟨⟨by (try dsimp only)<;>omega,by (try dsimp only)<;>omega⟩,hx,fun h=>(by cases h),fun _ h=>(by cases h)⟩⟩
     ·rw[Zc q3]
      obtain⟨r,e,hr⟩:=failed f L' S' hf' hx (by omega) hno
      rw[e]
      exact⟨_,rfl,hr⟩
  ·rw[Zc (by omega)]
   exact failed _ L S ⟨by omega,by omega⟩ (Ext.refl hL hS) (by omega) (fun v h1 h2=>hk v (p2 v h2) h1)
 obtain⟨r,er,hr⟩:=tail
 refine⟨r,?_,hr⟩
 refine ZL (f:=Zcu D fuel false L S rec_) (fun s:Int×List Int=>∃n:Nat,s.1=n∧n≤D.length∧s.2=Zft D n) (fun s=>D.length - s.1.toNat) (fun _=>r) ?_ _ ⟨0,rfl,Nat.zero_le _,rfl⟩
 rintro⟨s,o⟩ ⟨n,hs,hn,ho⟩
 dsimp only at hs ho ⊢
 subst hs
 subst ho
 unfold Zcu
 dsimp only
 rcases Xag n D.length with h1|h1
 ·left
  have hlit:=ZG.1 (hD.1 _ (ZF (l:=D) (i:=n) (d:=0) h1))
  have h12:=(ZqE hD n hn).1.1
  have hvv:vof (D.getD n 0)=if 0<D.getD n 0 then D.getD n 0 else 0 - D.getD n 0:=by unfold vof;split<;>omega
  refine⟨((n:Int)+1,Zft D (n+1)),?_,⟨n+1,by simp,by omega,rfl⟩,by (try dsimp only)<;>omega,rfl⟩
  rw[Zd (by omega),Zb ⟨by omega,by omega⟩,Xab,ZeQ (by omega),Ze]
  have e:Zft D (n+1)=ZeD (D.getD n 0) (Zft D n):=rfl
  rw[e]
  unfold ZeD
  by_cases q:0<D.getD n 0
  ·rw[if_pos q]at hvv
   rw[hvv,if_pos q,Zf (by omega) (by omega),Zb ⟨by omega,by omega⟩,Zc (by omega),Zf (by omega) (by omega)]
  ·rw[if_neg q]at hvv
   rw[hvv,if_neg q,Zf (by omega) (by omega),Zb ⟨by omega,by omega⟩,Zd (by omega),Zf (by omega) (by omega),Zf (by omega) (by omega),Zb ⟨by omega,by rw[Xam];omega⟩,Zf (by omega) (by omega),List.set_set]
 ·right
  have:n=D.length:=by omega
  subst this
  rw[Zc (by omega),er]
  rfl
theorem ZDr:∀(n:Nat) (D:List Int) (L:Zx) (S:List ZB) (fuel:Int),Zer D→Zb1 L→L.length≤400+S.length→S.length≤1000→(0≤fuel∧fuel≤2000)→13≤n+D.length→∃r,Z6 n D fuel false L S=some r∧ZmV D L S fuel r
 |0,D,L,S,fuel,hD,_,_,_,_,hn=>by have:=Zi4 hD;omega
 |n+1,D,L,S,fuel,hD,hL,hl,hS,hf,hn=>by
  show ∃r,ZZ (Z6 n) D fuel false L S=some r∧_
  exact ZEE (fun l L' S' f' h1 h2 h3 h4 h5=>ZDr n (D++[l]) L' S' f' h1 h2 h3 h4 h5 (by rw[Xan,XaC];omega)) hD hL hl hS hf
end Go.AE.Y
namespace Go.AE.Y
open Go Go.AE
theorem Zvp {S R:Type} (I:S→Prop) {f g:S→Option (S⊕R)} (h:∀s,I s→f s=g s) (hI:∀s s',I s→g s=some (.inl s')→I s'):∀(n:Nat) (s:S),I s→Zdd f n s=Zdd g n s
 |0,_,_=>rfl
 |n+1,s,hs=>by
  unfold Zdd
  rw[h s hs]
  cases hg:g s with
  |none=>rfl
  |some a=>
   cases a with
   |inr r=>rfl
   |inl s'=>exact Zvp I h hI n s' (hI s s' hs hg)
theorem ZyJ {S R:Type} (I:S→Prop) {f g:S→Option (S⊕R)} (h:∀s,I s→f s=g s) (hI:∀s s',I s→g s=some (.inl s')→I s') {s:S} (hs:I s):loop f s=loop g s:=by
 cases hg:loop g s with
 |some r=>
  obtain⟨n,hn⟩:=ZjR hg
  exact ZxG (n:=n) (by rw[Zvp I h hI n s hs,hn])
 |none=>
  cases hf:loop f s with
  |none=>rfl
  |some r=>
   obtain⟨n,hn⟩:=ZjR hf
   rw[Zvp I h hI n s hs]at hn
   rw[ZxG hn]at hg
   exact absurd hg (by simp)
theorem ZEk {S R T Q:Type} (Rel:S→T→Prop) (K:R→Q→Prop) {f:S→Option (S⊕R)} {g:T→Option (T⊕Q)}
  (step:∀s t,Rel s t→∀a b,f s=some a→g t=some b→(∃s' t',a = .inl s'∧b = .inl t'∧Rel s' t')∨(∃r q,a = .inr r∧b = .inr q∧K r q)) :
  ∀(n m:Nat) (s:S) (t:T) (r:R) (q:Q),Rel s t→Zdd f n s=some r→Zdd g m t=some q→K r q
 |0,_,_,_,_,_,_,h1,_=>by unfold Zdd at h1;exact absurd h1 (by simp)
 |n+1,0,_,_,_,_,_,_,h2=>by unfold Zdd at h2;exact absurd h2 (by simp)
 |n+1,m+1,s,t,r,q,hr,h1,h2=>by
  unfold Zdd at h1 h2
  cases hf:f s with
  |none=>rw[hf]at h1;exact absurd h1 (by simp)
  |some a=>
   cases hg:g t with
   |none=>rw[hg]at h2;exact absurd h2 (by simp)
   |some b=>
    rw[hf]at h1
    rw[hg]at h2
    rcases step s t hr a b hf hg with⟨s',t',e1,e2,h3⟩|⟨r',q',e1,e2,h3⟩
    ·subst e1
     subst e2
     exact ZEk Rel K step n m s' t' r q h3 h1 h2
    ·subst e1
     subst e2
     have h4:r'=r:=by simpa using h1
     have h5:q'=q:=by simpa using h2
     rw[←h4,←h5]
     exact h3
theorem ZC2 {S R T Q:Type} (Rel:S→T→Prop) (K:R→Q→Prop) {f:S→Option (S⊕R)} {g:T→Option (T⊕Q)}
  (step:∀s t,Rel s t→∀a b,f s=some a→g t=some b→(∃s' t',a = .inl s'∧b = .inl t'∧Rel s' t')∨(∃r q,a = .inr r∧b = .inr q∧K r q))
  {s:S} {t:T} {r:R} {q:Q} (hr:Rel s t) (h1:loop f s=some r) (h2:loop g t=some q):K r q:=by
 obtain⟨n,hn⟩:=ZjR h1
 obtain⟨m,hm⟩:=ZjR h2
 exact ZEk Rel K step n m s t r q hr hn hm
end Go.AE.Y
namespace Go.AE.Y
open Go Go.AE
set_option maxHeartbeats 400000
def subP (p q:List Int):Prop:=∀j,p.getD j 0≠0→q.getD j 0=p.getD j 0
theorem subP.refl (p:List Int):subP p p:=fun _ _=>rfl
theorem subP.trans {p q r:List Int} (a:subP p q) (b:subP q r):subP p r:=fun j h=>by
 have h1:=a j h
 rw[←h1]at h ⊢
 exact b j h
def ZQY (c:List (Int×Int)×Int) (q:List Int):Prop:=0≤ZdJ c.1 q c.1.length - c.2∧∀i,i<c.1.length→unZ (c.1.getD i (0,0)).2 q=0→(c.1.getD i (0,0)).1≤ZdJ c.1 q c.1.length - c.2
def ZQZ (L:Zx) (q:List Int):Prop:=∀c∈L,ZQY c q
end Go.AE.Y
namespace Go.AE.Y
open Go Go.AE
set_option maxHeartbeats 400000
theorem ZtD {l:Int} {p:List Int} (hl:Zbe l=true) (hp:OkP p):ZnX p l=some (unZ l p):=by
 have h:=ZG.1 hl
 obtain⟨h12,hv⟩:=hp
 unfold ZnX unZ
 by_cases q:0<l
 ·rw[Zd q,if_neg (by omega),Zf (by omega) (by omega),Zb ⟨by omega,by omega⟩]
 ·have:=hv (0 - l - 1).toNat
  rw[Zc q,if_pos (by omega),Zf (by omega) (by omega),Zf (by omega) (by omega),Zb ⟨by omega,by omega⟩,Zf (by omega) (by omega)]
theorem Zp1 {l:Int} {p:List Int} (hl:Zbe l=true) (hp:OkP p):ZgU l p=some (ZeD l p):=by
 have h:=ZG.1 hl
 have h12:=hp.1
 unfold ZgU ZeD
 by_cases q:0<l
 ·rw[Zd q,if_pos q,Zf (by omega) (by omega),Zb ⟨by omega,by omega⟩]
 ·rw[Zc q,if_neg q,Zf (by omega) (by omega),Zf (by omega) (by omega),Zb ⟨by omega,by omega⟩]
theorem ZpC {c:List (Int×Int)×Int} {p:List Int} (hc:ZA c=true) (hl:c.1.length≤1048576) (hp:OkP p):ZnW c p=some (ZdJ c.1 p c.1.length - c.2):=by
 obtain⟨c1,c2⟩:=Zdp hc
 unfold ZnW
 rw[Zf (by omega) (by omega)]
 refine ZL (f:=Zm4 c p) (fun s:Int×Int=>∃n:Nat,s.2=n∧n≤c.1.length∧s.1=ZdJ c.1 p n - c.2) (fun s=>c.1.length - s.2.toNat) (fun _=>ZdJ c.1 p c.1.length - c.2) ?_ _ ⟨0,rfl,Nat.zero_le _,by show 0 - c.2=0 - c.2;rfl⟩
 rintro⟨o,s⟩ ⟨n,hs,hn,ho⟩
 dsimp only at hs ho ⊢
 subst hs
 subst ho
 have hb:=Zy0 hc p n hn
 unfold Zm4
 dsimp only
 rcases Xag n c.1.length with h1|h1
 ·left
  obtain⟨l1,l2,l3⟩:=c2 n h1
  rw[Zd (by omega),Zb ⟨by omega,by omega⟩,Xab,ZtD l1 hp,Ze]
  by_cases q:0≤unZ (c.1.getD n (0,0)).2 p
  ·rw[Zd q,Zb ⟨by omega,by omega⟩,Zf (by omega) (by omega),Zf (by omega) (by omega)]
   refine⟨_,rfl,⟨n+1,by simp,by omega,?_⟩,by (try dsimp only)<;>omega,rfl⟩
   dsimp only
   conv=>rhs;unfold ZdJ
   rw[if_pos q]
   omega
  ·rw[Zc q,Zf (by omega) (by omega)]
   refine⟨_,rfl,⟨n+1,by simp,by omega,?_⟩,by (try dsimp only)<;>omega,rfl⟩
   dsimp only
   conv=>rhs;unfold ZdJ
   rw[if_neg q]
   omega
 ·right
  have:n=c.1.length:=by omega
  rw[Zc (by omega),this]
theorem ZEs {c:List (Int×Int)×Int} {p:List Int} (hc:ZA c=true) (hl:c.1.length≤1048576) (hp:OkP p):∃o,ZhN c p=some o∧o.length≤1048576∧∀l∈o,Zbe l=true∧unZ l p=0∧∀v,agP p v→ZR v c=true→ZT v l=true:=by
 obtain⟨c1,c2⟩:=Zdp hc
 unfold ZhN
 rw[ZpC hc hl hp,Ze]
 refine ZbX (f:=Zg7 c p (ZdJ c.1 p c.1.length - c.2)) (fun s:Int×List Int=>∃n:Nat,s.1=n∧n≤c.1.length∧s.2.length≤n∧∀l∈s.2,Zbe l=true∧unZ l p=0∧∀v,agP p v→ZR v c=true→ZT v l=true) (fun s=>c.1.length - s.1.toNat) (fun o=>o.length≤1048576∧∀l∈o,Zbe l=true∧unZ l p=0∧∀v,agP p v→ZR v c=true→ZT v l=true) ?_ _ ⟨0,rfl,Nat.zero_le _,Nat.le_refl _,fun l h=>absurd h XaE⟩
 rintro⟨s,o⟩ ⟨n,hs,hn,ho,hall⟩
 dsimp only at hs ho hall ⊢
 subst hs
 unfold Zg7
 dsimp only
 rcases Xag n c.1.length with h1|h1
 ·obtain⟨l1,l2,l3⟩:=c2 n h1
  by_cases q0:0≤ZdJ c.1 p c.1.length - c.2
  case neg=>
   right
   rw[Zd (by omega),Zc q0]
   exact⟨_,rfl,by omega,hall⟩
  left
  rw[Zd (by omega),Zd q0,Zb ⟨by omega,by omega⟩,Xab,ZtD l1 hp,Ze]
  by_cases q:unZ (c.1.getD n (0,0)).2 p=0
  ·rw[Zu q,Zb ⟨by omega,by omega⟩]
   by_cases q2:ZdJ c.1 p c.1.length - c.2<(c.1.getD n (0,0)).1
   ·rw[Zd q2,Zb ⟨by omega,by omega⟩,Zb (by simp[Zl];omega),Zf (by omega) (by omega)]
    refine⟨_,rfl,⟨n+1,by simp,by omega,by simp;omega,fun l h=>?_⟩,by (try dsimp only)<;>omega⟩
    rcases List.mem_append.1 h with h|h
    ·exact hall l h
    ·rw[Xaj]at h
     subst h
     refine⟨l1,q,fun v ha he=>?_⟩
     cases hb:ZT v (c.1.getD n (0,0)).2 with
     |true=>rfl
     |false=>
      have:=(ZBK hc hp ha c.1.length (Nat.le_refl _)).2 n h1 (by omega) hb
      have:=(Zwt v c).1 he
      omega
   ·rw[Zc q2,Zf (by omega) (by omega)]
    exact⟨_,rfl,⟨n+1,by simp,by omega,by (try dsimp only)<;>omega,hall⟩,by (try dsimp only)<;>omega⟩
  ·rw[Zo q,Zf (by omega) (by omega)]
   exact⟨_,rfl,⟨n+1,by simp,by omega,by (try dsimp only)<;>omega,hall⟩,by (try dsimp only)<;>omega⟩
 ·right
  rw[Zc (by omega)]
  exact⟨_,rfl,by omega,hall⟩
theorem ZNI {c:List (Int×Int)×Int} {o5 r9:List Int} (hp:OkP o5) (hr:r9.length≤1048576) (h9:∀l∈r9,Zbe l=true∧unZ l o5=0∧∀v,agP o5 v→ZR v c=true→ZT v l=true) (m4:Bool) {i3:Int} (hi:0≤i3∧i3≤2000000) :
  ∃md out,loop (ZdS i3 r9) (m4,(0:Int),o5)=some (.inl (md,i3+1,out))∧OkP out∧(∀v,agP o5 v→ZR v c=true→agP out v)∧(∀j,out.getD j 0=0→o5.getD j 0=0)∧((md=m4∧out=o5)∨(md=true∧zcN out 12<zcN o5 12)):=by
 have key:=ZbX (f:=ZdS i3 r9) (fun s:Bool×Int×List Int=>∃n:Nat,s.2.1=n∧n≤r9.length∧OkP s.2.2∧(∀v,agP o5 v→ZR v c=true→agP s.2.2 v)∧(∀j,s.2.2.getD j 0=0→o5.getD j 0=0)∧((n=0∧s.1=m4∧s.2.2=o5)∨(s.1=true∧zcN s.2.2 12<zcN o5 12))) (fun s=>r9.length - s.2.1.toNat)
  (fun r=>∃md out,r = .inl (md,i3+1,out)∧OkP out∧(∀v,agP o5 v→ZR v c=true→agP out v)∧(∀j,out.getD j 0=0→o5.getD j 0=0)∧((md=m4∧out=o5)∨(md=true∧zcN out 12<zcN o5 12))) ?_ (m4,(0:Int),o5) ⟨0,rfl,Nat.zero_le _,hp,fun v h _=>h,fun j h=>h,Or.inl ⟨rfl,rfl,rfl⟩⟩
 ·obtain⟨r,e,md,out,rfl,h⟩:=key
  exact⟨md,out,e,h⟩
 rintro⟨md,s,o⟩ ⟨n,hs,hn,ho,ha,hz,hc⟩
 dsimp only at hs ho ha hz hc ⊢
 subst hs
 unfold ZdS
 dsimp only
 rcases Xag n r9.length with h1|h1
 ·left
  obtain⟨l1,l2,l3⟩:=h9 _ (ZF (l:=r9) (i:=n) (d:=0) h1)
  have hl:=ZG.1 l1
  obtain⟨s1,s2,s3,s4,s5,_⟩:=ZFz l1 ho
  have ho12:=ho.1
  have hz0:zcN (ZeD (r9.getD n 0) o) 12<zcN o5 12:=by
   rcases hc with⟨h0,_,h2⟩|⟨_,h2⟩
   ·subst h2
    have:=s4 l2
    omega
   ·omega
  have inv:∃n':Nat,((n:Int)+1)=n'∧n'≤r9.length∧OkP (ZeD (r9.getD n 0) o)∧(∀v,agP o5 v→ZR v c=true→agP (ZeD (r9.getD n 0) o) v)∧(∀j,(ZeD (r9.getD n 0) o).getD j 0=0→o5.getD j 0=0)∧((n'=0∧true=m4∧ZeD (r9.getD n 0) o=o5)∨(true=true∧zcN (ZeD (r9.getD n 0) o) 12<zcN o5 12)):=
   ⟨n+1,by simp,by omega,s1,fun v h1 h2=>s2 v (ha v h1 h2) (l3 v h1 h2),fun j h=>hz j (s5 j h),Or.inr ⟨rfl,hz0⟩⟩
  rw[Zd (by omega),Zb ⟨by omega,by omega⟩,Xab]
  refine⟨(true,(n:Int)+1,ZeD (r9.getD n 0) o),?_,inv,by (try dsimp only)<;>omega⟩
  rw[Zp1 l1 ho,Ze,Zf (by omega) (by omega)]
 ·right
  rw[Zc (by omega),Zf (by omega) (by omega)]
  refine⟨_,rfl,md,o,rfl,ho,ha,hz,?_⟩
  rcases hc with⟨_,h2⟩|h2
  ·exact Or.inl h2
  ·exact Or.inr h2
theorem ZNH {L:Zx} {o3:List Int} (hL:Zb1 L) (hl:L.length≤1048576) (hp:OkP o3) :
  ∃r,loop (ZdR L) (false,(0:Int),o3)=some r∧((∃md out,r = .inl (md,out)∧Two L o3 out∧((md=false∧out=o3∧Zqr L o3)∨(md=true∧zcN out 12<zcN o3 12)))∨(∃i out,r = .inr (i,out)∧0≤i∧Two L o3 out∧∀v,agP o3 v→¬ZeC L v)):=by
 refine ZbX (f:=ZdR L) (fun s:Bool×Int×List Int=>∃n:Nat,s.2.1=n∧n≤L.length∧Two L o3 s.2.2∧((s.1=false∧s.2.2=o3∧∀k,k<n→0≤ZdJ (L.getD k ([],0)).1 o3 (L.getD k ([],0)).1.length - (L.getD k ([],0)).2)∨(s.1=true∧zcN s.2.2 12<zcN o3 12))) (fun s=>L.length - s.2.1.toNat) _ ?_ _ ⟨0,rfl,Nat.zero_le _,⟨hp,fun v h _=>h,fun j h=>h⟩,Or.inl ⟨rfl,rfl,fun k hk=>by omega⟩⟩
 rintro⟨md,s,o⟩ ⟨n,hs,hn,⟨t1,t2,t3⟩,hc⟩
 dsimp only at hs t1 t2 t3 hc ⊢
 subst hs
 unfold ZdR
 dsimp only
 rcases Xag n L.length with h1|h1
 ·have hmem:=ZF (l:=L) (i:=n) (d:=([],0)) h1
  obtain⟨g1,g2⟩:=hL _ hmem
  rw[Zd (by omega),Zb ⟨by omega,by omega⟩,Xab,ZpC g1 g2 t1,Ze]
  by_cases q:ZdJ (L.getD n ([],0)).1 o (L.getD n ([],0)).1.length - (L.getD n ([],0)).2<0
  ·right
   rw[Zd q]
   exact⟨_,rfl,Or.inr ⟨n,o,rfl,by omega,⟨t1,t2,t3⟩,fun v ha hs=>ZBe g1 t1 (t2 v ha hs) q (hs _ hmem)⟩⟩
  ·left
   obtain⟨r9,e9,k1,k2⟩:=ZEs g1 g2 t1
   obtain⟨md',out,e3,u1,u2,u3,u4⟩:=ZNI t1 k1 k2 md (i3:=(n:Int)) ⟨by omega,by omega⟩
   rw[Zc q,Zb ⟨by omega,by omega⟩,e9,Ze,e3]
   refine⟨_,rfl,⟨n+1,by simp,by omega,⟨u1,fun v ha hs=>u2 v (t2 v ha hs) (hs _ hmem),fun j h=>t3 j (u3 j h)⟩,?_⟩,by (try dsimp only)<;>omega⟩
   dsimp only
   rcases u4 with⟨rfl,rfl⟩|⟨rfl,hz⟩
   ·rcases hc with⟨c1,c2,c3⟩|c
    ·refine Or.inl ⟨c1,c2,fun k hk=>?_⟩
     rcases Xag k n with h2|h2
     ·exact c3 k h2
     ·rw[show k=n by omega,←c2];omega
    ·exact Or.inr c
   ·refine Or.inr ⟨rfl,?_⟩
    rcases hc with⟨c1,c2,c3⟩|c
    ·rw[←c2];exact hz
    ·have:=c.2;omega
 ·right
  have hnn:n=L.length:=by omega
  rw[Zc (by omega)]
  refine⟨_,rfl,Or.inl ⟨md,o,rfl,⟨t1,t2,t3⟩,?_⟩⟩
  rcases hc with⟨c1,c2,c3⟩|c
  ·refine Or.inl ⟨c1,c2,fun x hx=>?_⟩
   obtain⟨k,hk,rfl⟩:=Xat.1 hx
   have:=c3 k (by omega)
   rwa [Xaa,Xac hk]at this
  ·exact Or.inr c
theorem ZCj {L:Zx} {p:List Int} (hL:Zb1 L) (hl:L.length≤1048576) (hp:OkP p) :
  ∃r,Zdy L p=some r∧Two L p r.2∧((r.1 = -1∧Zqr L r.2)∨(0≤r.1∧∀v,agP p v→¬ZeC L v)):=by
 unfold Zdy
 refine ZbX (f:=ZfL L) (fun s:Bool×List Int=>Two L p s.2∧(s.1=false→Zqr L s.2)) (fun s=>bif s.1 then 2*zcN s.2 12+1 else 0) (fun r=>Two L p r.2∧((r.1 = -1∧Zqr L r.2)∨(0≤r.1∧∀v,agP p v→¬ZeC L v))) ?_ _ ⟨⟨hp,fun v h _=>h,fun j h=>h⟩,fun h=>by cases h⟩
 rintro⟨md,o⟩ ⟨⟨t1,t2,t3⟩,hk⟩
 dsimp only at t1 t2 t3 hk ⊢
 unfold ZfL
 dsimp only
 cases md with
 |false=>
  right
  rw[cff]
  exact⟨_,rfl,⟨t1,t2,t3⟩,Or.inl ⟨rfl,hk rfl⟩⟩
 |true=>
  rw[ctt]
  obtain⟨r,e,h|h⟩:=ZNH hL hl t1
  ·obtain⟨md',out,rfl,⟨u1,u2,u3⟩,hc⟩:=h
   left
   rw[e]
   refine⟨_,rfl,⟨⟨u1,fun v ha hs=>u2 v (t2 v ha hs) hs,fun j h=>t3 j (u3 j h)⟩,?_⟩,?_⟩
   ·dsimp only
    intro hf
    rcases hc with⟨_,c2,c3⟩|⟨c1,_⟩
    ·rw[c2];exact c3
    ·rw[c1]at hf;cases hf
   ·dsimp only
    rw[ctt]
    rcases hc with⟨c1,_,_⟩|⟨c1,c2⟩
    ·rw[c1,cff];omega
    ·rw[c1,ctt];omega
  ·obtain⟨i,out,rfl,h0,⟨u1,u2,u3⟩,hc⟩:=h
   right
   rw[e]
   exact⟨_,rfl,⟨u1,fun v ha hs=>u2 v (t2 v ha hs) hs,fun j h=>t3 j (u3 j h)⟩,Or.inr ⟨h0,fun v ha hs=>hc v (t2 v ha hs) hs⟩⟩
theorem ZxR {p:List Int} (hp:OkP p):∃r,ZjU p=some r∧(r=0∨∃k:Nat,k<12∧p.getD k 0=0∧r=(k:Int)+1):=by
 have h12:=hp.1
 unfold ZjU
 refine ZbX (f:=ZkT p) (fun s:Int=>∃n:Nat,s=n∧n≤12) (fun s=>12 - s.toNat) _ ?_ _ ⟨0,rfl,by omega⟩
 rintro s ⟨n,rfl,hn⟩
 unfold ZkT
 rcases Xag n 12 with h1|h1
 ·rw[Zd (by omega),Zb ⟨by omega,by omega⟩,Xab]
  by_cases q:p.getD n 0=0
  ·right
   rw[Zu q,Zf (by omega) (by omega)]
   exact⟨_,rfl,Or.inr ⟨n,h1,q,rfl⟩⟩
  ·left
   rw[Zo q,Zf (by omega) (by omega)]
   exact⟨_,rfl,⟨n+1,by simp,by omega⟩,by omega⟩
 ·right
  rw[Zc (by omega)]
  exact⟨_,rfl,Or.inl rfl⟩
abbrev SR:=Int×Int×List Bool×Zx×List ZB
def Zgh (S:List ZB):Prop:=∀s∈S,s.2.2.2.1.length≤12
structure SeaOk (L:Zx) (S:List ZB) (fuel:Int) (L':Zx) (S':List ZB) (f':Int):Prop where
 fu:0≤f'∧f'≤fuel
 good:Zb1 L'
 len:L'.length+S.length=L.length+S'.length
 top:S'.length≤1000
 few:Zgh S'
theorem ZIS {D:List Int} {L:Zx} {S:List ZB} {f:Int} (hD:Zer D) (hL:Zb1 L) (hl:L.length≤2000) (hS:S.length<1000) (hw:Zgh S) (hf:0≤f) :
  ∃r,Zdz f D L S=some r∧SeaOk L S f r.2.1 r.2.2 r.1:=by
 have hd:=Zi4 hD
 have hlo:=ZFg hD
 have hc:Zi3 (ZbO D)=(true,1,ZbS (Zcl (ZbO D))):=by
  unfold Zi3
  rw[hlo,Xad (show (ZbO D).length≤40 by unfold ZbO;rw[Xap];omega)]
  rfl
 have hcon:ZA (ZbS (Zcl (ZbO D)),1)=true:=ZAl (fun x hx=>(Zhq hlo).1 x ((Zqn hlo x).1 hx)) (ZwD hlo)
 have hlf:=Zqm (ZbO D)
 have hol:(ZbS (Zcl (ZbO D))).length≤12:=by unfold ZbS;rw[Xap];exact hlf
 refine⟨(f,L++[(ZbS (Zcl (ZbO D)),1)],S++[((7:Int),((0:Int),((0:Int),(ZbS (Zcl (ZbO D)),(1:Int)))))]),?_,?_⟩
 ·unfold Zdz
  refine(Zbi (f:=ZcZ f D L S) D 0 (fun x=>0 - x) [] (fun _=>(f,L++[(ZbS (Zcl (ZbO D)),1)],S++[((7:Int),((0:Int),((0:Int),(ZbS (Zcl (ZbO D)),(1:Int)))))])) (fun i out hi ho=>?_) ?_)
  ·have:=ZG.1 (hD.1 _ (ZF (l:=D) (i:=i) (d:=0) hi))
   unfold ZcZ
   dsimp only
   rw[Zd (by omega),Zb ⟨by omega,by omega⟩,Xab,Zf (by omega) (by omega),Zb (by simp only[Zl,Xak,Xal];simp at ho;omega),Zf (by omega) (by omega)]
  ·unfold ZcZ ZiB
   dsimp only
   rw[Zc (by omega),Xao,show D.map (fun x=>0 - x)=ZbO D from rfl,ZlB _ (by unfold ZbO;rw[Xap];omega),Ze,hc]
   dsimp only
   rw[Zb (by simp[Zl];omega),Zb (by simp[Zl];omega)]
   rfl
 ·refine⟨⟨hf,Xas _⟩,fun c hcm=>?_,by simp;omega,by simp;omega,fun s hs=>?_⟩
  ·rcases List.mem_append.1 hcm with h|h
   ·exact hL c h
   ·rw[Xaj]at h
    subst h
    exact⟨hcon,by (try dsimp only)<;>omega⟩
  ·rcases List.mem_append.1 hs with h|h
   ·exact hw s h
   ·rw[Xaj]at h
    subst h
    exact hol
theorem SeaOk.trans {L L' L'':Zx} {S S' S'':List ZB} {f f' f'':Int} (a:SeaOk L S f L' S' f') (b:SeaOk L' S' f' L'' S'' f''):SeaOk L S f L'' S'' f'':=
 ⟨⟨b.fu.1,by have:=a.fu;have:=b.fu;omega⟩,b.good,by have:=a.len;have:=b.len;omega,b.top,b.few⟩
theorem ZCu {D:List Int} {L:Zx} {S:List ZB} {fuel:Int} {rec_:Int→List Int→Zx→List ZB→Option SR}
  (hrec:∀(l:Int) (L':Zx) (S':List ZB) (f':Int),Zer (D++[l])→Zb1 L'→L'.length≤400+S'.length→S'.length≤1000→Zgh S'→(0≤f'∧f'≤2000)→∃r,rec_ f' (D++[l]) L' S'=some r∧SeaOk L' S' f' r.2.2.2.1 r.2.2.2.2 r.2.1)
  (hD:Zer D) (hL:Zb1 L) (hl:L.length≤400+S.length) (hS:S.length≤1000) (hw:Zgh S) (hf:0≤fuel∧fuel≤2000):∃r,Zbv rec_ fuel D L S=some r∧SeaOk L S fuel r.2.2.2.1 r.2.2.2.2 r.2.1:=by
 have hd:=Zi4 hD
 have same:∀f,(0≤f∧f≤fuel)→SeaOk L S fuel L S f:=fun f h=>⟨h,hL,by omega,hS,hw⟩
 unfold Zbv
 by_cases q1:fuel=0
 ·exact⟨_,by rw[Zu q1],same fuel ⟨hf.1,Xas _⟩⟩
 rw[Zo q1]
 by_cases q2:1000≤(S.length:Int)
 ·exact⟨_,by rw[Zd q2],same fuel ⟨hf.1,Xas _⟩⟩
 rw[Zc q2,Zf (by omega) (by omega),Zb ⟨by omega,by simp only[Zl];omega,rfl⟩]
 obtain⟨p1,p2,p3,p4,p5⟩:=ZqE hD D.length (Nat.le_refl _)
 have tail:∃r,Zco fuel D L S rec_ (Zft D D.length)=some r∧SeaOk L S fuel r.2.2.2.1 r.2.2.2.2 r.2.1:=by
  unfold Zco
  obtain⟨⟨i,out⟩,e1,⟨t1,t2,t3⟩,hc⟩:=ZCj hL (by omega) p1
  dsimp only at t1 t2 t3 hc
  rw[e1,Ze]
  dsimp only
  rcases hc with⟨rfl,hk⟩|⟨h0,hk⟩
  ·obtain⟨r5,e5,h⟩:=ZxR t1
   rw[Zc (by omega),e5,Ze]
   by_cases q5:r5=0
   ·rw[Zu q5]
    have h12:=t1.1
    refine ZbX (f:=ZcQ fuel L S (-1,out)) (fun s:Int×List Bool=>∃n:Nat,s.1=n∧n≤12∧s.2.length=n) (fun s=>12 - s.1.toNat) (fun r=>SeaOk L S fuel r.2.2.2.1 r.2.2.2.2 r.2.1) ?_ _ ⟨0,rfl,by omega,rfl⟩
    rintro⟨s,o⟩ ⟨n,hs,hn,ho⟩
    dsimp only at hs ho
    subst hs
    unfold ZcQ
    dsimp only
    rcases Xag n 12 with h1|h1
    ·left
     rw[Zd (by omega),Zb ⟨by omega,by omega⟩,Zb (by simp[Zl];omega),Zf (by omega) (by omega)]
     exact⟨_,rfl,⟨n+1,by simp,by omega,by simp;omega⟩,by (try dsimp only)<;>omega⟩
    ·right
     rw[Zc (by omega)]
     exact⟨_,rfl,same _ ⟨by (try dsimp only)<;>omega,by (try dsimp only)<;>omega⟩⟩
   ·obtain⟨k,hk12,hk0,rfl⟩:=h.resolve_left q5
    rw[Zo q5,Zf (by omega) (by omega)]
    have hvar:∀l:Int,vof l=(k:Int)+1→∀i,i<D.length→vof (D.getD i 0)≠vof l:=fun l hl i hi=>by
     rw[hl]
     exact p3 k (t3 k hk0) i hi
    refine ZbX (f:=Zej D ((k:Int)+1) rec_) (fun s:Int×Int×Zx×List ZB=>∃n:Nat,s.1=n∧n≤2∧SeaOk L S fuel s.2.2.1 s.2.2.2 s.2.1) (fun s=>2 - s.1.toNat) (fun r=>SeaOk L S fuel r.2.2.2.1 r.2.2.2.2 r.2.1) ?_ _ ⟨0,rfl,by omega,same _ ⟨by (try dsimp only)<;>omega,by (try dsimp only)<;>omega⟩⟩
    rintro⟨s,f,L',S'⟩ ⟨n,hs,hn,hx⟩
    dsimp only at hs hx
    subst hs
    unfold Zej
    dsimp only
    have hlen:=hx.len
    have htop:=hx.top
    have hfu:=hx.fu
    rcases Xag n 2 with h1|h1
    ·have hlit:∃l,[((k:Int)+1),(0 - ((k:Int)+1))].getD n 0=l∧vof l=(k:Int)+1∧Zbe l=true:=by
      have:n=0∨n=1:=by omega
      rcases this with rfl|rfl
      ·exact⟨(k:Int)+1,rfl,by unfold vof;omega,ZG.2 ⟨by omega,by omega,by omega⟩⟩
      ·exact⟨0 - ((k:Int)+1),rfl,by unfold vof;omega,ZG.2 ⟨by omega,by omega,by omega⟩⟩
     obtain⟨l,el,hv,hli⟩:=hlit
     obtain⟨r8,e8,x8⟩:=hrec l L' S' f (ZCL hD hli (hvar l hv)) hx.good (by omega) htop hx.few ⟨by omega,by omega⟩
     rw[Zd (by simp;omega),Zb ⟨by omega,by simp;omega⟩,Zb (by simp[Zl];omega),Zb (by simp[Zl];omega),Xao,Xab,el,e8,Ze]
     unfold Zhx
     dsimp only
     by_cases q:r8.1=2
     ·left
      rw[Zdu q,Zf (by omega) (by omega)]
      exact⟨_,rfl,⟨n+1,by simp,by omega,hx.trans x8⟩,by (try dsimp only)<;>omega⟩
     ·right
      rw[Zd2 q]
      exact⟨_,rfl,hx.trans x8⟩
    ·right
     rw[Zc (by simp;omega)]
     unfold Zhw
     dsimp only
     by_cases q3:1000≤(S'.length:Int)
     ·rw[Zd q3]
      exact⟨_,rfl,hx⟩
     ·obtain⟨r,e,hr⟩:=ZIS (f:=f) hD hx.good (by omega) (by omega) hx.few hfu.1
      rw[Zc q3,e,Ze]
      exact⟨_,rfl,hx.trans hr⟩
  ·obtain⟨r,e,hr⟩:=ZIS (f:=fuel - 1) hD hL (by omega) (by omega) hw (by omega)
   rw[Zd h0,e,Ze]
   exact⟨_,rfl,(same (fuel - 1) ⟨by omega,by omega⟩).trans hr⟩
 obtain⟨r,er,hr⟩:=tail
 refine⟨r,?_,hr⟩
 refine ZL (f:=ZdA fuel D L S rec_) (fun s:Int×List Int=>∃n:Nat,s.1=n∧n≤D.length∧s.2=Zft D n) (fun s=>D.length - s.1.toNat) (fun _=>r) ?_ _ ⟨0,rfl,Nat.zero_le _,rfl⟩
 rintro⟨s,o⟩ ⟨n,hs,hn,ho⟩
 dsimp only at hs ho ⊢
 subst hs
 subst ho
 unfold ZdA
 dsimp only
 rcases Xag n D.length with h1|h1
 ·left
  have hli:=hD.1 _ (ZF (l:=D) (i:=n) (d:=0) h1)
  refine⟨((n:Int)+1,Zft D (n+1)),?_,⟨n+1,by simp,by omega,rfl⟩,by (try dsimp only)<;>omega,rfl⟩
  rw[Zd (by omega),Zb ⟨by omega,by omega⟩,Xab,Zp1 hli (ZqE hD n hn).1,Ze,Zf (by omega) (by omega)]
  rfl
 ·right
  have:n=D.length:=by omega
  subst this
  rw[Zc (by omega),er]
  rfl
theorem ZA9:∀(n:Nat) (D:List Int) (L:Zx) (S:List ZB) (fuel:Int),Zer D→Zb1 L→L.length≤400+S.length→S.length≤1000→Zgh S→(0≤fuel∧fuel≤2000)→13≤n+D.length→∃r,Zba n fuel D L S=some r∧SeaOk L S fuel r.2.2.2.1 r.2.2.2.2 r.2.1
 |0,D,L,S,fuel,hD,_,_,_,_,_,hn=>by have:=Zi4 hD;omega
 |n+1,D,L,S,fuel,hD,hL,hl,hS,hw,hf,hn=>by
  show ∃r,Zbv (Zba n) fuel D L S=some r∧_
  exact ZCu (fun l L' S' f' h1 h2 h3 h4 h5 h6=>ZA9 n (D++[l]) L' S' f' h1 h2 h3 h4 h5 h6 (by rw[Xan,XaC];omega)) hD hL hl hS hw hf
theorem ZIw (D:List Int) (f:Int) (L:Zx):ZlI f D L=Zbv (Zba 64) f D L []:=by
 unfold ZlI Zbv
 have e1:ZmI D=fun r5=>Zej D r5 (Zba 64):=rfl
 have e2:ZiC f D L=Zco f D L [] (Zba 64):=by
  unfold ZiC Zco
  rw[e1]
  rfl
 have e3:ZiD f D L=ZdA f D L [] (Zba 64):=by
  unfold ZiD ZdA
  rw[e2]
 rw[e3]
 rfl
end Go.AE.Y
namespace Go.AE.Y
open Go Go.AE
theorem ZJ4 (r:List Int→Int→Bool→Zx→Option VR) (D:List Int) (f:Int) (m:Bool) (L:Zx):Zfu r D f m L=ZZ (Z6 64) D f m L []:=by
 unfold Zfu ZZ
 have e1:ZkJ D=fun r4=>Zdc D r4 (Z6 64):=rfl
 have e2:ZfW D f m L=Zbu D f m L [] (Z6 64):=by
  unfold ZfW Zbu
  rw[e1]
  rfl
 have e3:ZfX D f m L=Zcu D f m L [] (Z6 64):=by
  unfold ZfX Zcu
  rw[e2]
 rw[e3]
 rfl
theorem ZsR (a:Zx) (h:a.length≤1048576):Zbg a=some a:=by
 unfold Zbg
 refine ZAU (fun e=>by rw[e]) ?_
 rw[Zb (by simp only[Xal,Zl];omega),Xao]
end Go.AE.Y
namespace Go.AE.Y
open Go Go.AE
set_option maxHeartbeats 400000
theorem ZxP {α β:Type} {p:Prop} [Decidable p] {m:Option α} {f:α→Option β}:(rq p m).bind f=rq p (m.bind f):=by
 unfold rq
 split<;>rfl
theorem ZA4 {α:Type} {p:Prop} [Decidable p] {m:Option α} (h:¬p):rq p m=none:=if_neg h
theorem ZDb {α:Type} {p:Prop} [Decidable p] {m m':Option α} (h:p→m=m'):rq p m=rq p m':=by
 unfold rq
 split
 ·exact h ‹_›
 ·rfl
theorem ZIL {c:List (Int×Int)×Int} {p:List Int} (hc:ZA c=true) (hl:c.1.length≤1048576) (hp:OkP p) (h0:0≤ZdJ c.1 p c.1.length - c.2):ZhN c p=Zds c p:=by
 unfold ZhN Zds
 rw[ZpC hc hl hp,Zmj hc hl hp,Ze,Ze]
 refine ZyJ (fun _=>True) ?_ (fun _ _ _ _=>trivial) trivial
 rintro⟨i,o⟩ -
 unfold Zg7 ZdH
 dsimp only
 by_cases q:i<(c.1.length:Int)
 ·rw[Zd q,Zd q,Zd h0]
  refine ZDb fun hi=>?_
  have l1:=((Zdp hc).2 i.toNat (by omega)).1
  rw[ZtD l1 hp,Ztp l1 hp,Ze,Ze]
  by_cases z:unZ (c.1.getD i.toNat (0,0)).2 p=0
  ·rw[Zu z,Zu z,Zb hi]
   by_cases y:ZdJ c.1 p c.1.length - c.2<(c.1.getD i.toNat (0,0)).1
   ·rw[Zd y,Zd y,Zb hi]
   ·rw[Zc y,Zc y]
  ·rw[Zo z,Zo z]
 ·rw[Zc q,Zc q]
theorem ZMA (i:Int) (r:List Int) (s:Bool×Int×List Int):ZdS i r s=Zem i r s:=by
 obtain⟨m,k,o⟩:=s
 unfold ZdS Zem ZgU
 dsimp only
 by_cases q:k<(r.length:Int)
 ·rw[Zd q,Zd q]
  refine ZDb fun hi=>?_
  by_cases z:0<r.getD k.toNat 0
  ·rw[Zd z,Zd z,ZxP,ZxP,Ze]
  ·rw[Zc z,Zc z,ZxP,ZxP,ZxP,Ze]
 ·rw[Zc q,Zc q]
theorem ZMz {L:Zx} (hL:Zb1 L) {s:Bool×Int×List Int} (hp:OkP s.2.2):ZdR L s=Zc1 L s:=by
 obtain⟨m,i,o⟩:=s
 dsimp only at hp
 unfold ZdR Zc1
 dsimp only
 by_cases q:i<(L.length:Int)
 ·rw[Zd q,Zd q]
  refine ZDb fun hi=>?_
  obtain⟨g1,g2⟩:=hL _ (ZF (l:=L) (i:=i.toNat) (d:=([],0)) (by omega))
  rw[ZpC g1 g2 hp,Zmj g1 g2 hp,Ze,Ze]
  by_cases z:ZdJ (L.getD i.toNat ([],0)).1 o (L.getD i.toNat ([],0)).1.length - (L.getD i.toNat ([],0)).2<0
  ·rw[Zd z,Zd z]
  ·rw[Zc z,Zc z,Zb hi,ZIL g1 g2 hp (by omega)]
   congr 1
   funext r
   exact congrArg (fun f=>loop f (m,(0:Int),o)) (funext fun s=>ZMA i r s)
 ·rw[Zc q,Zc q]
theorem ZMy {L:Zx} (hL:Zb1 L) (hl:L.length≤1048576) {s s':Bool×Int×List Int} (hp:OkP s.2.2) (h:Zc1 L s=some (.inl s')):OkP s'.2.2:=by
 obtain⟨m,i,o⟩:=s
 dsimp only at hp
 unfold Zc1 at h
 dsimp only at h
 by_cases q:i<(L.length:Int)
 ·rw[Zd q]at h
  by_cases hi:0≤i∧i<(L.length:Int)
  ·rw[Zb hi]at h
   obtain⟨g1,g2⟩:=hL _ (ZF (l:=L) (i:=i.toNat) (d:=([],0)) (by omega))
   rw[Zmj g1 g2 hp,Ze]at h
   by_cases z:ZdJ (L.getD i.toNat ([],0)).1 o (L.getD i.toNat ([],0)).1.length - (L.getD i.toNat ([],0)).2<0
   ·rw[Zd z]at h
    cases h
   ·obtain⟨r9,e9,k1,k2⟩:=Zwy g1 g2 hp
    obtain⟨md,out,e3,u1,_⟩:=ZJc hp k1 k2 m (i3:=i) ⟨by omega,by omega⟩
    rw[Zc z,e9,Ze,e3]at h
    cases h
    exact u1
  ·rw[ZA4 hi]at h
   cases h
 ·rw[Zc q]at h
  cases h
theorem ZxO {L:Zx} {p:List Int} (hL:Zb1 L) (hl:L.length≤1048576) (hp:OkP p):Zdy L p=Zda L p:=by
 unfold Zdy Zda
 rw[Zwk (by have:=hp.1;omega),Ze]
 refine ZyJ (fun s:Bool×List Int=>OkP s.2) ?_ ?_ hp
 ·rintro⟨m,o⟩ ho
  dsimp only at ho
  unfold ZfL Zfp
  dsimp only
  cases m with
  |false=>rw[cff,cff]
  |true=>
   rw[ctt,ctt]
   exact ZyJ (fun s:Bool×Int×List Int=>OkP s.2.2) (fun s hs=>ZMz hL hs) (fun s s' hs h=>ZMy hL hl hs h) ho
 ·rintro⟨m,o⟩ s' ho h
  dsimp only at ho
  unfold Zfp at h
  dsimp only at h
  cases m with
  |false=>rw[cff]at h;cases h
  |true=>
   rw[ctt]at h
   obtain⟨r,e,h2|h2⟩:=ZJb hL hl ho
   ·obtain⟨md,out,rfl,⟨u1,_⟩,_⟩:=h2
    rw[e]at h
    cases h
    exact u1
   ·obtain⟨i,out,rfl,_⟩:=h2
    rw[e]at h
    cases h
end Go.AE.Y
namespace Go.AE.Y
open Go Go.AE
set_option maxHeartbeats 400000
def ZD5 (D:List Int):Zx:=[(ZbS (Zcl (ZbO D)),1)]
def ZD4 (D:List Int):List ZB:=[((7:Int),((0:Int),((0:Int),(ZbS (Zcl (ZbO D)),(1:Int)))))]
theorem ZAL {D:List Int} (hD:Zer D):Zi3 (ZbO D)=(true,1,ZbS (Zcl (ZbO D))):=by
 have hd:=Zi4 hD
 unfold Zi3
 rw[ZFg hD,Xad (show (ZbO D).length≤40 by unfold ZbO;rw[Xap];omega)]
 rfl
theorem ZKQ {D:List Int} {L:Zx} {S:List ZB} (hD:Zer D) (hl:L.length≤2000) (hS:S.length<1000) (f:Int) (m:Bool) :
  Zdb D f m L S=some (L++ZD5 D,S++ZD4 D):=by
 have hd:=Zi4 hD
 have hlf:=Zqm (ZbO D)
 have hol:(ZbS (Zcl (ZbO D))).length≤12:=by unfold ZbS;rw[Xap];exact hlf
 unfold Zdb
 refine(Zbi (f:=ZbZ D L S) D 0 (fun x=>0 - x) [] (fun _=>(L++ZD5 D,S++ZD4 D)) (fun i out hi ho=>?_) ?_)
 ·have:=ZG.1 (hD.1 _ (ZF (l:=D) (i:=i) (d:=0) hi))
  unfold ZbZ
  dsimp only
  rw[Zd (by omega),Zb ⟨by omega,by omega⟩,Xab,Zf (by omega) (by omega),Zb (by simp only[Zl,Xak,Xal];simp at ho;omega),Zf (by omega) (by omega)]
 ·unfold ZbZ Zgp Zgq
  dsimp only
  rw[Zc (by omega),Xao,show D.map (fun x=>0 - x)=ZbO D from rfl,Zlj _ (by unfold ZbO;rw[Xap];omega),Ze,ZAL hD]
  dsimp only
  rw[Zb (by simp[Zl];omega),ZEh _ (by (try dsimp only)<;>omega),Ze,Zb (by simp[Zl];omega)]
  rfl
theorem ZIR {D:List Int} {L:Zx} {S:List ZB} (hD:Zer D) (hl:L.length≤2000) (hS:S.length<1000) (f:Int) :
  Zdz f D L S=some (f,L++ZD5 D,S++ZD4 D):=by
 have hd:=Zi4 hD
 have hlf:=Zqm (ZbO D)
 have hol:(ZbS (Zcl (ZbO D))).length≤12:=by unfold ZbS;rw[Xap];exact hlf
 unfold Zdz
 refine(Zbi (f:=ZcZ f D L S) D 0 (fun x=>0 - x) [] (fun _=>(f,L++ZD5 D,S++ZD4 D)) (fun i out hi ho=>?_) ?_)
 ·have:=ZG.1 (hD.1 _ (ZF (l:=D) (i:=i) (d:=0) hi))
  unfold ZcZ
  dsimp only
  rw[Zd (by omega),Zb ⟨by omega,by omega⟩,Xab,Zf (by omega) (by omega),Zb (by simp only[Zl,Xak,Xal];simp at ho;omega),Zf (by omega) (by omega)]
 ·unfold ZcZ ZiB
  dsimp only
  rw[Zc (by omega),Xao,show D.map (fun x=>0 - x)=ZbO D from rfl,ZlB _ (by unfold ZbO;rw[Xap];omega),Ze,ZAL hD]
  dsimp only
  rw[Zb (by simp[Zl];omega),Zb (by simp[Zl];omega)]
  rfl
theorem ZNa {p:List Int} {r:Int×Bool×List Bool} {q:Int} (h1:Zi6 p=some r) (h2:ZjU p=some q):q=r.1:=by
 unfold Zi6 at h1
 unfold ZjU at h2
 refine ZC2 (fun (s:Int×List Bool) (t:Int)=>s.1=t) (fun r q=>q=r.1) ?_ rfl h1 h2
 rintro⟨i,o⟩ t rfl a b ha hb
 unfold Zlr at ha
 unfold ZkT at hb
 dsimp only at ha hb
 by_cases c1:i<(p.length:Int)
 ·rw[Zd c1]at ha hb
  by_cases c2:0≤i∧i<(p.length:Int)
  ·rw[Zb c2]at ha hb
   by_cases c3:p.getD i.toNat 0=0
   ·rw[Zu c3]at ha hb
    by_cases c4:i64 (i+1)
    ·rw[Zb c4]at ha hb
     cases ha
     cases hb
     exact Or.inr ⟨_,_,rfl,rfl,rfl⟩
    ·rw[ZA4 c4]at hb
     cases hb
   ·rw[Zo c3]at ha hb
    by_cases c5:o.length+[(decide ((0:Int)<(p.getD i.toNat 0)))].length≤Zl
    ·rw[Zb c5]at ha
     by_cases c4:i64 (i+1)
     ·rw[Zb c4]at ha hb
      cases ha
      cases hb
      exact Or.inl ⟨_,_,rfl,rfl,rfl⟩
     ·rw[ZA4 c4]at hb
      cases hb
    ·rw[ZA4 c5]at ha
     cases ha
  ·rw[ZA4 c2]at hb
   cases hb
 ·rw[Zc c1]at ha hb
  unfold ZpS at ha
  cases ha
  cases hb
  exact Or.inr ⟨_,_,rfl,rfl,rfl⟩
end Go.AE.Y
namespace Go.AE.Y
open Go Go.AE
set_option maxHeartbeats 400000
def ZkZ (c:List (Int×Int)×Int):Int:=(c.1.map (fun t=>t.1)).sum
def ZpV (c:List (Int×Int)×Int):List (Int×Int)×Int:=(c.1.map (fun t=>(t.1,0 - t.2)),max 0 (ZkZ c - c.2+1))
def ZQH (L:Zx):Prop:=∀q,OkP q→¬ZQZ L q
def ZQ3 (c:List (Int×Int)×Int):ZB:=(7,(0,(0,c)))
inductive RupExt (L:Zx) (S:List ZB):Zx→List ZB→Prop where
 |refl:RupExt L S L S
 |snoc {L':Zx} {S':List ZB} {c:List (Int×Int)×Int}:RupExt L S L' S'→ZA c=true→c.1.length≤12→ZQH (L'++[ZpV c])→RupExt L S (L'++[c]) (S'++[ZQ3 c])
theorem RupExt.trans {L L' L'':Zx} {S S' S'':List ZB} (a:RupExt L S L' S') (b:RupExt L' S' L'' S''):RupExt L S L'' S'':=by
 induction b with
 |refl=>exact a
 |snoc _ h1 h2 h3 ih=>exact ih.snoc h1 h2 h3
end Go.AE.Y
namespace Go.AE.Y
open Go Go.AE
set_option maxHeartbeats 400000
theorem ZK1 {v:List Bool}:∀l:List (Int×Int),(∀t∈l,t.2≠0)→Zcy v (l.map (fun t=>(t.1,0 - t.2)))+Zcy v l=(l.map (fun t=>t.1)).sum
 |[],_=>rfl
 |t::l,h=>by
  have ih:=ZK1 (v:=v) l (fun x hx=>h x (Xaq _ hx))
  have h0:=h t Xav
  rw[XaV,XaV,XbN,ZeV,ZeV]
  dsimp only
  rw[Zs1 h0]
  cases ZT v t.2 with
  |true=>rw[ctt,Xbm,cff];omega
  |false=>rw[cff,Xbc,ctt];omega
theorem ZPX {c:Z9} (h:ZA c=true):∀t∈c.1,t.2≠0:=fun t ht=>(ZG.1 (Zqi h t ht).1.2).1
theorem ZOS {c:Z9} {v:List Bool} (h:ZA c=true):ZR v (ZpV c) = !ZR v c:=by
 have h1:=ZK1 (v:=v) c.1 (ZPX h)
 have h2:0≤Zcy v (c.1.map (fun t=>(t.1,0 - t.2))):=Zxc (fun t ht=>by
  obtain⟨x,hx,rfl⟩:=XaG.1 ht
  exact(Zqi h x hx).2)
 unfold ZR ZpV ZkZ
 dsimp only
 rw[Xbp,XaY,Xah,decide_eq_false_iff_not]
 omega
theorem ZFR {c:Z9} (h:ZA c=true):0≤ZkZ c∧ZkZ c≤1000*c.1.length:=by
 have key:∀l:List (Int×Int),(∀t∈l,okS t∧1≤t.1)→0≤(l.map (fun t=>t.1)).sum∧(l.map (fun t=>t.1)).sum≤1000*l.length:=by
  intro l
  induction l with
  |nil=>intro _;exact⟨Xas _,Xas _⟩
  |cons t l ih=>
   intro ht
   obtain⟨h1,h2⟩:=ih (fun x hx=>ht x (Xaq _ hx))
   obtain⟨⟨h3,_⟩,h4⟩:=ht t Xav
   rw[XaV,XbN,Xak]
   omega
 exact key c.1 (Zqi h)
theorem ZAm {c:Z9} (h:ZA c=true):c.1.length≤12:=by
 have hc:=h
 unfold ZA at h
 simp only[Xaf,Xah,Xar,Xaz]at h
 have key:∀i,i<c.1.length→(i:Int)+1≤vof (c.1.getD i (0,0)).2:=by
  intro i
  induction i with
  |zero=>
   intro hi
   have:=Zi9 ((Zdp hc).2 0 hi).1
   omega
  |succ i ih=>
   intro hi
   have h1:=ih (by omega)
   have h2:=h.1 (i+1) hi
   unfold ZfP at h2
   simp only[Xaf,XbU,Xah,beq_iff_eq,XbT]at h2
   have h3:=h2.2.2
   omega
 rcases Xag 12 c.1.length with q|q
 ·have h1:=key 12 q
  have h2:=Zi9 ((Zdp hc).2 12 q).1
  omega
 ·exact q
theorem ZK0 {c:Z9} (h:ZA c=true):ZA (ZpV c)=true:=by
 have ht:=ZFR h
 have h12:=ZAm h
 have hb:=(Zdp h).1
 unfold ZA at h ⊢
 simp only[Xaf,Xah,Xar,Xaz]at h ⊢
 refine⟨fun i hi=>?_,by show 0≤max 0 (ZkZ c - c.2+1);omega,by show max 0 (ZkZ c - c.2+1)≤20000;omega⟩
 have hi':i<c.1.length:=by
  have:(ZpV c).1.length=c.1.length:=Xap ..
  omega
 have e:∀j,j<c.1.length→(ZpV c).1.getD j (0,0)=((c.1.getD j (0,0)).1,0 - (c.1.getD j (0,0)).2):=fun j hj=>ZnE c.1 (fun t=>(t.1,0 - t.2)) j (0,0) (0,0) hj
 have h1:=h.1 i hi'
 unfold ZfP at h1 ⊢
 rw[e i hi']
 have hv:∀x:Int,vof (0 - x)=vof x:=fun x=>by unfold vof;omega
 have hl:∀x:Int,Zbe (0 - x)=Zbe x:=fun x=>by
  rw[Xbp,ZG,ZG]
  omega
 simp only[hv,hl]
 by_cases q:i=0
 ·subst q
  exact h1
 ·rw[e (i - 1) (by omega)]
  simp only[hv]
  exact h1
def ZBx:List Int:=List.replicate 12 0
theorem ZGn:OkP ZBx:=⟨rfl,fun j=>Or.inl (ZEj j)⟩
noncomputable def Zvq (L:Zx) (c:Z9):Bool:=decide (0≤((Zda (L++[ZpV c]) ZBx).getD (-1,[])).1)
theorem ZCS {L:Zx} {c:Z9} (hL:Zb1 L) (hc:ZA c=true):Zb1 (L++[ZpV c]):=fun x hx=>by
 rcases List.mem_append.1 hx with h|h
 ·exact hL x h
 ·rw[Xaj]at h
  rw[h]
  have h12:=ZAm (ZK0 hc)
  exact⟨ZK0 hc,by omega⟩
theorem ZNx {L:Zx} {c:Z9} (hL:Zb1 L) (hl:L.length≤1000000) (hc:ZA c=true):∃out,Zda (L++[ZpV c]) ZBx=some out∧Zvq L c=decide (0≤out.1):=by
 obtain⟨r,e,_⟩:=Zj7 (ZCS hL hc) (by rw[Xan,XaC];omega) ZGn
 refine⟨r,e,?_⟩
 unfold Zvq
 rw[e]
 rfl
theorem ZNy {L:Zx} {c:Z9} {v:List Bool} (hL:Zb1 L) (hl:L.length≤1000000) (hc:ZA c=true) (h:Zvq L c=true) (hv:ZeC L v):ZR v c=true:=by
 obtain⟨r,e,_,hr⟩:=Zj7 (ZCS hL hc) (by rw[Xan,XaC];omega) ZGn
 unfold Zvq at h
 rw[e]at h
 have h:0≤r.1:=of_decide_eq_true h
 rcases hr with hr|hr
 ·omega
 ·have hno:=hr.2 v (fun j hj=>absurd (ZEj j) hj)
  cases q:ZR v c with
  |true=>rfl
  |false=>
   exfalso
   refine hno (fun x hx=>?_)
   rcases List.mem_append.1 hx with h1|h1
   ·exact hv x h1
   ·rw[Xaj]at h1
    rw[h1,ZOS hc,q]
    rfl
end Go.AE.Y
namespace Go.AE.Y
open Go Go.AE
set_option maxHeartbeats 400000
abbrev DbT:=Zx×List Bool
def Zlg (d:DbT) (i:Int):Z9:=d.1.getD i.toNat ([],0)
def ZdX (d:DbT) (i:Int):Bool:=(decide (0≤i)&&decide (i<d.1.length)) && !(d.2.getD i.toNat false)
def Zr3 (d:DbT):Nat→Zx
 |0=>[]
 |n+1=>Zr3 d n++(bif d.2.getD n false then[]else[d.1.getD n ([],0)])
def Zog (d:DbT):Zx:=Zr3 d d.1.length
def ZEb (s:ZB):Bool:=decide (s.2.2.2.1=[])&&decide (s.2.2.2.2=0)
def Zjv (s:ZB):Bool:=if s.1=1∨s.1=2∨s.1=3∨s.1=5 then ZEb s else if s.1=4∨s.1=6∨s.1=8 then ZEb s&&decide (s.2.2.1=0)else if s.1=7 then decide (s.2.1=0)&&decide (s.2.2.1=0)else false
noncomputable def ZbP (d:DbT) (s:ZB):ZoC:=
 if s.1=6 then axB s.2.1
 else if s.1=7 then(bif ZA s.2.2.2&&Zvq (Zog d) s.2.2.2 then Zvk s.2.2.2 else noC)
 else bif ZdX d s.2.1 then
  (if s.1=1 then(bif ZdX d s.2.2.1 then ZuW (Zlg d s.2.1) (Zlg d s.2.2.1)else noC)
  else if s.1=2 then Zvg (Zlg d s.2.1) s.2.2.1
  else if s.1=3 then Zu3 (Zlg d s.2.1) s.2.2.1
  else if s.1=4 then ZA8 (Zlg d s.2.1)
  else ZwN (Zlg d s.2.1) s.2.2.1)
 else noC
noncomputable def ZfG (d:DbT) (s:ZB):Option DbT:=
 bif Zjv s then
  (if s.1=8 then(bif ZdX d s.2.1 then some (d.1,d.2.set s.2.1.toNat true)else none)
  else(bif (ZbP d s).1 then some (d.1++[ofR (ZbP d s)],d.2++[false])else none))
 else none
noncomputable def Zep:DbT→List ZB→Option DbT
 |d,[]=>some d
 |d,s::r=>(ZfG d s).bind fun d'=>Zep d' r
def Zel (l:Zx):DbT:=(l,List.replicate l.length false)
def byF (S:List ZB):List ZB:=S.filter (fun s=>decide (s.1≠8))
theorem ZAM (d:DbT):∀n,n≤d.1.length→∀c∈Zr3 d n,∃i,i<n∧d.1.getD i ([],0)=c
 |0,_=>fun c hc=>absurd hc XaE
 |n+1,hn=>fun c hc=>by
  unfold Zr3 at hc
  rcases List.mem_append.1 hc with h|h
  ·obtain⟨i,hi,e⟩:=ZAM d n (by omega) c h
   exact⟨i,by omega,e⟩
  ·cases hg:d.2.getD n false with
   |true=>rw[hg,ctt]at h;exact absurd h XaE
   |false=>rw[hg,cff,Xaj]at h;exact⟨n,by omega,h.symm⟩
theorem Zs0 (d:DbT):∀n,(Zr3 d n).length≤n
 |0=>Nat.le_refl _
 |n+1=>by
  have:=Zs0 d n
  unfold Zr3
  rw[Xan]
  cases d.2.getD n false with
  |true=>rw[ctt,Xal];omega
  |false=>rw[cff,XaC];omega
theorem ZAN {d:DbT} (h:Zb1 d.1):Zb1 (Zog d):=fun c hc=>by
 obtain⟨i,hi,rfl⟩:=ZAM d d.1.length (Nat.le_refl _) c hc
 exact h _ (ZF hi)
theorem ZhU {d:DbT} {i:Int} (h:ZdX d i=true):0≤i∧i.toNat<d.1.length∧Zlg d i∈d.1:=by
 unfold ZdX at h
 simp only[Xaf,Xah]at h
 have:i.toNat<d.1.length:=by omega
 exact⟨h.1.1,this,ZF this⟩
theorem ZPK {c:Z9} {k:Int} (h:(Zvg c k).1=true):ZA c=true∧1≤k∧ofR (Zvg c k)=Ztu c k∧ZA (ofR (Zvg c k))=true:=by
 unfold Zvg at h ⊢
 cases q:ZA c&&(decide (1≤k)&&decide (k≤1000))with
 |false=>rw[q,cff]at h;cases h
 |true=>
  rw[q,ctt]at h
  rw[ctt]
  simp only[Xaf,Xah]at q
  exact⟨q.1,q.2.1,ZGT h⟩
theorem ZPw {c:Z9} {k:Int} (h:(Zu3 c k).1=true):ZA c=true∧1≤k∧ofR (Zu3 c k)=Zu4 c k∧ZA (ofR (Zu3 c k))=true:=by
 unfold Zu3 at h ⊢
 cases q:ZA c&&(decide (1≤k)&&decide (k≤1000))with
 |false=>rw[q,cff]at h;cases h
 |true=>
  rw[q,ctt]at h
  rw[ctt]
  simp only[Xaf,Xah]at q
  exact⟨q.1,q.2.1,ZGT h⟩
theorem ZOG {c:Z9}:ZA c=true↔(∀i,i<c.1.length→Zbe (c.1.getD i (0,0)).2=true∧1≤(c.1.getD i (0,0)).1∧(c.1.getD i (0,0)).1≤1000)∧(c.1.Pairwise (fun x y=>vof x.2<vof y.2))∧0≤c.2∧c.2≤20000:=by
 constructor
 ·intro h
  obtain⟨h1,h2⟩:=Zdp h
  refine⟨h2,?_,h1⟩
  unfold ZA at h
  simp only[Xaf,Xah,Xar,Xaz]at h
  have step:∀i,i+1<c.1.length→vof (c.1.getD i (0,0)).2<vof (c.1.getD (i+1) (0,0)).2:=fun i hi=>by
   have h3:=h.1 (i+1) hi
   unfold ZfP at h3
   simp only[Xaf,XbU,Xah,beq_iff_eq,XbT]at h3
   have:=h3.2.2
   omega
  have far:∀k i,i+k+1<c.1.length→vof (c.1.getD i (0,0)).2<vof (c.1.getD (i+k+1) (0,0)).2:=by
   intro k
   induction k with
   |zero=>exact fun i hi=>step i hi
   |succ k ih=>
    intro i hi
    have a:=ih i (by omega)
    have b:=step (i+k+1) (by omega)
    rw[show i+(k+1)+1=i+k+1+1 by omega]
    omega
  rw[XaX]
  intro i j hi hj hij
  have:=far (j - i - 1) i (by omega)
  rw[show i+(j - i - 1)+1=j by omega]at this
  rwa [Xaa,Xaa,Xac hi,Xac hj]at this
 ·rintro⟨h1,h2,h3,h4⟩
  unfold ZA
  simp only[Xaf,Xah,Xar,Xaz]
  refine⟨fun i hi=>?_,h3,h4⟩
  obtain⟨a,b,e⟩:=h1 i hi
  unfold ZfP
  simp only[Xaf,XbU,Xah,beq_iff_eq]
  refine⟨a,⟨b,e⟩,?_⟩
  by_cases q:i=0
  ·exact Or.inl q
  ·right
   have:=XaX.1 h2 (i - 1) i (by omega) hi (by omega)
   rwa [Xaa,Xaa,Xac hi,Xac (show i - 1<c.1.length by omega)]
theorem ZhT {c:Z9}:ZA c=true↔(∀t∈c.1,Zbe t.2=true∧1≤t.1∧t.1≤1000)∧(c.1.Pairwise (fun x y=>vof x.2<vof y.2))∧0≤c.2∧c.2≤20000:=by
 rw[ZOG]
 refine and_congr_left (fun _=>⟨fun h t ht=>?_,fun h i hi=>h _ (ZF hi)⟩)
 obtain⟨i,hi,rfl⟩:=Xat.1 ht
 have:=h i hi
 rwa [Xaa,Xac hi]at this
theorem ZO3 {c:Z9} (h:ZA c=true):ZA (Zvr c)=true:=by
 obtain⟨h1,h2,h3,h4⟩:=ZhT.1 h
 rw[ZhT]
 unfold Zvr
 by_cases q:0<c.2
 ·rw[if_pos q]
  refine⟨fun t ht=>?_,XbW.2 (h2.imp (fun hab=>hab)),h3,h4⟩
  obtain⟨x,hx,rfl⟩:=XaG.1 ht
  have:=h1 x hx
  dsimp only
  exact⟨this.1,by omega,by omega⟩
 ·rw[if_neg q]
  exact⟨fun t ht=>absurd ht XaE,List.Pairwise.nil,h3,h4⟩
theorem ZIi {l:List (Int×Int)} {x:Int} (h:∀t∈l,1≤t.1):0≤Zgy l x:=by
 unfold Zgy
 induction l with
 |nil=>exact Xas _
 |cons t l ih=>
  have i1:=ih (fun y hy=>h y (Xaq _ hy))
  have:=h t Xav
  by_cases q:vof t.2=x
  ·rw[Xa5 (p:=fun t:Int×Int=>decide (vof t.2=x)) (Xad q),XaV,XbN]
   omega
  ·rw[Xa4 (p:=fun t:Int×Int=>decide (vof t.2=x)) (by rw[Xah];exact q)]
   exact i1
theorem ZNV {c:Z9} {x:Int} (h:ZA c=true):ZA (ZBL c x)=true:=by
 obtain⟨h1,h2,h3,h4⟩:=ZhT.1 h
 have:=ZIi (x:=x) (fun t ht=>(h1 t ht).2.1)
 rw[ZhT]
 unfold ZBL
 exact⟨fun t ht=>h1 t (XaQ.1 ht).1,h2.filter _,by dsimp only;omega,by dsimp only;omega⟩
theorem ZPu {l:Int} (h:Zbe l=true):ZA ([(1,l)],0)=true:=by
 rw[ZhT]
 refine⟨fun t ht=>?_,Xbe _ _,Xas _,by show (0:Int)≤20000;decide⟩
 rw[Xaj]at ht
 subst ht
 exact⟨h,by show (1:Int)≤1;decide,by show (1:Int)≤1000;decide⟩
def Ziu (s:ZB) (k:Nat):Prop:=if s.1=7 then True else if s.1=6 then False else(k:Int)=s.2.1∨(s.1=1∧(k:Int)=s.2.2.1)
theorem ZGs {d:DbT} {s:ZB} (hd:Zb1 d.1) (hl:d.1.length≤1000000) (h:(ZbP d s).1=true):ZA (ofR (ZbP d s))=true∧∀v,(∀k,k<d.1.length→Ziu s k→ZR v (d.1.getD k ([],0))=true)→ZR v (ofR (ZbP d s))=true:=by
 unfold ZbP at h ⊢
 by_cases k6:s.1=6
 ·rw[if_pos k6]at h ⊢
  unfold axB at h ⊢
  cases q:Zbe s.2.1 with
  |false=>rw[q,cff]at h;cases h
  |true=>rw[ctt];exact⟨ZPu q,fun v _=>ZOC⟩
 rw[if_neg k6]at h ⊢
 by_cases k7:s.1=7
 ·rw[if_pos k7]at h ⊢
  cases q:ZA s.2.2.2&&Zvq (Zog d) s.2.2.2 with
  |false=>rw[q,cff]at h;cases h
  |true=>
   rw[ctt]
   rw[Xaf]at q
   refine⟨q.1,fun v hv=>ZNy (ZAN hd) (by have:=Zs0 d d.1.length;unfold Zog;omega) q.1 q.2 (fun c hc=>?_)⟩
   obtain⟨i,hi,rfl⟩:=ZAM d d.1.length (Nat.le_refl _) c hc
   exact hv i hi (by unfold Ziu;rw[if_pos k7];trivial)
 rw[if_neg k7]at h ⊢
 have hr:∀k,Ziu s k↔((k:Int)=s.2.1∨(s.1=1∧(k:Int)=s.2.2.1)):=fun k=>by
  unfold Ziu
  rw[if_neg k7,if_neg k6]
 cases qa:ZdX d s.2.1 with
 |false=>rw[qa,cff]at h;cases h
 |true=>
  rw[qa,ctt]at h
  rw[ctt]
  obtain⟨a0,a1,a2⟩:=ZhU qa
  have ca:=(hd _ a2).1
  have ea:∀v,(∀k,k<d.1.length→Ziu s k→ZR v (d.1.getD k ([],0))=true)→ZR v (Zlg d s.2.1)=true:=fun v hv=>hv s.2.1.toNat a1 ((hr _).2 (Or.inl (by omega)))
  by_cases k1:s.1=1
  ·rw[if_pos k1]at h ⊢
   cases qb:ZdX d s.2.2.1 with
   |false=>rw[qb,cff]at h;cases h
   |true=>
    rw[qb,ctt]at h
    rw[ctt]
    obtain⟨b0,b1,b2⟩:=ZhU qb
    have cb:=(hd _ b2).1
    refine⟨?_,fun v hv=>ZMT ca cb (ea v hv) (hv s.2.2.1.toNat b1 ((hr _).2 (Or.inr ⟨k1,by omega⟩))) h⟩
    unfold ZuW at h ⊢
    rw[ca,cb,Xai,ctt]at h ⊢
    exact(ZyR h).2
  rw[if_neg k1]at h ⊢
  by_cases k2:s.1=2
  ·rw[if_pos k2]at h ⊢
   obtain⟨m1,m2,m3,m4⟩:=ZPK h
   exact⟨m4,fun v hv=>by rw[m3];exact ZNo m2 (ea v hv)⟩
  rw[if_neg k2]at h ⊢
  by_cases k3:s.1=3
  ·rw[if_pos k3]at h ⊢
   obtain⟨m1,m2,m3,m4⟩:=ZPw h
   exact⟨m4,fun v hv=>by rw[m3];exact ZM5 m2 (ea v hv)⟩
  rw[if_neg k3]at h ⊢
  by_cases k4:s.1=4
  ·rw[if_pos k4]
   unfold ZA8
   rw[ca,ctt]
   exact⟨ZO3 ca,fun v hv=>ZNz ca (ea v hv)⟩
  rw[if_neg k4]at h ⊢
  unfold ZwN at h ⊢
  cases q:ZA (Zlg d s.2.1)&&(decide (1≤s.2.2.1)&&decide (s.2.2.1≤12))with
  |false=>rw[q,cff]at h;cases h
  |true=>rw[ctt];exact⟨ZNV ca,fun v hv=>ZMM ca (ea v hv)⟩
structure ZHD (L cs:Zx) (by_:List ZB):Prop where
 len:cs.length=by_.length
 con:∀c∈cs,ZA c=true∧c.1.length≤1048576
 refs:∀j,j<cs.length→(by_.getD j zS).1≠8∧∀k,Ziu (by_.getD j zS) k→(by_.getD j zS).1≠7→k<L.length+j
 range:∀j,j<cs.length→(by_.getD j zS).1≠7→(by_.getD j zS).1≠6→0≤(by_.getD j zS).2.1∧((by_.getD j zS).1=1→0≤(by_.getD j zS).2.2.1)
 imp:∀j,j<cs.length→∀v,(∀k,k<L.length+j→Ziu (by_.getD j zS) k→ZR v ((L++cs).getD k ([],0))=true)→ZR v (cs.getD j ([],0))=true
theorem ZA7:∀(S:List ZB) (d d':DbT),Zb1 d.1→d.1.length+S.length≤1000000→Zep d S=some d'→∃cs,d'.1=d.1++cs∧ZHD d.1 cs (byF S)
 |[],d,d',_,_,h=>by
  have h:some d=some d':=h
  injection h with h
  subst h
  exact⟨[],(Xau _).symm,rfl,fun c hc=>absurd hc XaE,fun j hj=>absurd hj (Nat.not_lt_zero _),fun j hj=>absurd hj (Nat.not_lt_zero _),fun j hj=>absurd hj (Nat.not_lt_zero _)⟩
 |s::S,d,d',hd,hl,h=>by
  have h:(ZfG d s).bind (fun d'=>Zep d' S)=some d':=h
  rw[Xak]at hl
  cases hs:ZfG d s with
  |none=>rw[hs]at h;cases h
  |some d1=>
   rw[hs,Ze]at h
   unfold ZfG at hs
   cases hp:Zjv s with
   |false=>rw[hp,cff]at hs;cases hs
   |true=>
    rw[hp,ctt]at hs
    by_cases k8:s.1=8
    ·rw[if_pos k8]at hs
     cases hv:ZdX d s.2.1 with
     |false=>rw[hv,cff]at hs;cases hs
     |true=>
      rw[hv,ctt]at hs
      injection hs with hs
      subst hs
      obtain⟨cs,e,ht⟩:=ZA7 S (d.1,d.2.set s.2.1.toNat true) d' hd (by show d.1.length+S.length≤1000000;omega) h
      refine⟨cs,e,?_⟩
      have:byF (s::S)=byF S:=Xa4 (by rw[Xah];exact fun q=>q k8)
      rw[this]
      exact ht
    ·rw[if_neg k8]at hs
     cases hv:(ZbP d s).1 with
     |false=>rw[hv,cff]at hs;cases hs
     |true=>
      rw[hv,ctt]at hs
      injection hs with hs
      subst hs
      obtain⟨o1,o2⟩:=ZGs hd (by omega) hv
      have o12:=ZAm o1
      obtain⟨cs,e,ht⟩:=ZA7 S (d.1++[ofR (ZbP d s)],d.2++[false]) d' (fun c hc=>by
       rcases List.mem_append.1 hc with q|q
       ·exact hd c q
       ·rw[Xaj]at q
        rw[q]
        exact⟨o1,by omega⟩) (by show (d.1++[ofR (ZbP d s)]).length+S.length≤1000000;rw[Xan,XaC];omega) h
      have eby:byF (s::S)=s::byF S:=Xa5 (p:=fun s:ZB=>decide (s.1≠8)) (Xad k8)
      dsimp only at e ht
      have hlen:(d.1++[ofR (ZbP d s)]).length=d.1.length+1:=by rw[Xan,XaC]
      have hrefs:∀k,Ziu s k→s.1≠7→k<d.1.length:=fun k hk h7=>by
       unfold Ziu at hk
       rw[if_neg h7]at hk
       unfold ZbP at hv
       by_cases k6:s.1=6
       ·rw[if_pos k6]at hk;exact hk.elim
       ·rw[if_neg k6]at hk
        rw[if_neg k6,if_neg h7]at hv
        cases qa:ZdX d s.2.1 with
        |false=>rw[qa,cff]at hv;cases hv
        |true=>
         rw[qa,ctt]at hv
         obtain⟨a0,a1,_⟩:=ZhU qa
         rcases hk with hk|⟨k1,hk⟩
         ·omega
         ·rw[if_pos k1]at hv
          cases qb:ZdX d s.2.2.1 with
          |false=>rw[qb,cff]at hv;cases hv
          |true=>
           obtain⟨b0,b1,_⟩:=ZhU qb
           omega
      have hrange:s.1≠7→s.1≠6→0≤s.2.1∧(s.1=1→0≤s.2.2.1):=fun h7 h6=>by
       unfold ZbP at hv
       rw[if_neg h6,if_neg h7]at hv
       cases qa:ZdX d s.2.1 with
       |false=>rw[qa,cff]at hv;cases hv
       |true=>
        rw[qa,ctt]at hv
        obtain⟨a0,a1,_⟩:=ZhU qa
        refine⟨a0,fun k1=>?_⟩
        rw[if_pos k1]at hv
        cases qb:ZdX d s.2.2.1 with
        |false=>rw[qb,cff]at hv;cases hv
        |true=>exact(ZhU qb).1
      refine⟨ofR (ZbP d s)::cs,by rw[e,XaJ];rfl,?_⟩
      rw[eby]
      refine⟨by rw[Xak,Xak,ht.len],fun c hc=>?_,fun j hj=>?_,fun j hj=>?_,fun j hj=>?_⟩
      ·rcases XaA.1 hc with q|q
       ·rw[q];exact⟨o1,by omega⟩
       ·exact ht.con c q
      ·cases j with
       |zero=>exact⟨k8,fun k hk h7=>by have:=hrefs k hk h7;omega⟩
       |succ j=>
        have hj':j<cs.length:=by rw[Xak]at hj;omega
        obtain⟨r1,r2⟩:=ht.refs j hj'
        exact⟨r1,fun k hk h7=>by have:=r2 k hk h7;omega⟩
      ·cases j with
       |zero=>exact hrange
       |succ j=>
        have hj':j<cs.length:=by rw[Xak]at hj;omega
        exact ht.range j hj'
      ·cases j with
       |zero=>
        intro v hv'
        refine o2 v (fun k hk hr=>?_)
        have:=hv' k (by omega) hr
        rwa [Xaa,XaL hk,←Xaa]at this
       |succ j=>
        have hj':j<cs.length:=by rw[Xak]at hj;omega
        intro v hv'
        refine ht.imp j hj' v (fun k hk hr=>?_)
        have:=hv' k (by omega) hr
        rwa [show d.1++ofR (ZbP d s)::cs=d.1++[ofR (ZbP d s)]++cs by rw[XaJ];rfl]at this
end Go.AE.Y
namespace Go.AE.Y
open Go Go.AE
set_option maxHeartbeats 400000
def ZrB (m:Zp) (i:Nat) (c:Int) (n:Nat):List (Int×Int):=(List.range n).map (fun (k:Nat)=>(c*(k:Int),ZbL m i k))
def Zhp (m:Zp) (r:ZI):Nat→List (Int×Int)
 |0=>[]
 |n+1=>Zhp m r n++ZrB m (r.2.1.getD n 0).toNat (r.2.2.1.getD n 0) (Zd8 m (r.2.1.getD n 0).toNat)
def Zlt (m:Zp) (r:ZI):Int×List Int:=Zcx (Zhp m r r.2.1.length) r.2.2.2.1
def Ztt (m:Zp) (r:ZI):Z9:=ofR (Zcw (Zlt m r).2 (Zlt m r).1)
structure Zdo (m:Zp) (r:ZI):Prop where
 vars:∀i,i<r.2.1.length→0≤r.2.1.getD i 0∧(r.2.1.getD i 0).toNat<m.1.length
 nodup:r.2.1.Nodup
 pos:1≤r.2.1.length
 lin:r.1=1→r.2.2.1.length=r.2.1.length∧(∀i,-9≤r.2.2.1.getD i 0∧r.2.2.1.getD i 0≤9) ∧ -1000≤r.2.2.2.1∧r.2.2.2.1≤1000
 two:r.1=4→r.2.1.length=2
 kind:r.1=1∨r.1=2∨r.1=3∨r.1=4
theorem ZJ5 {l:List Int} {n:Int} (h:ZqT l n=true):l.Nodup∧∀i,i<l.length→0≤l.getD i 0∧l.getD i 0≤n - 1:=by
 unfold ZqT at h
 rw[Xar]at h
 have h1:∀i,i<l.length→(0≤l.getD i 0∧l.getD i 0≤n - 1)∧∀x∈l.take i,l.getD i 0≠x:=fun i hi=>by
  have:=h i (Xaz.2 hi)
  unfold Zob at this
  simp only[Xaf,Xah,XaY,XaO,beq_iff_eq]at this
  exact this
 refine⟨?_,fun i hi=>(h1 i hi).1⟩
 unfold List.Nodup
 rw[XaX]
 intro i j hi hj hij e
 have h2:=(h1 j hj).2 l[i] (Xat.2 ⟨i,by rw[Xay];omega,by rw[Xa9]⟩)
 rw[Xaa,Xac hj]at h2
 exact h2 e.symm
theorem ZrT {m:Zp} {r:ZI} (hm:Zz m=true) (hr:r∈m.2):Zdo m r:=by
 have hm':=hm
 unfold Zz at hm
 simp only[Xaf,Xah,Xar]at hm
 have h:=hm.2.2.2.2 r hr
 unfold Zf5 at h
 simp only[Xaf,Xah]at h
 obtain⟨h1,h2,h3,h4⟩:=h
 obtain⟨n1,n2⟩:=ZJ5 h1
 have hk:r.1=1∧ZC0 r=true∨r.1=2∨r.1=3∨(r.1=4∧r.2.1.length=2):=by
  unfold Zho at h4
  by_cases k1:r.1=1
  ·rw[Zu k1]at h4
   exact Or.inl ⟨k1,h4⟩
  rw[Zo k1]at h4
  by_cases k3:r.1=3
  ·exact Or.inr (Or.inr (Or.inl k3))
  rw[Zo k3]at h4
  by_cases k4:r.1=4
  ·rw[Zu k4,Xah]at h4
   exact Or.inr (Or.inr (Or.inr ⟨k4,h4⟩))
  rw[Zo k4,beq_iff_eq]at h4
  exact Or.inr (Or.inl h4)
 refine⟨fun i hi=>by have:=n2 i hi;omega,n1,h2,fun k1=>?_,fun k4=>?_,?_⟩
 ·rcases hk with⟨_,hl⟩|k|k|⟨k,_⟩
  ·unfold ZC0 at hl
   simp only[Xaf,Xah,Xar]at hl
   refine⟨by omega,fun i=>?_,hl.2.1.1,hl.2.1.2⟩
   rcases Xag i r.2.2.1.length with q|q
   ·have:=hl.2.2 _ (ZF (l:=r.2.2.1) (i:=i) (d:=0) q)
    unfold ZrZ at this
    simp only[Xaf,Xah]at this
    exact this.2
   ·rw[Xaa,Xax q]
    decide
  ·omega
  ·omega
  ·omega
 ·rcases hk with⟨k,_⟩|k|k|⟨_,k⟩
  ·omega
  ·omega
  ·omega
  ·exact k
 ·rcases hk with⟨k,_⟩|k|k|⟨k,_⟩
  ·exact Or.inl k
  ·exact Or.inr (Or.inl k)
  ·exact Or.inr (Or.inr (Or.inl k))
  ·exact Or.inr (Or.inr (Or.inr k))
theorem Zil {m:Zp} {r:ZI} (hm:Zz m=true) (h:Zdo m r):r.2.1.length≤5:=by
 have h5:m.1.length≤5:=by
  unfold Zz at hm
  simp only[Xaf,Xah]at hm
  exact hm.1.2
 have hs:=ZJy (f:=fun _=>1) (n:=m.1.length) (r.2.1.map Int.toNat) (Zs4 (fun a ha b hb e=>by
  obtain⟨i,hi,ei⟩:=Xat.1 ha
  obtain⟨j,hj,ej⟩:=Xat.1 hb
  have h1:=(h.vars i hi).1
  have h2:=(h.vars j hj).1
  rw[Xaa,Xac hi]at h1
  rw[Xaa,Xac hj]at h2
  have h1:0≤r.2.1[i]:=h1
  have h2:0≤r.2.1[j]:=h2
  omega) h.nodup) (fun x hx=>by
  obtain⟨c,hc,rfl⟩:=XaG.1 hx
  obtain⟨i,hi,rfl⟩:=Xat.1 hc
  have:=(h.vars i hi).2
  rwa [Xaa,Xac hi]at this)
 have h1:∀l:List Nat,(l.map (fun _=>(1:Int))).sum=l.length:=by
  intro l
  induction l with
  |nil=>rfl
  |cons a l ih=>rw[XaV,XbN,ih,Xak];omega
 have h2:∀n:Nat,Zf8 (fun _=>1) n=n:=by
  intro n
  induction n with
  |zero=>rfl
  |succ n ih=>unfold Zf8;rw[ih];omega
 have h3:=ZDk (g:=fun i=>if i∈r.2.1.map Int.toNat then 1 else 0) (h:=fun _=>1) m.1.length (fun i _=>by split<;>omega)
 rw[h1,Xap]at hs
 rw[h2]at h3
 omega
theorem Zvl {l x:List Int} {i:Nat} (h:i<l.length):(ZbQ l x).getD i 0=x.getD (l.getD i 0).toNat 0:=by
 unfold ZbQ
 rw[ZnE (d:=0) (h:=h)]
theorem ZKL {m:Zp} {v:List Bool} {x:List Int} (hm:Zz m=true) (hd:Dec m v x) {i:Nat} (hi:i<m.1.length) (c:Int):∀n,n≤Zd8 m i→Zcy v (ZrB m i c n)=if x.getD i 0<n then c*x.getD i 0 else 0
 |0,_=>by
  obtain⟨x1,x2⟩:=Zcp hd.1
  have:=x2 i (by omega)
  rw[if_neg (by omega)]
  rfl
 |n+1,hn=>by
  obtain⟨x1,x2⟩:=Zcp hd.1
  have hx:=x2 i (by omega)
  have hk:(n:Int)≤m.1.getD i 0:=(ZfK hm hi).1 (by omega)
  have ih:=ZKL hm hd hi c n (by omega)
  have e:ZrB m i c (n+1)=ZrB m i c n++[(c*(n:Int),ZbL m i n)]:=by
   unfold ZrB
   rw[Xbz,Xa3]
   rfl
  rw[e,ZrV,ih,Zy4]
  dsimp only
  rw[ZnM hm hi hk,hd.2 i hi n hk]
  by_cases q:x.getD i 0=n
  ·rw[Xad q,ctt,if_neg (by omega),if_pos (by omega),q]
   omega
  ·rw[decide_eq_false q,cff]
   by_cases q2:x.getD i 0<n
   ·rw[if_pos q2,if_pos (by omega)];omega
   ·rw[if_neg q2,if_neg (by omega)];omega
theorem ZKZ {m:Zp} {r:ZI} {v:List Bool} {x:List Int} (hm:Zz m=true) (ho:Zdo m r) (hd:Dec m v x):∀n,n≤r.2.1.length→Zcy v (Zhp m r n)=ZX r.2.2.1 (ZbQ r.2.1 x) n
 |0,_=>rfl
 |n+1,hn=>by
  obtain⟨x1,x2⟩:=Zcp hd.1
  obtain⟨v0,vi⟩:=ho.vars n (by omega)
  have hx:=x2 (r.2.1.getD n 0).toNat (by omega)
  have hs:=(ZfK hm vi (k:=(x.getD (r.2.1.getD n 0).toNat 0).toNat)).2 (by omega)
  unfold Zhp
  rw[ZrV,ZKZ hm ho hd n (by omega),ZKL hm hd vi _ _ (Nat.le_refl _),if_pos (by omega),ZjF,Zvl (by omega)]
theorem ZnS {m:Zp} (hm:Zz m=true) {i:Nat} (hi:i<m.1.length):1≤Zd8 m i∧Zd8 m i≤4:=by
 have:=ZeR hm hi
 unfold Zd8
 omega
theorem ZEa {a k:Int} (ha : -9≤a∧a≤9) (hk:0≤k∧k≤3) : -27≤a*k∧a*k≤27:=by
 have:k=0∨k=1∨k=2∨k=3:=by omega
 rcases this with rfl|rfl|rfl|rfl<;>omega
theorem Zve {m:Zp} {r:ZI} (hm:Zz m=true) (ho:Zdo m r) (k1:r.1=1):∀n,n≤r.2.1.length→(Zhp m r n).length≤4*n∧∀t∈Zhp m r n,okS t ∧ -27≤t.1∧t.1≤27
 |0,_=>⟨Nat.le_refl _,fun t ht=>absurd ht XaE⟩
 |n+1,hn=>by
  obtain⟨i1,i2⟩:=Zve hm ho k1 n (by omega)
  obtain⟨v0,vi⟩:=ho.vars n (by omega)
  have hs:=ZnS hm vi
  obtain⟨_,hc,_⟩:=ho.lin k1
  unfold Zhp
  refine⟨?_,fun t ht=>?_⟩
  ·unfold ZrB
   rw[Xan,Xap,XaK]
   omega
  ·rcases List.mem_append.1 ht with h|h
   ·exact i2 t h
   ·obtain⟨k,hk,rfl⟩:=XaG.1 h
    have hk:=Xaz.1 hk
    have hkv:=(ZfK hm vi).1 hk
    have hb:=ZEa (hc n) (k:=(k:Int)) ⟨by omega,by omega⟩
    exact⟨⟨by (try dsimp only)<;>omega,(ZLf hm vi hkv).1⟩,hb⟩
theorem Zug {ts:List (Int×Int)} {b:Int} (h:∀t∈ts,okS t ∧ -27≤t.1∧t.1≤27):∀n:Nat,n≤ts.length→(Zcx (ts.take n) b).2.length=13∧(b - 27*n≤(Zcx (ts.take n) b).1∧(Zcx (ts.take n) b).1≤b+27*n)∧∀j,-27*(n:Int)≤(Zcx (ts.take n) b).2.getD j 0∧(Zcx (ts.take n) b).2.getD j 0≤27*(n:Int)
 |0,_=>by
  rw[XaS]
  refine⟨rfl,⟨by show b - _≤b;omega,by show b≤b+_;omega⟩,fun j=>?_⟩
  show _≤(List.replicate 13 (0:Int)).getD j 0∧(List.replicate 13 (0:Int)).getD j 0≤_
  rw[ZHM]
  omega
 |n+1,hn=>by
  obtain⟨i1,i3,i4⟩:=Zug h n (by omega)
  obtain⟨⟨_,o2⟩,o3⟩:=h _ (ZF (l:=ts) (i:=n) (d:=(0,0)) (by omega))
  have hl:=ZG.1 o2
  rw[ZnO (by omega)]
  generalize Zcx (ts.take n) b=s at i1 i3 i4
  generalize ts.getD n (0,0)=t at o3 hl
  unfold Zmq
  by_cases q:t.2<0
  ·rw[if_pos q]
   dsimp only
   refine⟨by rw[Xam];exact i1,⟨by omega,by omega⟩,fun j=>?_⟩
   have hj:=i4 j
   have hv:=i4 (0 - t.2).toNat
   rw[ZjP]
   split<;>omega
  ·rw[if_neg q]
   dsimp only
   refine⟨by rw[Xam];exact i1,⟨by omega,by omega⟩,fun j=>?_⟩
   have hj:=i4 j
   have hv:=i4 t.2.toNat
   rw[ZjP]
   split<;>omega
theorem ZDa {net:List Int}:∀n,n≤12→(∀j,-1000≤net.getD j 0∧net.getD j 0≤1000)→(∀t∈Zb0 net n,(Zbe t.2=true∧1≤t.1∧t.1≤1000)∧vof t.2≤n)∧(Zb0 net n).Pairwise (fun x y=>vof x.2<vof y.2)
 |0,_,_=>⟨fun t ht=>absurd ht XaE,List.Pairwise.nil⟩
 |n+1,hn,hb=>by
  obtain⟨i1,i2⟩:=ZDa n (by omega) hb
  have hbn:=hb (n+1)
  unfold Zb0
  have one:∀t∈(if 0<net.getD (n+1) 0 then[(net.getD (n+1) 0,((n+1:Nat):Int))]else if net.getD (n+1) 0<0 then[(0 - net.getD (n+1) 0,0 - ((n+1:Nat):Int))]else[]),(Zbe t.2=true∧1≤t.1∧t.1≤1000)∧vof t.2=((n+1:Nat):Int):=fun t ht=>by
   split at ht
   ·rw[Xaj]at ht
    subst ht
    exact⟨⟨ZG.2 ⟨by (try dsimp only)<;>omega,by (try dsimp only)<;>omega,by (try dsimp only)<;>omega⟩,by (try dsimp only)<;>omega,by (try dsimp only)<;>omega⟩,by unfold vof;(try dsimp only)<;>omega⟩
   ·split at ht
    ·rw[Xaj]at ht
     subst ht
     exact⟨⟨ZG.2 ⟨by (try dsimp only)<;>omega,by (try dsimp only)<;>omega,by (try dsimp only)<;>omega⟩,by (try dsimp only)<;>omega,by (try dsimp only)<;>omega⟩,by unfold vof;(try dsimp only)<;>omega⟩
    ·exact absurd ht XaE
  refine⟨fun t ht=>?_,List.pairwise_append.2 ⟨i2,?_,fun x hx y hy=>?_⟩⟩
  ·rcases List.mem_append.1 ht with h|h
   ·have:=i1 t h
    exact⟨this.1,by omega⟩
   ·have:=one t h
    exact⟨this.1,by omega⟩
  ·split
   ·exact Xbe _ _
   ·split
    ·exact Xbe _ _
    ·exact List.Pairwise.nil
  ·have:=(i1 x hx).2
   have:=(one y hy).2
   omega
theorem ZIU {m:Zp} {r:ZI} (hm:Zz m=true) (ho:Zdo m r) (k1:r.1=1):(Zcw (Zlt m r).2 (Zlt m r).1).1=true:=by
 have h5:=Zil hm ho
 obtain⟨l1,l2⟩:=Zve hm ho k1 r.2.1.length (Nat.le_refl _)
 obtain⟨_,_,b1,b2⟩:=ho.lin k1
 obtain⟨n1,n2,n3⟩:=Zug (b:=r.2.2.2.1) l2 (Zhp m r r.2.1.length).length (Nat.le_refl _)
 rw[XaB]at n1 n2 n3
 have hb:∀j,-1000≤(Zlt m r).2.getD j 0∧(Zlt m r).2.getD j 0≤1000:=fun j=>by
  have:=n3 j
  unfold Zlt
  omega
 have hb2 : -2000≤(Zlt m r).1∧(Zlt m r).1≤2000:=by
  unfold Zlt
  omega
 obtain⟨p1,p2⟩:=ZDa (net:=(Zlt m r).2) 12 (Nat.le_refl _) hb
 have hneg:=Zpe (net:=(Zlt m r).2) (b:=(Zlt m r).1) (K:=1000) (by omega) (fun j=>by have:=hb j;omega) 12
 have hc:ZA (Zb0 (Zlt m r).2 12,max 0 (Z4 (Zlt m r).2 (Zlt m r).1 12))=true:=ZhT.2 ⟨fun t ht=>(p1 t ht).1,p2,by (try dsimp only)<;>omega,by (try dsimp only)<;>omega⟩
 unfold Zcw
 rw[hc,ctt]
theorem ZPH {m:Zp} {r:ZI} {v:List Bool} {x:List Int} (hm:Zz m=true) (ho:Zdo m r) (hd:Dec m v x) (k1:r.1=1):ZR v (Ztt m r)=holdsB r (ZbQ r.2.1 x):=by
 obtain⟨_,l2⟩:=Zve hm ho k1 r.2.1.length (Nat.le_refl _)
 have hlen:(ZbQ r.2.1 x).length=r.2.1.length:=Xap ..
 have e:=ZKZ hm ho hd r.2.1.length (Nat.le_refl _)
 have hn:=ZGJ (b:=r.2.2.2.1) (v:=v) (fun t ht=>(l2 t ht).1)
 unfold Ztt
 rw[(ZyR (ZIU hm ho k1)).1]
 unfold Zlt
 rw[hn,e]
 unfold holdsB
 rw[Zu k1,hlen]
def Zet (m:Zp) (r:ZI) (k:Nat):List Int:=(r.2.1.filter (fun c=>decide ((k:Int)≤m.1.getD c.toNat 0))).map (fun c=>ZbL m c.toNat k)
def Zoj (l:List Int):List Int:=l.mergeSort (fun a b=>decide (a≤b))
def Zt2 (m:Zp) (r:ZI):Zx:=(List.range 4).flatMap (fun k=>if 1<(Zet m r k).length then[Zkb (Zoj (Zet m r k))]else[])
theorem Zmn {m:Zp} {r:ZI} (ho:Zdo m r) {c:Int} (hc:c∈r.2.1):0≤c∧c.toNat<m.1.length:=by
 obtain⟨i,hi,rfl⟩:=Xat.1 hc
 have:=ho.vars i hi
 rwa [Xaa,Xac hi]at this
theorem ZpO {m:Zp} {r:ZI} (hm:Zz m=true) (ho:Zdo m r) {k:Nat}:(Zet m r k).Nodup∧∀y∈Zet m r k,∃c,c∈r.2.1∧(k:Int)≤m.1.getD c.toNat 0∧y=ZbL m c.toNat k:=by
 refine⟨Zs4 (fun a ha b hb e=>?_) (ho.nodup.filter _),fun y hy=>?_⟩
 ·obtain⟨a1,a2⟩:=XaQ.1 ha
  obtain⟨b1,b2⟩:=XaQ.1 hb
  obtain⟨a3,a4⟩:=Zmn ho a1
  obtain⟨b3,b4⟩:=Zmn ho b1
  have:=(ZxY hm a4 (of_decide_eq_true a2) b4 (of_decide_eq_true b2) e).1
  omega
 ·obtain⟨c,hc,rfl⟩:=XaG.1 hy
  obtain⟨c1,c2⟩:=XaQ.1 hc
  exact⟨c,c1,of_decide_eq_true c2,rfl⟩
theorem ZOO {v:List Int}:Zww v=true↔v.Nodup:=by
 unfold Zww Zmi List.Nodup
 rw[Xar,XaX]
 constructor
 ·intro h i j hi hj hij e
  have:=h j (Xaz.2 hj)
  rw[XaY,XaO]at this
  refine this v[i] (Xat.2 ⟨i,by rw[Xay];omega,by rw[Xa9]⟩) ?_
  rw[Xaa,Xac hj]
  exact beq_iff_eq.2 e.symm
 ·intro h j hj
  have hj:=Xaz.1 hj
  rw[XaY,XaO]
  intro y hy e
  obtain⟨i,hi,rfl⟩:=Xat.1 hy
  rw[Xay]at hi
  have e:=beq_iff_eq.1 e
  rw[Xaa,Xac hj,Xa9]at e
  exact h i j (by omega) hj (by omega) e.symm
theorem ZOH {m:Zp} {r:ZI} {v:List Bool} {x:List Int} (hm:Zz m=true) (ho:Zdo m r) (hd:Dec m v x) (k2:r.1=2):(∀c∈Zt2 m r,ZR v c=true)↔holdsB r (ZbQ r.2.1 x)=true:=by
 obtain⟨x1,x2⟩:=Zcp hd.1
 have hcell:∀c∈r.2.1,0≤x.getD c.toNat 0∧x.getD c.toNat 0≤m.1.getD c.toNat 0:=fun c hc=>by
  obtain⟨c0,c1⟩:=Zmn ho hc
  exact x2 c.toNat (by omega)
 have hh:holdsB r (ZbQ r.2.1 x)=Zww (ZbQ r.2.1 x):=by
  unfold holdsB
  rw[Zo (by omega),Zu k2]
 have hev:∀k,ZR v (Zkb (Zoj (Zet m r k)))=decide ((Zet m r k).countP (ZT v)≤1):=fun k=>by
  have hp:(Zoj (Zet m r k)).Perm (Zet m r k):=List.mergeSort_perm _ _
  rw[ZD8,hp.countP_eq]
  intro y hy
  obtain⟨c,c1,c2,rfl⟩:=(ZpO hm ho).2 y (hp.mem_iff.1 hy)
  obtain⟨c3,c4⟩:=Zmn ho c1
  have:=Zdf hm c4 c2
  omega
 have hall:(∀c∈Zt2 m r,ZR v c=true)↔∀k,k<4→(Zet m r k).countP (ZT v)≤1:=by
  unfold Zt2
  constructor
  ·intro h k hk
   by_cases q:1<(Zet m r k).length
   ·have:=h _ (XaM.2 ⟨k,Xaz.2 hk,by rw[if_pos q];exact Xav⟩)
    rw[hev,Xah]at this
    exact this
   ·have:=List.countP_le_length (p:=ZT v) (l:=Zet m r k)
    omega
  ·intro h c hc
   obtain⟨k,hk,hc⟩:=XaM.1 hc
   split at hc
   ·rw[Xaj]at hc
    subst hc
    rw[hev,Xah]
    exact h k (Xaz.1 hk)
   ·exact absurd hc XaE
 rw[hall,hh,ZOO]
 have hlit:∀c∈r.2.1,∀k:Nat,(k:Int)≤m.1.getD c.toNat 0→ZT v (ZbL m c.toNat k)=decide (x.getD c.toNat 0=k):=fun c hc k hk=>by
  obtain⟨c0,c1⟩:=Zmn ho hc
  rw[ZnM hm c1 hk,hd.2 c.toNat c1 k hk]
 constructor
 ·intro h
  unfold ZbQ
  refine Zs4 (fun a ha b hb e=>?_) ho.nodup
  have ha1:=hcell a ha
  have hb1:=hcell b hb
  obtain⟨a0,a1⟩:=Zmn ho ha
  obtain⟨b0,b1⟩:=Zmn ho hb
  have hs:=ZeR hm a1
  have hk:=(Zpp (ZpO hm ho).1).1 (h (x.getD a.toNat 0).toNat (by omega)) (ZbL m a.toNat (x.getD a.toNat 0).toNat) (XaG.2 ⟨a,XaQ.2 ⟨ha,Xad (by omega)⟩,rfl⟩) (ZbL m b.toNat (x.getD a.toNat 0).toNat) (XaG.2 ⟨b,XaQ.2 ⟨hb,Xad (by omega)⟩,rfl⟩)
   (by rw[hlit a ha _ (by omega),Xah];omega) (by rw[hlit b hb _ (by omega),Xah];omega)
  have:=(ZxY hm a1 (by omega) b1 (by omega) hk).1
  omega
 ·intro h k _
  rw[Zpp (ZpO hm ho).1]
  intro y hy z hz py pz
  obtain⟨a,ha,ka,rfl⟩:=(ZpO hm ho).2 y hy
  obtain⟨b,hb,kb,rfl⟩:=(ZpO hm ho).2 z hz
  rw[hlit a ha k ka,Xah]at py
  rw[hlit b hb k kb,Xah]at pz
  have hab:a=b:=by
   unfold ZbQ List.Nodup at h
   rw[XbW]at h
   by_cases e:a=b
   ·exact e
   ·exfalso
    obtain⟨i,hi,ei⟩:=Xat.1 ha
    obtain⟨j,hj,ej⟩:=Xat.1 hb
    rw[XaX]at h
    rcases Nat.lt_trichotomy i j with q|q|q
    ·have:=h i j hi hj q
     rw[ei,ej,py,pz]at this
     exact this rfl
    ·subst q
     rw[ei]at ej
     exact e ej
    ·have:=h j i hj hi q
     rw[ei,ej,py,pz]at this
     exact this rfl
  rw[hab]
end Go.AE.Y
namespace Go.AE.Y
open Go Go.AE
set_option maxHeartbeats 400000
theorem ZPO (l:List Int):∀a:Int,l.foldl (fun a n=>a+(n+1)) a=a+(l.map (fun n=>n+1)).sum:=by
 induction l with
 |nil=>intro a;exact(Int.add_zero a).symm
 |cons x l ih=>
  intro a
  rw[Xa6,ih,XaV,XbN]
  omega
theorem ZIb {m:Zp}:∀n,n≤m.1.length→ZN m n=Zf8 (fun i=>m.1.getD i 0+1) n
 |0,_=>rfl
 |n+1,h=>by
  rw[Zf2 (by omega),ZIb n (by omega)]
  rfl
def smM (m:Zp) (r:ZI):Zp:=(r.2.1.map (fun c=>m.1.getD c.toNat 0),[])
theorem ZEp {m:Zp} {r:ZI} (hm:Zz m=true) (ho:Zdo m r):Zz (smM m r)=true:=by
 have h5:=Zil hm ho
 have hs:Zn1 (smM m r).1≤12:=by
  have h12:=(ZgO hm m.1.length (Nat.le_refl _)).2
  rw[ZIb _ (Nat.le_refl _)]at h12
  have e:Zn1 (smM m r).1=((r.2.1.map Int.toNat).map (fun i=>m.1.getD i 0+1)).sum:=by
   unfold Zn1 smM
   rw[ZPO,Int.zero_add,XbZ,XbZ]
   rfl
  rw[e,ZJy (n:=m.1.length) _ (Zs4 (fun a ha b hb h=>by
   have:=(Zmn ho ha).1
   have:=(Zmn ho hb).1
   omega) ho.nodup) (fun x hx=>by
   obtain⟨c,hc,rfl⟩:=XaG.1 hx
   exact(Zmn ho hc).2)]
  refine Int.le_trans (ZDk _ (fun i hi=>?_)) h12
  have:=ZeR hm hi
  split<;>omega
 unfold Zz
 simp only[Xaf,Xah,Xar]
 refine⟨⟨?_,?_⟩,?_,?_,hs,fun r hr=>absurd hr XaE⟩
 ·show 1≤(r.2.1.map _).length
  rw[Xap];exact ho.pos
 ·show (r.2.1.map _).length≤5
  rw[Xap];exact h5
 ·show ([]:List ZI).length≤8
  exact Nat.zero_le _
 ·intro x hx
  obtain⟨c,hc,rfl⟩:=XaG.1 hx
  have:=ZeR hm (Zmn ho hc).2
  unfold ZdU
  rw[Xaf,Xah,Xah]
  omega
def Zm0 (m:Zp) (r:ZI) (vals:List Int):List Int:=(List.range r.2.1.length).map (fun i=>0 - ZbL m (r.2.1.getD i 0).toNat (vals.getD i 0).toNat)
def ZqS (m:Zp) (r:ZI):Zx:=((ZqC (smM m r) (Zni (smM m r))).filter (fun vals=>!holdsB r vals)).map (fun vals=>Zj4 (Zm0 m r vals))
theorem ZNE {m:Zp} {r:ZI} {i:Nat} (h:i<r.2.1.length):(smM m r).1.getD i 0=m.1.getD (r.2.1.getD i 0).toNat 0:=by
 unfold smM
 rw[ZnE (d:=0) (h:=h)]
theorem ZMx {m:Zp} {r:ZI} {x:List Int} (ho:Zdo m r) (hx:ZE m x=true):ZE (smM m r) (ZbQ r.2.1 x)=true:=by
 obtain⟨x1,x2⟩:=Zcp hx
 have hlen:(ZbQ r.2.1 x).length=r.2.1.length:=Xap ..
 have hlen2:(smM m r).1.length=r.2.1.length:=Xap ..
 unfold ZE cellAt
 simp only[Xaf,Xah,Xar,Xaz]
 refine⟨by omega,fun i hi=>?_⟩
 have hi':i<r.2.1.length:=by omega
 have:=(ho.vars i hi').2
 rw[Zvl hi',ZNE hi']
 exact x2 _ (by omega)
theorem ZyI {m:Zp} {r:ZI} {vals:List Int} (hm:Zz m=true) (ho:Zdo m r) (hv:ZE (smM m r) vals=true):ZcN (Zm0 m r vals)=true∧∀i,i<r.2.1.length→0≤vals.getD i 0∧vals.getD i 0≤m.1.getD (r.2.1.getD i 0).toNat 0:=by
 obtain⟨v1,v2⟩:=Zcp hv
 have hlen2:(smM m r).1.length=r.2.1.length:=Xap ..
 have hr:∀i,i<r.2.1.length→0≤vals.getD i 0∧vals.getD i 0≤m.1.getD (r.2.1.getD i 0).toNat 0:=fun i hi=>by
  have:=v2 i (by omega)
  rwa [ZNE hi]at this
 have hneg:∀y∈Zm0 m r vals,-12≤y∧y ≤ -1:=fun y hy=>by
  obtain⟨i,hi,rfl⟩:=XaG.1 hy
  have hi:=Xaz.1 hi
  have:=hr i hi
  have:=Zdf hm (ho.vars i hi).2 (k:=(vals.getD i 0).toNat) (by omega)
  omega
 refine⟨?_,hr⟩
 unfold ZcN
 rw[Xaf,Xar,Xar]
 refine⟨fun y hy=>ZG.2 (by have:=hneg y hy;omega),fun y hy=>?_⟩
 rw[XaY,XaO]
 intro z hz e
 have:=hneg y hy
 have:=hneg z hz
 have:=beq_iff_eq.1 e
 omega
theorem ZGF {m:Zp} {r:ZI} {v:List Bool} {x vals:List Int} (hm:Zz m=true) (ho:Zdo m r) (hd:Dec m v x) (hv:ZE (smM m r) vals=true):ZR v (Zj4 (Zm0 m r vals))=true↔vals≠ZbQ r.2.1 x:=by
 obtain⟨l1,l2⟩:=ZyI hm ho hv
 have hlen:(ZbQ r.2.1 x).length=r.2.1.length:=Xap ..
 have hlen2:(smM m r).1.length=r.2.1.length:=Xap ..
 have hvl:=(Zcp hv).1
 have hlit:∀i,i<r.2.1.length→ZT v (0 - ZbL m (r.2.1.getD i 0).toNat (vals.getD i 0).toNat) = !decide (x.getD (r.2.1.getD i 0).toNat 0=vals.getD i 0):=fun i hi=>by
  have h1:=l2 i hi
  have h2:=(ho.vars i hi).2
  rw[ZNj hm h2 (by omega),hd.2 _ h2 _ (by omega),show (((vals.getD i 0).toNat:Nat):Int)=vals.getD i 0 by omega]
 rw[ZDK l1,Xbk]
 constructor
 ·rintro⟨y,hy,py⟩ e
  obtain⟨i,hi,rfl⟩:=XaG.1 hy
  have hi:=Xaz.1 hi
  rw[hlit i hi,XaY,decide_eq_false_iff_not,e,Zvl hi]at py
  exact py rfl
 ·intro hne
  by_cases q:∃i,i<r.2.1.length∧x.getD (r.2.1.getD i 0).toNat 0≠vals.getD i 0
  ·obtain⟨i,hi,h⟩:=q
   exact⟨_,XaG.2 ⟨i,Xaz.2 hi,rfl⟩,by rw[hlit i hi,decide_eq_false h];rfl⟩
  ·exfalso
   refine hne (Zwu (by omega) (fun i hi=>?_))
   have hi':i<r.2.1.length:=by omega
   rw[Zvl hi']
   by_cases e:x.getD (r.2.1.getD i 0).toNat 0=vals.getD i 0
   ·exact e.symm
   ·exact absurd ⟨i,hi',e⟩ q
theorem ZON {m:Zp} {r:ZI} {v:List Bool} {x:List Int} (hm:Zz m=true) (ho:Zdo m r) (hd:Dec m v x):(∀c∈ZqS m r,ZR v c=true)↔holdsB r (ZbQ r.2.1 x)=true:=by
 have hsm:=ZEp hm ho
 unfold ZqS
 constructor
 ·intro h
  cases hq:holdsB r (ZbQ r.2.1 x)with
  |true=>rfl
  |false=>
   exfalso
   have hp:=ZMx ho hd.1
   have:=h _ (XaG.2 ⟨ZbQ r.2.1 x,XaQ.2 ⟨(ZxH hsm).2 hp,by rw[hq];rfl⟩,rfl⟩)
   exact(ZGF hm ho hd hp).1 this rfl
 ·intro h c hc
  obtain⟨vals,hv,rfl⟩:=XaG.1 hc
  obtain⟨v1,v2⟩:=XaQ.1 hv
  refine(ZGF hm ho hd ((ZxH hsm).1 v1)).2 (fun e=>?_)
  rw[e,h]at v2
  cases v2
def Zpt (m:Zp) (r:ZI):Zx:=if r.1=1 then[Ztt m r]else if r.1=2 then Zt2 m r else ZqS m r
def ZbV (m:Zp):Zx:=(List.range m.1.length).flatMap (Zn8 m)++m.2.flatMap (Zpt m)
def ZCM (m:Zp):Bool×Zx:=bif Zz m&&decide ((ZbV m).length≤400)then(true,ZbV m)else(false,[])
theorem ZJg {m:Zp} {r:ZI} {v:List Bool} {x:List Int} (hm:Zz m=true) (hr:r∈m.2) (hd:Dec m v x):(∀c∈Zpt m r,ZR v c=true)↔holdsB r (ZbQ r.2.1 x)=true:=by
 have ho:=ZrT hm hr
 unfold Zpt
 by_cases k1:r.1=1
 ·rw[if_pos k1,←ZPH hm ho hd k1]
  exact⟨fun h=>h _ Xav,fun h c hc=>by rw[Xaj]at hc;rw[hc];exact h⟩
 rw[if_neg k1]
 by_cases k2:r.1=2
 ·rw[if_pos k2]
  exact ZOH hm ho hd k2
 rw[if_neg k2]
 exact ZON hm ho hd
theorem ZKN {m:Zp} {v:List Bool} (hm:Zz m=true):ZeC (ZbV m) v↔∃x,Dec m v x∧ZcI m x=true:=by
 unfold ZeC ZbV
 constructor
 ·intro h
  obtain⟨x,hd⟩:=ZMX hm (fun i hi c hc=>h c (XbB _ (XaM.2 ⟨i,Xaz.2 hi,hc⟩)))
  refine⟨x,hd,?_⟩
  unfold ZcI
  rw[Xar]
  intro r hr
  exact(ZJg hm hr hd).1 (fun c hc=>h c (Xbw _ (XaM.2 ⟨r,hr,hc⟩)))
 ·rintro⟨x,hd,hs⟩ c hc
  unfold ZcI at hs
  rw[Xar]at hs
  rcases List.mem_append.1 hc with h|h
  ·obtain⟨i,hi,hc⟩:=XaM.1 h
   exact ZM2 hm hd i (Xaz.1 hi) c hc
  ·obtain⟨r,hr,hc⟩:=XaM.1 h
   exact(ZJg hm hr hd).2 (hs r hr) c hc
end Go.AE.Y
