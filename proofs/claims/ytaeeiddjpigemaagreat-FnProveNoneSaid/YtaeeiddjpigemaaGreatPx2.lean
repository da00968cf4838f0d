/-
  Plain laws of the models, in one text. No conditions.
-/
import Derived.Test.YtaeeiddjpigemaaGreatPx1
import Derived.Test.YtaeeiddjpigemaaGreatAEx3
namespace Go.AE.Y
open Go Go.AE
theorem ZJL {f:Int→Int→Option Int} {l:List Int} {key:Int→Int} (hn:l.length≤4000000000) (hf:∀x∈l,∀y∈l,f x y=some (key x - key y)) (hi:∀x∈l,∀y∈l,key x=key y→x=y) :
  ZyD f l=some (l.mergeSort fun x y=>decide (key x≤key y)):=by
 have hlt:∀x∈l,∀y∈l,ltM f x y=decide (key x<key y):=fun x hx y hy=>by
  unfold ltM
  rw[hf x hx y hy]
  by_cases h:key x<key y
  ·rw[Xae h];exact Xae (by omega)
  ·rw[decide_eq_false h];exact decide_eq_false (by omega)
 have hs:ZIf f l:=by
  refine⟨hn,fun x hx y hy=>⟨_,hf x hx y hy⟩,fun x hx=>?_,fun x hx y hy z hz h1 h2=>?_,fun x hx y hy z hz h1 h2=>?_,fun x hx y hy h1 h2=>?_⟩
  ·rw[hlt x hx x hx];exact decide_eq_false (by omega)
  ·rw[hlt x hx y hy,Xaf]at h1
   rw[hlt y hy z hz,Xaf]at h2
   rw[hlt x hx z hz]
   exact Xae (by omega)
  ·rw[hlt x hx y hy,decide_eq_false_iff_not]at h1
   rw[hlt y hy z hz,decide_eq_false_iff_not]at h2
   rw[hlt x hx z hz]
   exact decide_eq_false (by omega)
  ·rw[hlt x hx y hy,decide_eq_false_iff_not]at h1
   rw[hlt y hy x hx,decide_eq_false_iff_not]at h2
   exact hi x hx y hy (by omega)
 unfold ZyD
 rw[if_pos hs]
 have e:=List.map_mergeSort (r:=fun x y=>!ltM f y x) (s:=fun x y=>decide (key x≤key y)) (f:=id) (l:=l) (fun a ha b hb=>by
  rw[hlt b hb a ha]
  by_cases h:key b<key a
  ·rw[Xae h];exact(decide_eq_false (by show ¬key (id a)≤key (id b);simp only[id];omega)).symm
  ·rw[decide_eq_false h];exact(Xae (by show key (id a)≤key (id b);simp only[id];omega)).symm)
 rw[List.map_id,List.map_id]at e
 rw[e]
theorem ZFJ (l:List Int) (key:Int→Int):(l.mergeSort fun x y=>decide (key x≤key y)).Pairwise (fun x y=>key x≤key y):=by
 have:=List.pairwise_mergeSort (le:=fun x y=>decide (key x≤key y)) (fun a b c h1 h2=>by rw[Xaf]at h1 h2 ⊢;omega) (fun a b=>by rw[Bool.or_eq_true,Xaf,Xaf];omega) l
 exact this.imp (fun h=>of_decide_eq_true h)
theorem ZIg {l l':List Int} {key:Int→Int} (h:l.Pairwise (fun x y=>key x<key y)) (h':l'.Pairwise (fun x y=>key x<key y)) (hm:∀x,x∈l↔x∈l'):l=l':=by
 have nd:∀{a:List Int},a.Pairwise (fun x y=>key x<key y)→a.Nodup:=fun ha=>ha.imp (fun hlt e=>by subst e;exact absurd hlt (Int.lt_irrefl _))
 exact List.Perm.eq_of_pairwise (le:=fun x y=>key x<key y) (fun a b _ _ h1 h2=>absurd h1 (by omega)) h h' ((List.perm_ext_iff_of_nodup (nd h) (nd h')).2 hm)
def Zey (s:List Int):Nat→List Int
 |0=>[]
 |n+1=>if 1≤n∧s.getD n 0=s.getD (n - 1) 0 then Zey s n else Zey s n++[s.getD n 0]
theorem ZkW {l:List Int} {n:Nat} (h:n<l.length):l.take (n+1)=l.take n++[l.getD n 0]:=by
 rw[Xbh,Xac h,Xaa,Xac h]
 rfl
theorem Zzy {s:List Int}:∀n,n≤s.length→∀x,x∈Zey s n↔x∈s.take n
 |0,_,x=>by unfold Zey;rw[XaR]
 |n+1,h,x=>by
  have ih:=Zzy (s:=s) n (by omega) x
  unfold Zey
  rw[ZkW (by omega),List.mem_append,Xah]
  split
  ·rename_i hd
   rw[ih]
   constructor
   ·exact Or.inl
   ·rintro(h1|rfl)
    ·exact h1
    ·rw[hd.2]
     obtain⟨m,rfl⟩:∃m,n=m+1:=⟨n - 1,by omega⟩
     rw[ZkW (by omega)]
     exact Xa1 _ (by rw[XbS];exact Xah.2 rfl)
  ·rw[List.mem_append,Xah,ih]
theorem ZEy {s:List Int} {key:Int→Int} (hs:s.Pairwise (fun x y=>key x≤key y)) (hi:∀x∈s,∀y∈s,key x=key y→x=y):∀n,n≤s.length→(Zey s n).Pairwise (fun x y=>key x<key y)
 |0,_=>List.Pairwise.nil
 |n+1,h=>by
  have ih:=ZEy hs hi n (by omega)
  have hat:∀i,i<s.length→s.getD i 0∈s:=fun i h=>Zz h
  have hle:∀i j,i<j→j<s.length→key (s.getD i 0)≤key (s.getD j 0):=fun i j h1 h2=>by
   have:=XaV.1 hs i j (by omega) h2 h1
   rwa [Xaa,Xaa,Xac h2,Xac (show i<s.length by omega)]
  unfold Zey
  split
  ·exact ih
  ·rename_i hd
   refine List.pairwise_append.2 ⟨ih,XbC _ _,fun z hz y hy=>?_⟩
   rw[Xah]at hy
   subst hy
   have hz':=(Zzy (s:=s) n (by omega) z).1 hz
   obtain⟨i,i1,i2⟩:=Xan.1 hz'
   rw[Xaz]at i1
   rw[Xbb]at i2
   have e:s.getD i 0=z:=by rw[Xaa,Xac (show i<s.length by omega)];exact i2
   have h1:=hle i n (by omega) (by omega)
   rw[e]at h1
   by_cases q:key z=key (s.getD n 0)
   ·exfalso
    apply hd
    refine⟨by omega,?_⟩
    have h3:=hle (n - 1) n (by omega) (by omega)
    have h2:key z≤key (s.getD (n - 1) 0):=by
     rcases Xad i (n - 1)with r|r
     ·rw[←e];exact hle i (n - 1) r (by omega)
     ·rw[←e,show i=n - 1 by omega];omega
    exact hi _ (hat n (by omega)) _ (hat (n - 1) (by omega)) (by omega)
   ·omega
theorem Zy5 (s:List Int) (hn:s.length≤4000000000):ZiN s=some (Zey s s.length):=by
 have h1:∀n,1≤n→n≤s.length→(∀k,1≤k→k<n→s.getD k 0≠s.getD (k - 1) 0)→Zey s n=s.take n:=by
  intro n
  induction n with
  |zero=>intro h;omega
  |succ n ih=>
   intro _ h2 h3
   rw[ZkW (by omega)]
   unfold Zey
   rcases Xad 0 n with h4|h4
   ·rw[if_neg (fun h=>h3 n h4 (by omega) h.2),ih h4 (by omega) (fun k k1 k2=>h3 k k1 (by omega))]
   ·have:n=0:=by omega
    subst this
    rw[if_neg (fun h=>absurd h.1 (by omega))]
    rfl
 unfold ZiN
 rcases Xad s.length 2 with h2|h2
 ·rw[Zc (by omega)]
  rcases Xad 0 s.length with h3|h3
  ·rw[h1 s.length h3 (Nat.le_refl _) (fun k k1 k2=>by omega),XaA]
  ·have:s=[]:=XaJ (by omega)
   subst this
   rfl
 rw[Zd (by omega)]
 refine ZJ (f:=Zgc s) (fun t:Int=>∃n:Nat,t=n∧1≤n∧n≤s.length∧∀k,1≤k→k<n→s.getD k 0≠s.getD (k - 1) 0) (fun t=>s.length - t.toNat) (fun _=>Zey s s.length) ?_ _ ⟨1,rfl,by omega,by omega,fun k k1 k2=>by omega⟩
 rintro t ⟨n,rfl,n1,n2,n3⟩
 unfold Zgc
 rcases Xad n s.length with h3|h3
 ·rw[Zc (by omega),Zb ⟨by omega,by omega⟩,Zf (by omega) (by omega),Zb ⟨by omega,by omega⟩,Xab,show ((n:Int) - 1).toNat=n - 1 by omega]
  by_cases q:s.getD n 0=s.getD (n - 1) 0
  ·right
   rw[Zx q,Zb ⟨by omega,by omega⟩]
   have e0:Zey s (n+1)=s.take n:=by
    unfold Zey
    rw[if_pos ⟨n1,q⟩,h1 n n1 n2 n3]
   refine ZJ (f:=Zgd n) (fun t:Int×Int×List Int=>∃b:Nat,t.2.1=b∧1≤b∧n+b≤s.length∧t.1=(Zey s (n+b)).length∧(Zey s (n+b)).length+1≤n+b∧t.2.2.length=s.length∧t.2.2.take (Zey s (n+b)).length=Zey s (n+b)∧∀j,n+b≤j+1→t.2.2.getD j 0=s.getD j 0) (fun t=>s.length - t.2.1.toNat) (fun _=>.inr (Zey s s.length)) ?_ _ ⟨1,rfl,Nat.le_refl _,by omega,?_,?_,rfl,?_,fun _ _=>rfl⟩
   ·rintro⟨k1,k2,a⟩ ⟨b,hb,b1,b2,b3,b4,b5,b6,b7⟩
    dsimp only at hb b3 b5 b6 b7 ⊢
    subst hb
    subst b3
    unfold Zgd
    dsimp only
    rcases Xad (n+b) s.length with h4|h4
    ·left
     have e1:((n:Int)+(b:Int)).toNat=n+b:=by omega
     have e2:((n:Int)+((b:Int) - 1)).toNat=n+b - 1:=by omega
     rw[Zc (by omega),Zb ⟨by omega,by omega⟩,Zf (by omega) (by omega),Zb ⟨by omega,by omega⟩,e1,e2,b7 (n+b) (by omega),b7 (n+b - 1) (by omega)]
     by_cases q2:s.getD (n+b) 0=s.getD (n+b - 1) 0
     ·have e3:Zey s (n+(b+1))=Zey s (n+b):=by
       show Zey s (n+b+1)=_
       conv=>lhs;unfold Zey
       rw[if_pos ⟨by omega,q2⟩]
      rw[show (s.getD (n+b) 0 != s.getD (n+b - 1) 0)=false by rw[q2];exact bne_self_eq_false _,cff,Zf (by omega) (by omega)]
      refine⟨_,rfl,⟨b+1,by simp,by omega,by omega,?_,?_,b5,?_,fun j hj=>b7 j (by omega)⟩,by (try dsimp only)<;>omega,rfl⟩
      ·rw[e3]
      ·rw[e3];omega
      ·rw[e3];exact b6
     ·have e3:Zey s (n+(b+1))=Zey s (n+b)++[s.getD (n+b) 0]:=by
       show Zey s (n+b+1)=_
       conv=>lhs;unfold Zey
       rw[if_neg (fun h=>q2 h.2)]
      have e4:(Zey s (n+(b+1))).length=(Zey s (n+b)).length+1:=by rw[e3,Xal,Xav]
      rw[show (s.getD (n+b) 0 != s.getD (n+b - 1) 0)=true by rw[bne_iff_ne];exact q2,ctt,Zb ⟨by omega,by omega⟩,Zb ⟨by omega,by omega⟩,Zf (by omega) (by omega),Zf (by omega) (by omega),Xab]
      refine⟨_,rfl,⟨b+1,by simp,by omega,by omega,?_,?_,?_,?_,fun j hj=>?_⟩,by (try dsimp only)<;>omega,rfl⟩
      ·rw[e4];simp
      ·rw[e4];omega
      ·dsimp only;rw[Xam];exact b5
      ·dsimp only
       rw[e4,Xbh,List.take_set_of_le (Nat.le_refl _),b6,List.getElem?_set_self (by omega),e3]
       rfl
      ·dsimp only
       rw[Xaa,List.getElem?_set_ne (by omega),←Xaa]
       exact b7 j (by omega)
    ·right
     have e:n+b=s.length:=by omega
     unfold ZjS
     dsimp only
     rw[e]at b4 b6 ⊢
     have hl:(a.take (Zey s s.length).length++List.replicate (a.length - (Zey s s.length).length) (0:Int)).length=s.length:=by rw[Xal,Xaz,XaG];omega
     rw[Zd (by omega),Zb ⟨by omega,by omega⟩,Xab,hl,Zb ⟨by omega,by omega⟩,b6,List.take_left' rfl]
     rfl
   ·dsimp only
    rw[e0,Xaz];omega
   ·rw[e0,Xaz];omega
   ·dsimp only
    rw[e0,Xaz,Nat.min_eq_left n2]
  ·left
   rw[Zt q,Zf (by omega) (by omega)]
   refine⟨_,rfl,⟨n+1,by simp,by omega,by omega,fun k k1 k2=>?_⟩,by omega,rfl⟩
   rcases Xad k n with h|h
   ·exact n3 k k1 h
   ·rw[show k=n by omega];exact q
 ·right
  have:n=s.length:=by omega
  rw[Zd (by omega),h1 s.length (by omega) (Nat.le_refl _) (by rw[←this];exact n3),XaA]
theorem ZGp (s:List Int) (v:Int) (h:s.length≤4000000000):Zcu s v=some (s.any (fun x=>v==x)):=by
 unfold Zcu ZkB
 obtain⟨r,hr1,hr2⟩:=Zha (f:=Zc1 s v) s 0 (fun x=>v==x) (fun i hi=>by
  unfold Zc1
  rw[Zc (by omega),Zb ⟨by omega,by omega⟩,Xab]
  cases v==s.getD i 0 with
  |true=>rw[ctt,ctt]
  |false=>rw[cff,cff,Zf (by omega) (by omega)]) (by
  unfold Zc1
  rw[Zd (by omega)])
 rw[hr1,Ze,hr2]
def Zdh (l:List Int):Nat→List Int
 |0=>List.replicate 13 0
 |n+1=>(Zdh l n).set (vof (l.getD n 0)).toNat (l.getD n 0)
def Zp1 (s:List Int):Nat→List Int
 |0=>[]
 |n+1=>Zp1 s n++(if s.getD (n+1) 0=0 then[]else[s.getD (n+1) 0])
def ZcN (l:List Int):Bool:=l.all ZX&&l.all (fun x=>!(l.any (fun y=>(0 - x)==y)))
def Zbm (l:List Int):List Int:=Zp1 (Zdh l l.length) 12
def Zio (l:List Int):Bool×Int×List (Int×Int):=bif decide (l.length≤40)&&ZcN l then(true,1,(Zbm l).map (fun x=>(1,x)))else(false,0,[])
theorem Zis {n:Int} (h:ZX n=true):1≤vof n∧vof n≤12∧n≠0:=by
 have:=Zy.1 h
 unfold vof
 omega
theorem ZtW (l:List Int):∀n,(Zdh l n).length=13
 |0=>rfl
 |n+1=>by unfold Zdh;rw[Xam];exact ZtW l n
theorem ZfL {l:List Int} (h:ZcN l=true):(∀x∈l,ZX x=true)∧∀x∈l,∀y∈l,vof x=vof y→x=y:=by
 unfold ZcN at h
 simp only[Xag,Xar,XaW,XaN]at h
 refine⟨h.1,fun x hx y hy e=>?_⟩
 have h2:=h.2 x hx y hy
 rw[beq_iff_eq]at h2
 have:=Zis (h.1 x hx)
 unfold vof at e this
 omega
theorem Zx6 {l:List Int} (hl:∀x∈l,ZX x=true):∀n,n≤l.length→∀v:Nat,v≤12→((Zdh l n).getD v 0=0∧∀x∈l.take n,vof x≠v)∨((Zdh l n).getD v 0∈l.take n∧vof ((Zdh l n).getD v 0)=v)
 |0,_,v,hv=>by
  left
  refine⟨?_,fun x hx=>by rw[XaR]at hx;cases hx⟩
  show (List.replicate 13 (0:Int)).getD v 0=0
  rw[Xaa,XaO (by omega)]
  rfl
 |n+1,h,v,hv=>by
  have hn:=Zis (hl _ (Zz (l:=l) (i:=n) (d:=0) (by omega)))
  have hln:=ZtW l n
  unfold Zdh
  rw[ZkW (by omega)]
  by_cases q:(vof (l.getD n 0)).toNat=v
  ·right
   subst q
   have e:((Zdh l n).set (vof (l.getD n 0)).toNat (l.getD n 0)).getD (vof (l.getD n 0)).toNat 0=l.getD n 0:=by
    rw[Xaa (l:=(Zdh l n).set _ _),List.getElem?_set_self (by omega)]
    rfl
   rw[e]
   refine⟨Xa1 _ (Xah.2 rfl),?_⟩
   omega
  ·have e:((Zdh l n).set (vof (l.getD n 0)).toNat (l.getD n 0)).getD v 0=(Zdh l n).getD v 0:=by
    rw[Xaa (l:=(Zdh l n).set _ _),List.getElem?_set_ne q,←Xaa]
   rw[e]
   rcases Zx6 hl n (by omega) v hv with⟨h1,h2⟩|⟨h1,h2⟩
   ·left
    refine⟨h1,fun x hx=>?_⟩
    rcases List.mem_append.1 hx with hx|hx
    ·exact h2 x hx
    ·rw[Xah]at hx
     rw[hx]
     omega
   ·right
    exact⟨Xa4 _ h1,h2⟩
theorem ZxN {l:List Int} (hl:∀x∈l,ZX x=true):∀n,n≤12→(Zp1 (Zdh l l.length) n).Pairwise (fun x y=>vof x<vof y)∧(∀x∈Zp1 (Zdh l l.length) n,x∈l∧vof x≤n)∧∀x∈l,vof x≤n→∃y∈Zp1 (Zdh l l.length) n,vof y=vof x
 |0,_=>⟨List.Pairwise.nil,fun x hx=>absurd hx XaB,fun x hx h=>(by have:=Zis (hl x hx);omega)⟩
 |n+1,h=>by
  obtain⟨i1,i2,i3⟩:=ZxN hl n (by omega)
  have hs:=Zx6 hl l.length (Nat.le_refl _) (n+1) h
  rw[XaA]at hs
  unfold Zp1
  rcases hs with⟨h1,h2⟩|⟨h1,h2⟩
  ·rw[if_pos h1,Xax]
   refine⟨i1,fun x hx=>⟨(i2 x hx).1,by have:=(i2 x hx).2;omega⟩,fun x hx hv=>?_⟩
   have:=h2 x hx
   exact i3 x hx (by omega)
  ·have hne:=(Zis (hl _ h1)).2.2
   rw[if_neg hne]
   refine⟨List.pairwise_append.2 ⟨i1,XbC _ _,fun x hx y hy=>?_⟩,fun x hx=>?_,fun x hx hv=>?_⟩
   ·rw[Xah]at hy
    rw[hy,h2]
    have:=(i2 x hx).2
    omega
   ·rcases List.mem_append.1 hx with hx|hx
    ·exact⟨(i2 x hx).1,by have:=(i2 x hx).2;omega⟩
    ·rw[Xah]at hx
     rw[hx]
     exact⟨h1,by omega⟩
   ·by_cases q:vof x≤n
    ·obtain⟨y,y1,y2⟩:=i3 x hx q
     exact⟨y,Xa4 _ y1,y2⟩
    ·exact⟨_,Xa1 _ (Xah.2 rfl),by omega⟩
theorem ZoF {l:List Int} (h:ZcN l=true):(Zbm l).Pairwise (fun x y=>vof x<vof y):=(ZxN (ZfL h).1 12 (Nat.le_refl _)).1
theorem Zg9 {l:List Int} (h:ZcN l=true) (x:Int):x∈Zbm l↔x∈l:=by
 obtain⟨h1,h2⟩:=ZfL h
 obtain⟨i1,i2,i3⟩:=ZxN h1 12 (Nat.le_refl _)
 constructor
 ·exact fun hx=>(i2 x hx).1
 ·intro hx
  obtain⟨y,y1,y2⟩:=i3 x hx (by have:=Zis (h1 x hx);omega)
  rw[h2 x hx y (i2 y y1).1 y2.symm]
  exact y1
theorem Zmp (l:List Int):(Zbm l).length≤12:=by
 unfold Zbm
 have:∀s n,(Zp1 s n).length≤n:=by
  intro s n
  induction n with
  |zero=>exact Nat.le_refl _
  |succ n ih=>
   unfold Zp1
   rw[Xal]
   split
   ·rw[Xao];omega
   ·rw[Xav];omega
 exact this _ _
theorem Zkm (l:List Int) (hn:l.length≤4000000000):Zip l=some (Zio l):=by
 unfold Zip Zio
 by_cases h0:l.length≤40
 case neg=>rw[Zc (by omega),decide_eq_false h0,Xai,cff]
 rw[Zd (by omega),Xae h0,Xaj]
 refine ZJ (f:=Zkn l) (fun s:Int=>∃i:Nat,s=i∧i≤l.length∧∀j,j<i→ZX (l.getD j 0)=true∧l.any (fun y=>(0 - l.getD j 0)==y)=false) (fun s=>l.length - s.toNat) (fun _=>bif ZcN l then(true,1,(Zbm l).map (fun x=>(1,x)))else(false,0,[])) ?_ _ ⟨0,rfl,Nat.zero_le _,fun j hj=>by omega⟩
 rintro s ⟨i,rfl,hi,hp⟩
 unfold Zkn
 rcases Xad i l.length with h1|h1
 ·have hmem:=Zz (l:=l) (i:=i) (d:=0) h1
  rw[Zc (by omega),Zb ⟨by omega,by omega⟩,Xab,Zna,Ze]
  cases q1:ZX (l.getD i 0)with
  |false=>
   right
   have:ZcN l=false:=by
    cases h:ZcN l with
    |false=>rfl
    |true=>have:=(ZfL h).1 _ hmem;rw[q1]at this;cases this
   rw[Xbd,ctt,this,cff]
  |true=>
   have hl:=Zy.1 q1
   have hc:Zcu l (0 - l.getD i 0)=some (l.any (fun y=>(0 - l.getD i 0)==y)):=ZGp l _ hn
   rw[Xbf,cff,Zf (by omega) (by omega),hc,Ze]
   cases q2:l.any (fun y=>(0 - l.getD i 0)==y)with
   |true=>
    right
    have:ZcN l=false:=by
     cases h:ZcN l with
     |false=>rfl
     |true=>
      unfold ZcN at h
      simp only[Xag,Xar]at h
      have:=h.2 _ hmem
      rw[q2]at this
      cases this
    rw[ctt,this,cff]
   |false=>
    left
    rw[cff,Zf (by omega) (by omega)]
    refine⟨_,rfl,⟨i+1,by simp,by omega,fun j hj=>?_⟩,by omega,rfl⟩
    rcases Xad j i with h2|h2
    ·exact hp j h2
    ·rw[show j=i by omega];exact⟨q1,q2⟩
 ·right
  have hei:i=l.length:=by omega
  have hok:ZcN l=true:=by
   unfold ZcN
   simp only[Xag,Xar]
   constructor
   ·intro x hx
    obtain⟨j,hj,rfl⟩:=Xan.1 hx
    have:=(hp j (by omega)).1
    rwa [Xaa,Xac hj]at this
   ·intro x hx
    obtain⟨j,hj,rfl⟩:=Xan.1 hx
    have:=(hp j (by omega)).2
    rw[Xaa,Xac hj]at this
    dsimp only[Option.getD_some]at this
    rw[this]
    rfl
  obtain⟨o1,o2⟩:=ZfL hok
  have hf:∀x∈l,∀y∈l,ZiE x y=some (vof x - vof y):=fun x hx y hy=>by
   have hx':=Zy.1 (o1 x hx)
   have hy':=Zy.1 (o1 y hy)
   have vx:=Zis (o1 x hx)
   have vy:=Zis (o1 y hy)
   unfold ZiE
   rw[Zd4 (by omega),Ze,Zd4 (by omega),Ze,Zf (by omega) (by omega)]
  have hS:∀S,S=l.mergeSort (fun x y=>decide (vof x≤vof y))→Zey S S.length=Zbm l∧S.length=l.length:=by
   rintro S rfl
   have hperm:=List.mergeSort_perm l (fun x y=>decide (vof x≤vof y))
   refine⟨ZIg (ZEy (ZFJ l vof) (fun x hx y hy=>o2 x (hperm.mem_iff.1 hx) y (hperm.mem_iff.1 hy)) _ (Nat.le_refl _)) (ZoF hok) (fun x=>?_),hperm.length_eq⟩
   rw[Zzy _ (Nat.le_refl _),XaA,hperm.mem_iff,Zg9 hok]
  obtain⟨e1,e2⟩:=hS _ rfl
  have hclone:ZbT l=some l:=by
   unfold ZbT
   refine ZxQ (fun e=>by rw[e]) ?_
   rw[Zb (by simp only[Xao,Zl];omega),Xat]
  rw[Zd (by omega),hclone,Ze,ZJL (key:=vof) (by omega) hf o2,Ze,Zy5 _ (by omega),Ze,e1,hok,ctt]
  have hlen:=Zmp l
  refine ZJ (f:=Zko (Zbm l)) (fun s:Int×List (Int×Int)=>∃i:Nat,s.1=i∧i≤(Zbm l).length∧s.2=((Zbm l).take i).map (fun x=>(1,x))) (fun s=>(Zbm l).length - s.1.toNat) (fun _=>.inr (true,1,(Zbm l).map (fun x=>(1,x)))) ?_ _ ⟨0,rfl,Nat.zero_le _,rfl⟩
  rintro⟨s,o⟩ ⟨i,rfl,hi,rfl⟩
  unfold Zko
  dsimp only
  rcases Xad i (Zbm l).length with h4|h4
  ·left
   rw[Zc (by omega),Zb ⟨by omega,by omega⟩,Zb (by simp[Zl];omega),Zf (by omega) (by omega),Xab]
   exact⟨_,rfl,⟨i+1,by simp,by omega,by rw[ZkW h4,Xa0];rfl⟩,by (try dsimp only)<;>omega,rfl⟩
  ·right
   have:i=(Zbm l).length:=by omega
   rw[Zd (by omega),this,XaA]
theorem ZkC (l:List Int) (_hn:l.length≤4000000000):Ziq l=some (Zio l):=by
 unfold Ziq Zio
 rw[Zb ⟨by omega,by simp only[Zl];omega,rfl⟩]
 by_cases h0:l.length≤40
 case neg=>rw[Zc (by omega),decide_eq_false h0,Xai,cff]
 rw[Zd (by omega),Xae h0,Xaj]
 refine ZJ (f:=ZkD l) (fun s:Int×List Int=>∃i:Nat,s.1=i∧i≤l.length∧s.2=Zdh l i∧(∀x∈l.take i,ZX x=true)∧∀x∈l.take i,∀y∈l.take i,y≠0 - x) (fun s=>l.length - s.1.toNat) (fun _=>bif ZcN l then(true,1,(Zbm l).map (fun x=>(1,x)))else(false,0,[])) ?_ _ ⟨0,rfl,Nat.zero_le _,rfl,fun x hx=>absurd hx (by rw[XaR];exact XaB),fun x hx=>absurd hx (by rw[XaR];exact XaB)⟩
 rintro⟨s,a⟩ ⟨i,hs,hi,ha,hp,hd⟩
 dsimp only at hs ha ⊢
 subst hs
 subst ha
 unfold ZkD
 dsimp only
 rcases Xad i l.length with h1|h1
 ·have hmem:=Zz (l:=l) (i:=i) (d:=0) h1
  rw[Zc (by omega),Zb ⟨by omega,by omega⟩,Xab,Zwk,Ze]
  cases q1:ZX (l.getD i 0)with
  |false=>
   right
   have:ZcN l=false:=by
    cases h:ZcN l with
    |false=>rfl
    |true=>have:=(ZfL h).1 _ hmem;rw[q1]at this;cases this
   rw[Xbd,ctt,this,cff]
  |true=>
   have hl:=Zy.1 q1
   have hv:=Zis q1
   have hsl:=ZtW l i
   rw[Xbf,cff,Zb ⟨by omega,by omega⟩,Zwj (by omega),Ze,Zb ⟨by omega,by omega⟩,Zb ⟨by omega,by omega⟩,Zf (by omega) (by omega)]
   have htl:∀x∈l.take i,x∈l:=fun x hx=>List.mem_of_mem_take hx
   have hg:((Zdh l i).getD (vof (l.getD i 0)).toNat 0=0∧∀x∈l.take i,vof x≠(vof (l.getD i 0)).toNat)∨((Zdh l i).getD (vof (l.getD i 0)).toNat 0∈l.take i∧vof ((Zdh l i).getD (vof (l.getD i 0)).toNat 0)=(vof (l.getD i 0)).toNat):=by
    have e:∀n,n≤i→Zdh (l.take i) n=Zdh l n:=by
     intro n
     induction n with
     |zero=>intro _;rfl
     |succ n ih=>
      intro hn
      unfold Zdh
      rw[ih (by omega),show (l.take i).getD n 0=l.getD n 0 by rw[Xaa,List.getElem?_take_of_lt (by omega),←Xaa]]
    have:=Zx6 (l:=l.take i) hp i (by rw[Xaz];omega) (vof (l.getD i 0)).toNat (by omega)
    rw[e i (Nat.le_refl _),List.take_take,Nat.min_self]at this
    exact this
   by_cases q2:(Zdh l i).getD (vof (l.getD i 0)).toNat 0=0 - l.getD i 0
   ·right
    have:ZcN l=false:=by
     cases h:ZcN l with
     |false=>rfl
     |true=>
      exfalso
      rcases hg with⟨g1,g2⟩|⟨g1,g2⟩
      ·omega
      ·have:=(ZfL h).2 _ (htl _ g1) _ hmem (by omega)
       omega
    rw[Zx q2,this,cff]
   ·left
    rw[Zt q2,Zb ⟨by omega,by omega⟩,Zb ⟨by omega,by omega⟩,Zf (by omega) (by omega)]
    have hno:∀y∈l.take i,y≠0 - l.getD i 0:=fun y hy e=>by
     have hy2:=Zis (hp y hy)
     have hvy:vof y=vof (l.getD i 0):=by unfold vof;omega
     rcases hg with⟨g1,g2⟩|⟨g1,g2⟩
     ·exact g2 y hy (by omega)
     ·have hz:=Zis (hp _ g1)
      have hd1:=hd _ g1 y hy
      generalize (Zdh l i).getD (vof (l.getD i 0)).toNat 0=z at *
      unfold vof at g2 hvy hz hy2 hv
      omega
    refine⟨_,rfl,⟨i+1,by simp,by omega,rfl,?_,?_⟩,by (try dsimp only)<;>omega,rfl⟩
    ·intro x hx
     rw[ZkW h1]at hx
     rcases List.mem_append.1 hx with hx|hx
     ·exact hp x hx
     ·rw[Xah]at hx;rw[hx];exact q1
    ·intro x hx y hy
     rw[ZkW h1]at hx hy
     rcases List.mem_append.1 hx with hx|hx<;>rcases List.mem_append.1 hy with hy|hy
     ·exact hd x hx y hy
     ·rw[Xah]at hy
      rw[hy]
      have:=hno x hx
      omega
     ·rw[Xah]at hx
      rw[hx]
      exact hno y hy
     ·rw[Xah]at hx hy
      rw[hx,hy]
      omega
 ·right
  have hei:i=l.length:=by omega
  rw[hei,XaA]at hp hd
  have hok:ZcN l=true:=by
   unfold ZcN
   simp only[Xag,Xar,XaW,XaN,beq_iff_eq]
   exact⟨hp,fun x hx y hy e=>hd x hx y hy e.symm⟩
  rw[Zd (by omega),hok,ctt,hei]
  unfold Zoi
  have hsl:=ZtW l l.length
  have key:loop (ZhC (Zdh l l.length)) ((1:Int),([]:List (Int×Int)))=some (true,1,(Zbm l).map (fun x=>(1,x))):=by
   have hdl:∀n,(Zp1 (Zdh l l.length) n).length≤n:=by
    intro n
    induction n with
    |zero=>exact Nat.le_refl _
    |succ n ih=>
     unfold Zp1
     rw[Xal]
     split
     ·rw[Xao];omega
     ·rw[Xav];omega
   refine ZJ (f:=ZhC (Zdh l l.length)) (fun s:Int×List (Int×Int)=>∃n:Nat,s.1=(n:Int)+1∧n≤12∧s.2=(Zp1 (Zdh l l.length) n).map (fun x=>(1,x))) (fun s=>14 - s.1.toNat) (fun _=>(true,1,(Zbm l).map (fun x=>(1,x)))) ?_ _ ⟨0,rfl,by omega,rfl⟩
   rintro⟨s,o⟩ ⟨n,hs,hn,ho⟩
   dsimp only at hs ho ⊢
   subst hs
   subst ho
   have:=hdl n
   unfold ZhC
   dsimp only
   rcases Xad n 12 with h4|h4
   ·left
    rw[Zc (by omega),Zb ⟨by omega,by omega⟩,show ((n:Int)+1).toNat=n+1 by omega]
    by_cases q:(Zdh l l.length).getD (n+1) 0=0
    ·rw[show ((Zdh l l.length).getD (n+1) 0 != 0)=false by rw[q];rfl,cff,Zf (by omega) (by omega)]
     refine⟨_,rfl,⟨n+1,by simp,by omega,?_⟩,by (try dsimp only)<;>omega,rfl⟩
     conv=>rhs;unfold Zp1
     rw[if_pos q,Xax]
    ·rw[show ((Zdh l l.length).getD (n+1) 0 != 0)=true by rw[bne_iff_ne];exact q,ctt,Zb ⟨by omega,by omega⟩,Zb (by simp[Zl];omega),Zf (by omega) (by omega)]
     refine⟨_,rfl,⟨n+1,by simp,by omega,?_⟩,by (try dsimp only)<;>omega,rfl⟩
     conv=>rhs;unfold Zp1
     rw[if_neg q,Xa0]
     rfl
   ·right
    have:n=12:=by omega
    subst this
    rw[Zd (by omega)]
    rfl
  rw[key]
  rfl
end Go.AE.Y
namespace Go.AE.Y
open Go Go.AE
def Zbb (c:List Int):List Int:=c.map (fun x=>0 - x)
end Go.AE.Y
namespace Go.AE.Y
open Go Go.AE
def zS:ZC:=(0,(0,(0,([],0))))
def HS (s:ZC) (k k':Int):Prop:=s.1=k∧s.2.1=k+1∧s.2.2.1=k+1+1∧∃k1,HdL HT s.2.2.2.1 (k+1+1+1) k1∧s.2.2.2.2=k1∧k'=k1+1∧s.2.2.2.1.length≤4000000000
theorem HS.mono (s:ZC) (k k':Int) (h:HS s k k'):k≤k':=by
 obtain⟨_,_,_,k1,h1,_,h2,_⟩:=h
 have:=HdL.mono HT.mono h1
 omega
def ZHu (a:List ZC):Prop:=a.length≤1048576∧∀s∈a,ZFG s
end Go.AE.Y
namespace Go.AE.Y
open Go Go.AE
def Z1 (l:List Int):List (Int×Int):=l.map (fun x=>(1,x))
theorem Zz6 (v:List Bool):∀(l:List Int) (a:Int),(Z1 l).foldl (fun a t=>bif ZR v t.2 then a+t.1 else a) a=a+(l.countP (ZR v):Nat)
 |[],a=>by simp[Z1]
 |x::l,a=>by
  show (Z1 l).foldl _ (bif ZR v x then a+1 else a)=_
  rw[Zz6 v l,Xb0]
  cases ZR v x with
  |true=>rw[ctt,if_pos rfl];omega
  |false=>rw[cff,if_neg (by decide)];omega
theorem ZCX (v:List Bool) (l:List Int):ZW v (Z1 l,1)=l.any (ZR v):=by
 unfold ZW Zcy
 rw[Zz6]
 cases hq:l.any (ZR v)with
 |true=>
  obtain⟨x,h1,h2⟩:=Xbm.1 hq
  have:=List.countP_pos_iff.2 ⟨x,h1,h2⟩
  exact Xae (by (try dsimp only)<;>omega)
 |false=>
  have:l.countP (ZR v)=0:=List.countP_eq_zero.2 (fun x hx=>by have:=XaN.1 hq x hx;exact this)
  rw[this]
  rfl
theorem ZoE {v:List Bool} {x:Int} (h:x≠0):ZR v (0 - x) = !(ZR v x):=by
 have ev:vof (0 - x)=vof x:=by unfold vof;omega
 unfold ZR
 rw[ev]
 by_cases h1:0<x
 ·rw[Xae h1,decide_eq_false (show ¬0<0 - x by omega)]
  cases v.getD (vof x - 1).toNat false<;>rfl
 ·rw[decide_eq_false h1,Xae (show 0<0 - x by omega)]
  cases v.getD (vof x - 1).toNat false<;>rfl
theorem ZG2 {v:List Bool}:∀{c:List Int},(∀x∈c,x≠0)→(Zbb c).any (ZR v) = !(c.all (ZR v))
 |[],_=>rfl
 |x::c,h=>by
  show (ZR v (0 - x)||(Zbb c).any (ZR v)) = !(ZR v x&&c.all (ZR v))
  rw[ZG2 (fun y hy=>h y (Xas _ hy)),ZoE (h x Xau)]
  cases ZR v x<;>rfl
theorem ZG1 {l l':List Int} {p:Int→Bool} (h:∀x,x∈l↔x∈l'):l.any p=l'.any p:=by
 rw[Xbp,Xbm,Xbm]
 exact⟨fun ⟨x,h1,h2⟩=>⟨x,(h x).1 h1,h2⟩,fun ⟨x,h1,h2⟩=>⟨x,(h x).2 h1,h2⟩⟩
theorem Zoe {l:List Int} {i:Nat} (h:i<l.length):(Z1 l).getD i (0,0)=(1,l.getD i 0):=by
 unfold Z1
 rw[Xaa,Xbi,Xac h,Xaa,Xac h]
 rfl
theorem ZtF {l:List Int} (h1:∀x∈l,ZX x=true) (h2:l.Pairwise (fun x y=>vof x<vof y)):ZD (Z1 l,1)=true:=by
 unfold ZD
 have hl:(Z1 l).length=l.length:=Xak ..
 simp only[Xag,Xar]
 refine⟨fun i hi=>?_,rfl,rfl⟩
 have hi':i<l.length:=by rw[←hl];exact Xay.1 hi
 unfold Zft
 rw[Zoe hi']
 simp only[Xag,Bool.or_eq_true,Xaf]
 refine⟨h1 _ (Zz hi'),⟨by omega,by omega⟩,?_⟩
 rcases Xad 0 i with q|q
 ·right
  rw[Zoe (show i - 1<l.length by omega)]
  have:=XaV.1 h2 (i - 1) i (by omega) hi' (by omega)
  rwa [Xaa,Xaa,Xac hi',Xac (show i - 1<l.length by omega)]
 ·left
  exact beq_iff_eq.2 (by omega)
theorem ZDF (a:List (Int×Int)) (h:a.length≤4000000000):ZdK a a=some true:=by
 unfold ZdK
 rw[bne_self_eq_false,cff]
 refine ZJ (f:=ZdU a a) (fun s:Int=>∃i:Nat,s=i∧i≤a.length) (fun s=>a.length - s.toNat) (fun _=>true) ?_ _ ⟨0,rfl,Nat.zero_le _⟩
 rintro s ⟨i,rfl,hi⟩
 unfold ZdU
 rcases Xad i a.length with h5|h5
 ·left
  refine⟨(i:Int)+1,?_,⟨i+1,by simp,by omega⟩,by omega,rfl⟩
  simp(disch:=omega)only[Zc,Zb,Zf,bne_self_eq_false,beq_self_eq_true,Bool.and_self,Xbf,cff,Ze,ctt]
 ·right
  rw[Zd (by omega)]
theorem Zur (a:List ZC) (h:ZHu a):Zfz a a=some true:=by
 obtain⟨ha,hx⟩:=h
 unfold Zfz ZcT
 rw[bne_self_eq_false,cff]
 have:loop (Zbc a a) (0:Int)=some true:=by
  refine ZJ (f:=Zbc a a) (fun s:Int=>∃i:Nat,s=i∧i≤a.length) (fun s=>a.length - s.toNat) (fun _=>true) ?_ _ ⟨0,rfl,Nat.zero_le _⟩
  rintro s ⟨i,rfl,hi⟩
  unfold Zbc
  rcases Xad i a.length with h5|h5
  ·left
   have hs:=hx _ (Zz (l:=a) (i:=i) (d:=zS) h5)
   have e:Zkr (a.getD i (0,(0,(0,([],0))))) (a.getD i (0,(0,(0,([],0)))))=some true:=by
    change ZFG (a.getD i (0,(0,(0,([],0)))))at hs
    generalize a.getD i (0,(0,(0,([],0))))=b at hs ⊢
    unfold ZFG at hs
    unfold Zkr Zba
    rw[beq_self_eq_true,ctt,beq_self_eq_true,ctt,beq_self_eq_true,ctt]
    simp(disch:=omega)only[ZDF,Ze,ctt,beq_self_eq_true]
   rw[Zc (by omega),Zb ⟨by omega,by omega⟩,Zb ⟨by omega,by omega⟩,Xab,e,Ze,cnt,Zf (by omega) (by omega)]
   exact⟨_,rfl,⟨i+1,by simp,by omega⟩,by omega,rfl⟩
  ·right
   rw[Zd (by omega)]
 rw[this,Ze]
end Go.AE.Y
namespace Go.AE.Y
open Go Go.AE
set_option maxHeartbeats 400000
def ZfO (g:Nat→Int):Nat→Int
 |0=>0
 |n+1=>ZfO g n+g n
theorem ZDg (g h:Nat→Int):∀n,ZfO (fun i=>g i+h i) n=ZfO g n+ZfO h n
 |0=>rfl
 |n+1=>by unfold ZfO;rw[ZDg g h n];omega
theorem Zyh (c:Nat) (a:Int):∀n,ZfO (fun i=>if i=c then a else 0) n=if c<n then a else 0
 |0=>by rw[if_neg (by omega)];rfl
 |n+1=>by
  unfold ZfO
  rw[Zyh c a n]
  by_cases q:c<n
  ·rw[if_pos q,if_neg (by omega),if_pos (by omega)];omega
  ·by_cases q2:n=c
   ·rw[if_neg q,if_pos q2,if_pos (by omega)];omega
   ·rw[if_neg q,if_neg q2,if_neg (by omega)];omega
theorem Zul {g h:Nat→Int}:∀n,(∀i,i<n→g i=h i)→ZfO g n=ZfO h n
 |0,_=>rfl
 |n+1,e=>by unfold ZfO;rw[Zul n (fun i hi=>e i (by omega)),e n (by omega)]
theorem Zz5 {g h:Nat→Int}:∀n,(∀i,i<n→g i≤h i)→ZfO g n≤ZfO h n
 |0,_=>Xaq _
 |n+1,e=>by
  have:=Zz5 n (fun i hi=>e i (by omega))
  have:=e n (by omega)
  unfold ZfO
  omega
theorem ZFU {f:Nat→Int} {n:Nat}:∀l:List Nat,l.Nodup→(∀x∈l,x<n)→(l.map f).sum=ZfO (fun i=>if i∈l then f i else 0) n
 |[],_,_=>by
  have:ZfO (fun i=>if i∈([]:List Nat)then f i else 0) n=ZfO (fun i=>if i=n then 0 else 0) n:=Zul n (fun i hi=>by rw[if_neg XaB,if_neg (by omega)])
  rw[this,Zyh,if_neg (by omega)]
  rfl
 |c::l,hn,hx=>by
  rw[Xa9]at hn
  have e:ZfO (fun i=>if i∈c::l then f i else 0) n=ZfO (fun i=>(if i=c then f c else 0)+(if i∈l then f i else 0)) n:=Zul n (fun i hi=>by
   by_cases q:i=c
   ·subst q
    rw[if_pos Xau,if_pos rfl,if_neg hn.1];omega
   ·by_cases q2:i∈l
    ·rw[if_pos (Xas _ q2),if_neg q,if_pos q2];omega
    ·rw[if_neg (fun h=>(XaC.1 h).elim q q2),if_neg q,if_neg q2];omega)
  rw[e,ZDg,Zyh,if_pos (hx c Xau),XaQ,XbN,ZFU l hn.2 (fun x h=>hx x (Xas _ h))]
theorem Zrb {α β:Type} {f:α→β} {l:List α} (h:∀a∈l,∀b∈l,f a=f b→a=b) (hn:l.Nodup):(l.map f).Nodup:=by
 induction l with
 |nil=>exact List.Pairwise.nil
 |cons a l ih=>
  rw[Xa9]at hn
  rw[XaQ,Xa9]
  refine⟨fun hm=>?_,ih (fun x hx y hy=>h x (Xas _ hx) y (Xas _ hy)) hn.2⟩
  obtain⟨b,hb,e⟩:=XaF.1 hm
  have:=h b (Xas _ hb) a Xau e
  rw[this]at hb
  exact hn.1 hb
def ZbJ (m:Zr) (i k:Nat):Int:=1+(k:Int)+ZM m i
def trV (m:Zr) (v:List Bool) (i k:Nat):Bool:=v.getD ((k:Int)+ZM m i).toNat false
def Dec (m:Zr) (v:List Bool) (x:List Int):Prop:=Z2 m x=true∧∀i,i<m.1.length→∀k:Nat,(k:Int)≤m.1.getD i 0→trV m v i k=decide (x.getD i 0=k)
theorem ZKQ {m:Zr} (hm:ZE m=true) {i:Nat} (hi:i≤m.1.length):0≤ZM m i:=by
 have:=(Zgl hm i hi).1
 omega
theorem Zdc {m:Zr} (hm:ZE m=true) {i k:Nat} (hi:i<m.1.length) (hk:(k:Int)≤m.1.getD i 0):1≤ZbJ m i k∧ZbJ m i k≤ZM m (i+1)∧ZbJ m i k≤12∧1+ZM m i≤ZbJ m i k:=by
 have h0:=ZKQ hm (Nat.le_of_lt hi)
 have h1:=(Zgl hm (i+1) (by omega)).2
 have h2:=ZfG (m:=m) hi
 unfold ZbJ
 omega
theorem ZHA {m:Zr} (hm:ZE m=true) {i k:Nat} (hi:i<m.1.length) (hk:(k:Int)≤m.1.getD i 0):ZX (ZbJ m i k)=true∧vof (ZbJ m i k)=ZbJ m i k∧ZX (0 - ZbJ m i k)=true∧vof (0 - ZbJ m i k)=ZbJ m i k:=by
 have h:=Zdc hm hi hk
 refine⟨Zy.2 ⟨by omega,by omega,by omega⟩,by unfold vof;omega,Zy.2 ⟨by omega,by omega,by omega⟩,by unfold vof;omega⟩
theorem Zmo {m:Zr} {v:List Bool} (hm:ZE m=true) {i k:Nat} (hi:i<m.1.length) (hk:(k:Int)≤m.1.getD i 0):ZR v (ZbJ m i k)=trV m v i k:=by
 have h:=Zdc hm hi hk
 have hv:=(ZHA hm hi hk).2.1
 unfold ZR trV
 rw[hv,Xae (show 0<ZbJ m i k by omega),show (ZbJ m i k - 1).toNat=((k:Int)+ZM m i).toNat by unfold ZbJ;omega]
 cases v.getD ((k:Int)+ZM m i).toNat false<;>rfl
theorem ZJr {m:Zr} {v:List Bool} (hm:ZE m=true) {i k:Nat} (hi:i<m.1.length) (hk:(k:Int)≤m.1.getD i 0):ZR v (0 - ZbJ m i k) = !trV m v i k:=by
 have h:=Zdc hm hi hk
 rw[ZoE (by omega),Zmo hm hi hk]
theorem ZuT {m:Zr} (hm:ZE m=true) {i k i' k':Nat} (hi:i<m.1.length) (hk:(k:Int)≤m.1.getD i 0) (hi':i'<m.1.length) (hk':(k':Int)≤m.1.getD i' 0) (h:ZbJ m i k=ZbJ m i' k'):i=i'∧k=k':=by
 have h1:=Zdc hm hi hk
 have h2:=Zdc hm hi' hk'
 have mono:∀a b,a<b→b≤m.1.length→ZM m (a+1)≤ZM m b:=fun a b hab hb=>by
  have:=ZtC hm (a+1) (b - (a+1)) (by omega)
  rwa [show a+1+(b - (a+1))=b by omega]at this
 rcases Nat.lt_trichotomy i i' with q|q|q
 ·have:=mono i i' q (by omega)
  omega
 ·subst q
  unfold ZbJ at h
  exact⟨rfl,by omega⟩
 ·have:=mono i' i q (by omega)
  omega
def Zjl (vs:List Int):List (Int×Int)×Int:=(Z1 (Zbb vs),(vs.length:Int) - 1)
def Zjg (vs:List Int):List (Int×Int)×Int:=(Z1 (Zbm vs),1)
theorem ZCS {v:List Bool}:∀vs:List Int,(∀x∈vs,x≠0)→(Zbb vs).countP (ZR v)+vs.countP (ZR v)=vs.length
 |[],_=>rfl
 |x::vs,h=>by
  have ih:=ZCS (v:=v) vs (fun y hy=>h y (Xas _ hy))
  have hx:=h x Xau
  show ((0 - x)::Zbb vs).countP (ZR v)+(x::vs).countP (ZR v)=_
  rw[Xb0,Xb0,ZoE hx,Xap]
  cases ZR v x with
  |true=>simp;omega
  |false=>simp;omega
theorem ZAV {v:List Bool} {vs:List Int} (h:∀x∈vs,x≠0):ZW v (Zjl vs)=decide (vs.countP (ZR v)≤1):=by
 have h1:=ZCS (v:=v) vs h
 have h2:Zcy v (Z1 (Zbb vs))=((Zbb vs).countP (ZR v):Nat):=by
  unfold Zcy
  rw[Zz6]
  omega
 unfold ZW Zjl
 dsimp only
 rw[h2,decide_eq_decide]
 omega
theorem ZAs {v:List Bool} {vs:List Int} (h:ZcN vs=true):ZW v (Zjg vs)=vs.any (ZR v):=by
 unfold Zjg
 rw[ZCX,ZG1 (Zg9 h)]
theorem ZnK {α:Type} {p:α→Bool} {l:List α} (hn:l.Nodup):l.countP p≤1↔∀x∈l,∀y∈l,p x=true→p y=true→x=y:=by
 induction l with
 |nil=>exact⟨fun _ x hx=>absurd hx XaB,fun _=>Nat.zero_le _⟩
 |cons a l ih=>
  rw[Xa9]at hn
  rw[Xb0]
  constructor
  ·intro h x hx y hy px py
   by_cases pa:p a=true
   ·rw[if_pos pa]at h
    have hz:l.countP p=0:=by omega
    have hno:=List.countP_eq_zero.1 hz
    rcases XaC.1 hx with rfl|hx
    ·rcases XaC.1 hy with rfl|hy
     ·rfl
     ·exact absurd py (hno y hy)
    ·exact absurd px (hno x hx)
   ·rw[if_neg pa]at h
    rcases XaC.1 hx with rfl|hx
    ·exact absurd px pa
    ·rcases XaC.1 hy with rfl|hy
     ·exact absurd py pa
     ·exact(ih hn.2).1 (by omega) x hx y hy px py
  ·intro h
   by_cases pa:p a=true
   ·rw[if_pos pa]
    have:l.countP p=0:=List.countP_eq_zero.2 (fun y hy py=>by
     have:=h a Xau y (Xas _ hy) pa py
     rw[this]at hn
     exact hn.1 hy)
    omega
   ·rw[if_neg pa]
    have:=(ih hn.2).2 (fun x hx y hy=>h x (Xas _ hx) y (Xas _ hy))
    omega
def Zd5 (m:Zr) (i:Nat):Nat:=(m.1.getD i 0+1).toNat
def Zdx (m:Zr) (i:Nat):List Int:=(List.range (Zd5 m i)).map (ZbJ m i)
def ZmF (m:Zr) (i:Nat):List (List (Int×Int)×Int):=[Zjg (Zdx m i),Zjl (Zdx m i)]
theorem Zfn {m:Zr} (hm:ZE m=true) {i k:Nat} (hi:i<m.1.length):k<Zd5 m i↔(k:Int)≤m.1.getD i 0:=by
 have:=ZeJ hm hi
 unfold Zd5
 omega
theorem Zv4 {m:Zr} (hm:ZE m=true) {i:Nat} (hi:i<m.1.length):ZcN (Zdx m i)=true∧(Zdx m i).Nodup∧(∀x∈Zdx m i,x≠0)∧1≤(Zdx m i).length∧(Zdx m i).length≤4:=by
 have hs:=ZeJ hm hi
 have hroom:∀x∈Zdx m i,1≤x∧x≤12:=fun x hx=>by
  obtain⟨k,hk,rfl⟩:=XaF.1 hx
  have:=Zdc hm hi ((Zfn hm hi).1 (Xay.1 hk))
  omega
 refine⟨?_,?_,fun x hx=>by have:=hroom x hx;omega,?_,?_⟩
 ·unfold ZcN
  rw[Xag,Xar,Xar]
  refine⟨fun x hx=>Zy.2 (by have:=hroom x hx;omega),fun x hx=>?_⟩
  rw[XaW,XaN]
  intro y hy e
  have:=hroom x hx
  have:=hroom y hy
  have:=beq_iff_eq.1 e
  omega
 ·unfold Zdx
  refine Zrb (fun a _ b _ e=>?_) List.nodup_range
  unfold ZbJ at e
  omega
 ·unfold Zdx Zd5
  rw[Xak,XaI]
  omega
 ·unfold Zdx Zd5
  rw[Xak,XaI]
  omega
theorem ZEx {m:Zr} {v:List Bool} (hm:ZE m=true) {i:Nat} (hi:i<m.1.length):(∀c∈ZmF m i,ZW v c=true)↔∃k:Nat,(k:Int)≤m.1.getD i 0∧∀k':Nat,(k':Int)≤m.1.getD i 0→trV m v i k'=decide (k'=k):=by
 obtain⟨v1,v2,v3,_⟩:=Zv4 hm hi
 have hmem:∀k:Nat,(k:Int)≤m.1.getD i 0→ZbJ m i k∈Zdx m i:=fun k hk=>XaF.2 ⟨k,Xay.2 ((Zfn hm hi).2 hk),rfl⟩
 have hcl:ZW v (Zjg (Zdx m i))=(Zdx m i).any (ZR v):=ZAs v1
 have hmo:ZW v (Zjl (Zdx m i))=decide ((Zdx m i).countP (ZR v)≤1):=ZAV v3
 constructor
 ·intro h
  have h1:=h _ Xau
  have h2:=h _ (Xas _ Xau)
  rw[hcl,Xbm]at h1
  rw[hmo,Xaf,ZnK v2]at h2
  obtain⟨x,hx,px⟩:=h1
  obtain⟨k,hk,rfl⟩:=XaF.1 hx
  have hk:=(Zfn hm hi).1 (Xay.1 hk)
  refine⟨k,hk,fun k' hk'=>?_⟩
  by_cases e:k'=k
  ·subst e
   rw[Xae rfl,←Zmo hm hi hk]
   exact px
  ·rw[decide_eq_false e,←Zmo hm hi hk']
   cases q:ZR v (ZbJ m i k')with
   |false=>rfl
   |true=>
    have:=h2 _ (hmem k' hk') _ (hmem k hk) q px
    exact absurd (ZuT hm hi hk' hi hk this).2 e
 ·rintro⟨k,hk,h⟩ c hc
  have hk1:ZR v (ZbJ m i k)=true:=by rw[Zmo hm hi hk,h k hk,Xae rfl]
  rcases XaC.1 hc with rfl|hc
  ·rw[hcl,Xbm]
   exact⟨_,hmem k hk,hk1⟩
  ·rw[Xah]at hc
   subst hc
   rw[hmo,Xaf,ZnK v2]
   intro x hx y hy px py
   obtain⟨a,ha,rfl⟩:=XaF.1 hx
   obtain⟨b,hb,rfl⟩:=XaF.1 hy
   have ha:=(Zfn hm hi).1 (Xay.1 ha)
   have hb:=(Zfn hm hi).1 (Xay.1 hb)
   rw[Zmo hm hi ha,h a ha,Xaf]at px
   rw[Zmo hm hi hb,h b hb,Xaf]at py
   rw[px,py]
theorem ZI8 {m:Zr} {v:List Bool} {x:List Int} (hm:ZE m=true) (h:Dec m v x):∀i,i<m.1.length→∀c∈ZmF m i,ZW v c=true:=fun i hi=>by
 obtain⟨h1,h2⟩:=h
 obtain⟨x1,x2⟩:=ZcL h1
 have hx:=x2 i (by omega)
 refine(ZEx hm hi).2 ⟨(x.getD i 0).toNat,by omega,fun k' hk'=>?_⟩
 rw[h2 i hi k' hk',decide_eq_decide]
 omega
theorem ZI3 {m:Zr} {v:List Bool} (hm:ZE m=true) (h:∀i,i<m.1.length→∀c∈ZmF m i,ZW v c=true):∃x,Dec m v x:=by
 have hk:∀i,i<m.1.length→∃k:Nat,(k:Int)≤m.1.getD i 0∧∀k':Nat,(k':Int)≤m.1.getD i 0→trV m v i k'=decide (k'=k):=fun i hi=>(ZEx hm hi).1 (h i hi)
 let g:Nat→Nat:=fun i=>if hi:i<m.1.length then Classical.choose (hk i hi)else 0
 have hg:∀i,i<m.1.length→(g i:Int)≤m.1.getD i 0∧∀k':Nat,(k':Int)≤m.1.getD i 0→trV m v i k'=decide (k'=g i):=fun i hi=>by
  have e:g i=Classical.choose (hk i hi):=dif_pos hi
  rw[e]
  exact Classical.choose_spec (hk i hi)
 refine⟨(List.range m.1.length).map (fun i=>(g i:Int)),?_,fun i hi k hk'=>?_⟩
 ·unfold Z2 cellAt
  simp only[Xag,Xaf,Xak,XaI,Xar,Xay,true_and]
  intro i hi
  rw[Zmi (d:=0) (h:=by rw[XaI];exact hi)]
  have e:(List.range m.1.length).getD i 0=i:=by rw[Xaa,List.getElem?_range hi];rfl
  rw[e]
  exact⟨by omega,(hg i hi).1⟩
 ·rw[(hg i hi).2 k hk',Zmi (d:=0) (h:=by rw[XaI];exact hi)]
  have e:(List.range m.1.length).getD i 0=i:=by rw[Xaa,List.getElem?_range hi];rfl
  rw[e,decide_eq_decide]
  omega
theorem ZLM {m:Zr} {x:List Int} (hm:ZE m=true) (hx:Z2 m x=true):Dec m (ZsM m x x.length) x:=by
 obtain⟨x1,x2⟩:=ZcL hx
 refine⟨hx,fun i hi k hk=>?_⟩
 unfold trV
 exact ZEG hm hx x.length (Nat.le_refl _) i (by omega) k hk
end Go.AE.Y
namespace Go.AE.Y
open Go Go.AE
abbrev Zu:=List (List (Int×Int)×Int)
def OkP (p:List Int):Prop:=p.length=12∧∀j,p.getD j 0=0∨p.getD j 0=1∨p.getD j 0 = -1
def agP (p:List Int) (v:List Bool):Prop:=∀j,p.getD j 0≠0→v.getD j false=decide (0<p.getD j 0)
def unZ (l:Int) (p:List Int):Int:=if l<0 then 0 - p.getD (0 - l - 1).toNat 0 else p.getD (l - 1).toNat 0
def Zek (L:Zu) (v:List Bool):Prop:=∀c∈L,ZW v c=true
def Zbr (L:Zu):Prop:=∀c∈L,ZD c=true∧c.1.length≤1048576
theorem ZnM {l:Int} {p:List Int} (hl:ZX l=true) (hp:OkP p):Zpe l p=some (unZ l p):=by
 have h:=Zy.1 hl
 obtain⟨h12,hv⟩:=hp
 unfold Zpe unZ
 by_cases q:l<0
 ·have:=hv (0 - l - 1).toNat
  rw[Zc q,if_pos q,Zf (by omega) (by omega),Zf (by omega) (by omega),Zb ⟨by omega,by omega⟩,Zf (by omega) (by omega)]
 ·rw[Zd q,if_neg q,Zf (by omega) (by omega),Zb ⟨by omega,by omega⟩]
theorem ZHy {l:Int} {p:List Int} {v:List Bool} (hl:ZX l=true) (hp:OkP p) (ha:agP p v):(unZ l p<0→ZR v l=false)∧(0<unZ l p→ZR v l=true):=by
 have h:=Zy.1 hl
 unfold unZ ZR
 by_cases q:l<0
 ·rw[if_pos q,show vof l=0 - l by unfold vof;omega,decide_eq_false (show ¬0<l by omega)]
  have h1:=ha (0 - l - 1).toNat
  have h2:=hp.2 (0 - l - 1).toNat
  constructor
  ·intro h3
   rw[h1 (by omega),Xae (by omega)]
   rfl
  ·intro h3
   rw[h1 (by omega),decide_eq_false (by omega)]
   rfl
 ·rw[if_neg q,show vof l=l by unfold vof;omega,Xae (show 0<l by omega)]
  have h1:=ha (l - 1).toNat
  constructor
  ·intro h3
   rw[h1 (by omega),decide_eq_false (by omega)]
   rfl
  ·intro h3
   rw[h1 (by omega),Xae (by omega)]
   rfl
def ZbM (c:List (Int×Int)) (p:List Int):Nat→Int
 |0=>0
 |n+1=>ZbM c p n+(if 0≤unZ (c.getD n (0,0)).2 p then(c.getD n (0,0)).1 else 0)
def Zqc (c:List (Int×Int)) (v:List Bool):Nat→Int
 |0=>0
 |n+1=>Zqc c v n+(if ZR v (c.getD n (0,0)).2=true then(c.getD n (0,0)).1 else 0)
theorem ZHw (c:List (Int×Int)) (v:List Bool):∀n,n≤c.length→Zcy v (c.take n)=Zqc c v n
 |0,_=>rfl
 |n+1,h=>by
  have ih:=ZHw c v n (by omega)
  unfold Zcy at ih ⊢
  rw[Xbh,Xac (show n<c.length by omega),Xa6,ih]
  have e2:Zqc c v (n+1)=Zqc c v n+(if ZR v (c.getD n (0,0)).2=true then(c.getD n (0,0)).1 else 0):=rfl
  have e:c.getD n (0,0)=c[n]:=by rw[Xaa,Xac (show n<c.length by omega)];rfl
  rw[e2,e]
  show (bif ZR v c[n].2 then Zqc c v n+c[n].1 else Zqc c v n)=_
  cases ZR v c[n].2 with
  |true=>rw[ctt,if_pos rfl]
  |false=>rw[cff,if_neg (by decide)];omega
theorem ZdC {c:List (Int×Int)×Int} (h:ZD c=true):(0≤c.2∧c.2≤20000)∧∀i,i<c.1.length→ZX (c.1.getD i (0,0)).2=true∧1≤(c.1.getD i (0,0)).1∧(c.1.getD i (0,0)).1≤1000:=by
 have h2:=ZIk h
 unfold ZD at h
 simp only[Xag,Xaf]at h
 exact⟨h.2,fun i hi=>⟨Zy.2 (h2 i hi).1,(h2 i hi).2⟩⟩
theorem ZvW {c:List (Int×Int)×Int} (h:ZD c=true) (p:List Int):∀n:Nat,n≤c.1.length→0≤ZbM c.1 p n∧ZbM c.1 p n≤1000*n
 |0,_=>⟨Xaq _,Xaq _⟩
 |n+1,hn=>by
  have ih:=ZvW h p n (by omega)
  have:=(ZdC h).2 n (by omega)
  unfold ZbM
  split<;>omega
theorem Zgo {c:List (Int×Int)×Int} {p:List Int} (hc:ZD c=true) (hl:c.1.length≤1048576) (hp:OkP p):ZeG c p=some (ZbM c.1 p c.1.length - c.2):=by
 obtain⟨c1,c2⟩:=ZdC hc
 unfold ZeG
 rw[Zf (by omega) (by omega)]
 refine ZJ (f:=ZeX c p) (fun s:Int×Int=>∃n:Nat,s.2=n∧n≤c.1.length∧s.1=ZbM c.1 p n - c.2) (fun s=>c.1.length - s.2.toNat) (fun _=>ZbM c.1 p c.1.length - c.2) ?_ _ ⟨0,rfl,Nat.zero_le _,by show 0 - c.2=0 - c.2;rfl⟩
 rintro⟨o,s⟩ ⟨n,hs,hn,ho⟩
 dsimp only at hs ho ⊢
 subst hs
 subst ho
 have hb:=ZvW hc p n hn
 unfold ZeX
 dsimp only
 rcases Xad n c.1.length with h1|h1
 ·left
  obtain⟨l1,l2,l3⟩:=c2 n h1
  rw[Zc (by omega),Zb ⟨by omega,by omega⟩,Xab,ZnM l1 hp,Ze]
  by_cases q:0≤unZ (c.1.getD n (0,0)).2 p
  ·rw[Zc q,Zf (by omega) (by omega),Zf (by omega) (by omega)]
   refine⟨_,rfl,⟨n+1,by simp,by omega,?_⟩,by (try dsimp only)<;>omega,rfl⟩
   dsimp only
   conv=>rhs;unfold ZbM
   rw[if_pos q]
   omega
  ·rw[Zd q,Zf (by omega) (by omega)]
   refine⟨_,rfl,⟨n+1,by simp,by omega,?_⟩,by (try dsimp only)<;>omega,rfl⟩
   dsimp only
   conv=>rhs;unfold ZbM
   rw[if_neg q]
   omega
 ·right
  have:n=c.1.length:=by omega
  rw[Zd (by omega),this]
theorem ZyE {c:List (Int×Int)×Int} {p:List Int} {v:List Bool} (hc:ZD c=true) (hp:OkP p) (ha:agP p v):∀n,n≤c.1.length→Zqc c.1 v n≤ZbM c.1 p n∧∀i,i<n→0≤unZ (c.1.getD i (0,0)).2 p→ZR v (c.1.getD i (0,0)).2=false→Zqc c.1 v n+(c.1.getD i (0,0)).1≤ZbM c.1 p n
 |0,_=>⟨Xaq _,fun i hi=>by omega⟩
 |n+1,hn=>by
  obtain⟨i1,i2⟩:=ZyE hc hp ha n (by omega)
  obtain⟨l1,l2,l3⟩:=(ZdC hc).2 n (by omega)
  obtain⟨u1,u2⟩:=ZHy l1 hp ha
  have e1:ZbM c.1 p (n+1)=ZbM c.1 p n+(if 0≤unZ (c.1.getD n (0,0)).2 p then(c.1.getD n (0,0)).1 else 0):=rfl
  have e2:Zqc c.1 v (n+1)=Zqc c.1 v n+(if ZR v (c.1.getD n (0,0)).2=true then(c.1.getD n (0,0)).1 else 0):=rfl
  have hle:(if ZR v (c.1.getD n (0,0)).2=true then(c.1.getD n (0,0)).1 else 0)≤(if 0≤unZ (c.1.getD n (0,0)).2 p then(c.1.getD n (0,0)).1 else 0):=by
   by_cases q:0≤unZ (c.1.getD n (0,0)).2 p
   ·rw[if_pos q]
    split<;>omega
   ·rw[if_neg q,u1 (by omega),if_neg (by decide)]
    omega
  refine⟨by omega,fun i hi h1 h2=>?_⟩
  rcases Xad i n with h3|h3
  ·have:=i2 i h3 h1 h2
   omega
  ·have:i=n:=by omega
   subst this
   rw[e1,e2,if_pos h1,h2,if_neg (by decide)]
   omega
theorem ZtJ (v:List Bool) (c:List (Int×Int)×Int):ZW v c=true↔c.2≤Zqc c.1 v c.1.length:=by
 unfold ZW
 rw[Xaf,←ZHw c.1 v c.1.length (Nat.le_refl _),XaA]
theorem Zyb {c:List (Int×Int)×Int} {p:List Int} {v:List Bool} (hc:ZD c=true) (hp:OkP p) (ha:agP p v) (h:ZbM c.1 p c.1.length - c.2<0):¬ZW v c=true:=by
 rw[ZtJ]
 have:=(ZyE hc hp ha c.1.length (Nat.le_refl _)).1
 omega
theorem ZDd {c:List (Int×Int)×Int} {p:List Int} {v:List Bool} (hc:ZD c=true) (hp:OkP p) (ha:agP p v) (ht:∀j,j<12→p.getD j 0≠0) (h:0≤ZbM c.1 p c.1.length - c.2):ZW v c=true:=by
 rw[ZtJ]
 have key:∀n,n≤c.1.length→Zqc c.1 v n=ZbM c.1 p n:=by
  intro n
  induction n with
  |zero=>intro _;rfl
  |succ n ih=>
   intro hn
   obtain⟨l1,l2,l3⟩:=(ZdC hc).2 n (by omega)
   obtain⟨u1,u2⟩:=ZHy l1 hp ha
   have hl:=Zy.1 l1
   have hne:unZ (c.1.getD n (0,0)).2 p≠0:=by
    unfold unZ
    split
    ·have:=ht (0 - (c.1.getD n (0,0)).2 - 1).toNat (by omega)
     omega
    ·exact ht _ (by omega)
   unfold Zqc ZbM
   rw[ih (by omega)]
   by_cases q:0≤unZ (c.1.getD n (0,0)).2 p
   ·rw[if_pos q,u2 (by omega),if_pos rfl]
   ·rw[if_neg q,u1 (by omega),if_neg (by decide)]
 rw[key _ (Nat.le_refl _)]
 omega
theorem ZtP {c:List (Int×Int)×Int} {p:List Int} (hc:ZD c=true) (hl:c.1.length≤1048576) (hp:OkP p):∃o,Zcc c p=some o∧o.length≤1048576∧∀l∈o,ZX l=true∧unZ l p=0∧∀v,agP p v→ZW v c=true→ZR v l=true:=by
 obtain⟨c1,c2⟩:=ZdC hc
 unfold Zcc
 rw[Zgo hc hl hp,Ze]
 refine Zb4 (f:=Zb9 c p (ZbM c.1 p c.1.length - c.2)) (fun s:Int×List Int=>∃n:Nat,s.1=n∧n≤c.1.length∧s.2.length≤n∧∀l∈s.2,ZX l=true∧unZ l p=0∧∀v,agP p v→ZW v c=true→ZR v l=true) (fun s=>c.1.length - s.1.toNat) (fun o=>o.length≤1048576∧∀l∈o,ZX l=true∧unZ l p=0∧∀v,agP p v→ZW v c=true→ZR v l=true) ?_ _ ⟨0,rfl,Nat.zero_le _,Nat.le_refl _,fun l h=>absurd h XaB⟩
 rintro⟨s,o⟩ ⟨n,hs,hn,ho,hall⟩
 dsimp only at hs ho hall ⊢
 subst hs
 unfold Zb9
 dsimp only
 rcases Xad n c.1.length with h1|h1
 ·left
  obtain⟨l1,l2,l3⟩:=c2 n h1
  rw[Zc (by omega),Zb ⟨by omega,by omega⟩,Xab,ZnM l1 hp,Ze]
  by_cases q:unZ (c.1.getD n (0,0)).2 p=0
  ·rw[Zx q]
   by_cases q2:ZbM c.1 p c.1.length - c.2<(c.1.getD n (0,0)).1
   ·rw[Zc q2,Zb (by simp[Zl];omega),Zf (by omega) (by omega)]
    refine⟨_,rfl,⟨n+1,by simp,by omega,by simp;omega,fun l h=>?_⟩,by (try dsimp only)<;>omega⟩
    rcases List.mem_append.1 h with h|h
    ·exact hall l h
    ·rw[Xah]at h
     subst h
     refine⟨l1,q,fun v ha he=>?_⟩
     cases hb:ZR v (c.1.getD n (0,0)).2 with
     |true=>rfl
     |false=>
      have:=(ZyE hc hp ha c.1.length (Nat.le_refl _)).2 n h1 (by omega) hb
      have:=(ZtJ v c).1 he
      omega
   ·rw[Zd q2,Zf (by omega) (by omega)]
    exact⟨_,rfl,⟨n+1,by simp,by omega,by (try dsimp only)<;>omega,hall⟩,by (try dsimp only)<;>omega⟩
  ·rw[Zt q,Zf (by omega) (by omega)]
   exact⟨_,rfl,⟨n+1,by simp,by omega,by (try dsimp only)<;>omega,hall⟩,by (try dsimp only)<;>omega⟩
 ·right
  rw[Zd (by omega)]
  exact⟨_,rfl,by omega,hall⟩
def ZdF (l:Int) (p:List Int):List Int:=if 0<l then p.set (l - 1).toNat 1 else p.set (0 - l - 1).toNat (-1)
def zcN (p:List Int):Nat→Nat
 |0=>0
 |n+1=>zcN p n+(if p.getD n 0=0 then 1 else 0)
theorem ZCL {p:List Int} {j:Nat} {x:Int} (hj:j<p.length) (hx:x≠0):∀n,zcN (p.set j x) n+(if j<n∧p.getD j 0=0 then 1 else 0)=zcN p n
 |0=>by simp[zcN]
 |n+1=>by
  have ih:=ZCL hj hx n
  have e1:zcN (p.set j x) (n+1)=zcN (p.set j x) n+(if (p.set j x).getD n 0=0 then 1 else 0):=rfl
  have e2:zcN p (n+1)=zcN p n+(if p.getD n 0=0 then 1 else 0):=rfl
  rw[e1,e2]
  by_cases q:j=n
  ·subst q
   have hA:(if (p.set j x).getD j 0=0 then 1 else 0)=0:=if_neg (by rw[ZcM hj];exact hx)
   have hB:(if j<j∧p.getD j 0=0 then 1 else 0)=0:=if_neg (fun h=>absurd h.1 (by omega))
   rw[hB]at ih
   by_cases q2:p.getD j 0=0
   ·have hC:(if j<j+1∧p.getD j 0=0 then 1 else 0)=1:=if_pos ⟨by omega,q2⟩
    rw[hA,hC,if_pos q2]
    omega
   ·have hC:(if j<j+1∧p.getD j 0=0 then 1 else 0)=0:=if_neg (fun h=>q2 h.2)
    rw[hA,hC,if_neg q2]
    omega
  ·rw[ZU q]
   by_cases q2:j<n∧p.getD j 0=0
   ·have hC:(if j<n+1∧p.getD j 0=0 then 1 else 0)=1:=if_pos ⟨by omega,q2.2⟩
    rw[if_pos q2]at ih
    rw[hC]
    omega
   ·have hC:(if j<n+1∧p.getD j 0=0 then 1 else 0)=0:=if_neg (fun h=>q2 ⟨by omega,h.2⟩)
    rw[if_neg q2]at ih
    rw[hC]
    omega
theorem Zp9 {l:Int} {p:List Int} (hl:ZX l=true) (hp:OkP p):OkP (ZdF l p)∧(∀v,agP p v→ZR v l=true→agP (ZdF l p) v)∧zcN (ZdF l p) 12≤zcN p 12∧(unZ l p=0→zcN (ZdF l p) 12+1=zcN p 12)∧(∀j,(ZdF l p).getD j 0=0→p.getD j 0=0)∧∀j,(ZdF l p).getD j 0=if (j:Int)+1=vof l then(if 0<l then 1 else -1)else p.getD j 0:=by
 have h:=Zy.1 hl
 obtain⟨h12,hv⟩:=hp
 unfold ZdF unZ
 by_cases q:0<l
 ·rw[if_pos q,if_neg (show ¬l<0 by omega)]
  have hj:(l - 1).toNat<p.length:=by omega
  have hz:=ZCL (p:=p) (x:=1) hj (by decide) 12
  have hg:∀j,(p.set (l - 1).toNat 1).getD j 0=if (j:Int)+1=vof l then 1 else p.getD j 0:=fun j=>by
   have:vof l=l:=by unfold vof;omega
   rw[this]
   by_cases e:(l - 1).toNat=j
   ·rw[←e,ZcM hj,if_pos (by omega)]
   ·rw[ZU e,if_neg (by omega)]
  refine⟨⟨by rw[Xam];exact h12,fun j=>?_⟩,fun v ha hb j hne=>?_,?_,fun h0=>?_,fun j h0=>?_,fun j=>by rw[if_pos q];exact hg j⟩
  ·rw[hg]
   split
   ·exact Or.inr (Or.inl rfl)
   ·exact hv j
  ·rw[hg]at hne ⊢
   split
   ·rename_i e
    rw[if_pos e]at hne
    unfold ZR at hb
    rw[beq_iff_eq,Xae q,show (vof l - 1).toNat=j by omega]at hb
    rw[hb]
    rfl
   ·rename_i e
    rw[if_neg e]at hne
    exact ha j hne
  ·split at hz<;>omega
  ·rw[if_pos ⟨by omega,h0⟩]at hz
   exact hz
  ·rw[hg]at h0
   split at h0
   ·omega
   ·exact h0
 ·rw[if_neg q,if_pos (show l<0 by omega)]
  have hj:(0 - l - 1).toNat<p.length:=by omega
  have hz:=ZCL (p:=p) (x:=-1) hj (by decide) 12
  have hg:∀j,(p.set (0 - l - 1).toNat (-1)).getD j 0=if (j:Int)+1=vof l then -1 else p.getD j 0:=fun j=>by
   have:vof l=0 - l:=by unfold vof;omega
   rw[this]
   by_cases e:(0 - l - 1).toNat=j
   ·rw[←e,ZcM hj,if_pos (by omega)]
   ·rw[ZU e,if_neg (by omega)]
  refine⟨⟨by rw[Xam];exact h12,fun j=>?_⟩,fun v ha hb j hne=>?_,?_,fun h0=>?_,fun j h0=>?_,fun j=>by rw[if_neg q];exact hg j⟩
  ·rw[hg]
   split
   ·exact Or.inr (Or.inr rfl)
   ·exact hv j
  ·rw[hg]at hne ⊢
   split
   ·rename_i e
    rw[if_pos e]at hne
    unfold ZR at hb
    rw[beq_iff_eq,decide_eq_false q,show (vof l - 1).toNat=j by omega]at hb
    rw[hb]
    rfl
   ·rename_i e
    rw[if_neg e]at hne
    exact ha j hne
  ·split at hz<;>omega
  ·rw[if_pos ⟨by omega,by omega⟩]at hz
   exact hz
  ·rw[hg]at h0
   split at h0
   ·omega
   ·exact h0
end Go.AE.Y
namespace Go.AE.Y
open Go Go.AE
set_option maxHeartbeats 400000
abbrev Zbt:=List (Int×Int)×Int
def Zp4 (c:Zbt):Zm3:=(true,c.2,c.1)
def noC:Zm3:=(false,0,[])
def ZxO (c:Zbt) (k:Int):Zbt:=(c.1.map (fun t=>(t.1*k,t.2)),c.2*k)
def upI (n k:Int):Int:=(n+k - 1) / k
def Zxf (c:Zbt) (k:Int):Zbt:=(c.1.map (fun t=>(upI t.1 k,t.2)),upI c.2 k)
def Zx4 (c:Zbt):Zbt:=(if 0<c.2 then c.1.map (fun t=>(min t.1 c.2,t.2))else[],c.2)
def Zki (c:List (Int×Int)) (x:Int):Int:=((c.filter (fun t=>decide (vof t.2=x))).map (fun t=>t.1)).sum
def ZBp (c:Zbt) (x:Int):Zbt:=(c.1.filter (fun t=>!decide (vof t.2=x)),max 0 (c.2 - Zki c.1 x))
def Zva (a b:Zbt):Zm3:=bif ZD a&&ZD b then ZcV (ZcZ (a.1++b.1) (a.2+b.2)).2 (ZcZ (a.1++b.1) (a.2+b.2)).1 else noC
def ZgG (c:Zbt):Zm3:=bif ZD c then Zp4 c else noC
def ZvI (c:Zbt) (k:Int):Zm3:=bif ZD c&&(decide (1≤k)&&decide (k≤1000))then ZgG (ZxO c k)else noC
def Zvo (c:Zbt) (k:Int):Zm3:=bif ZD c&&(decide (1≤k)&&decide (k≤1000))then ZgG (Zxf c k)else noC
def ZCh (c:Zbt):Zm3:=bif ZD c then Zp4 (Zx4 c)else noC
def ZyF (c:Zbt) (x:Int):Zm3:=bif ZD c&&(decide (1≤x)&&decide (x≤12))then Zp4 (ZBp c x)else noC
def axB (l:Int):Zm3:=bif ZX l then Zp4 ([(1,l)],0)else noC
def ofR (r:Zm3):Zbt:=(r.2.2,r.2.1)
theorem ZpV {c:Zbt} (h:ZD c=true):∀t∈c.1,okS t∧1≤t.1:=fun t ht=>by
 obtain⟨i,hi,rfl⟩:=Xan.1 ht
 obtain⟨l1,l2,l3⟩:=(ZdC h).2 i hi
 have e:c.1.getD i (0,0)=c.1[i]:=by rw[Xaa,Xac hi];rfl
 rw[e]at l1 l2 l3
 exact⟨⟨⟨by omega,l3⟩,l1⟩,l2⟩
theorem ZJz {a b:Zbt} (ha:ZD a=true) (hb:ZD b=true):∀t∈a.1++b.1,okS t:=fun t ht=>by
 rcases List.mem_append.1 ht with h|h
 ·exact(ZpV ha t h).1
 ·exact(ZpV hb t h).1
theorem ZvP {net:List Int} {b:Int} (h:(ZcV net b).1=true):ofR (ZcV net b)=(ZcO net 12,max 0 (Zbq net b 12))∧ZD (ofR (ZcV net b))=true:=by
 unfold ZcV at h ⊢
 cases q:ZD (ZcO net 12,max 0 (Zbq net b 12))with
 |true=>rw[ctt];exact⟨rfl,q⟩
 |false=>rw[q,cff]at h;cases h
theorem ZDl {c:Zbt} (h:(ZgG c).1=true):ofR (ZgG c)=c∧ZD (ofR (ZgG c))=true:=by
 unfold ZgG at h ⊢
 cases q:ZD c with
 |true=>rw[ctt];exact⟨rfl,q⟩
 |false=>rw[q,cff]at h;cases h
theorem Zfb (v:List Bool) (t:Int×Int) (l:List (Int×Int)):Zcy v (t::l)=(bif ZR v t.2 then t.1 else 0)+Zcy v l:=by
 have:=Zqb v [t] l
 rw[Zv0]at this
 exact this
theorem ZvZ (v:List Bool):Zcy v []=0:=rfl
theorem ZpX {v:List Bool} {c:Zbt}:ZW v c=true↔c.2≤Zcy v c.1:=decide_eq_true_iff
theorem Zuk {v:List Bool}:∀{l:List (Int×Int)},(∀t∈l,1≤t.1)→0≤Zcy v l
 |[],_=>Xaq _
 |t::l,h=>by
  rw[Zfb]
  have:=Zuk (v:=v) (l:=l) (fun x hx=>h x (Xas _ hx))
  have:=h t Xau
  cases ZR v t.2 with
  |true=>rw[ctt];omega
  |false=>rw[cff];omega
theorem ZJv {c:Zbt} {k:Int} {v:List Bool} (hk:1≤k) (h:ZW v c=true):ZW v (ZxO c k)=true:=by
 rw[ZpX]at h ⊢
 have e:∀l:List (Int×Int),Zcy v (l.map (fun t=>(t.1*k,t.2)))=Zcy v l*k:=by
  intro l
  induction l with
  |nil=>rw[List.map_nil,ZvZ,Int.zero_mul]
  |cons t l ih=>
   rw[XaQ,Zfb,Zfb,ih,Int.add_mul]
   cases ZR v t.2 with
   |true=>rw[ctt,ctt]
   |false=>rw[cff,cff,Int.zero_mul]
 show c.2*k≤Zcy v (c.1.map (fun t=>(t.1*k,t.2)))
 rw[e]
 exact Int.mul_le_mul_of_nonneg_right h (by omega)
theorem ZMy {n m k:Int} (hk:1≤k) (h:n≤m*k):upI n k≤m:=by
 unfold upI
 have:(n+k - 1) / k<m+1:=Int.ediv_lt_of_lt_mul (by omega) (by rw[Int.add_mul];omega)
 omega
theorem ZMn {n k:Int} (hk:1≤k):n≤upI n k*k:=by
 unfold upI
 have h1:=Int.emod_add_mul_ediv (n+k - 1) k
 have h2:=XbF (n+k - 1) (show 0<k by omega)
 rw[Int.mul_comm]at h1
 omega
theorem ZJc {c:Zbt} {k:Int} {v:List Bool} (hk:1≤k) (h:ZW v c=true):ZW v (Zxf c k)=true:=by
 rw[ZpX]at h ⊢
 have e:∀l:List (Int×Int),Zcy v l≤Zcy v (l.map (fun t=>(upI t.1 k,t.2)))*k:=by
  intro l
  induction l with
  |nil=>rw[List.map_nil,ZvZ,Int.zero_mul];exact Xaq _
  |cons t l ih=>
   rw[XaQ,Zfb,Zfb,Int.add_mul]
   have:=ZMn (n:=t.1) hk
   dsimp only
   cases ZR v t.2 with
   |true=>rw[ctt,ctt];omega
   |false=>rw[cff,cff,Int.zero_mul];omega
 have h2:=e c.1
 show upI c.2 k≤Zcy v (c.1.map (fun t=>(upI t.1 k,t.2)))
 exact ZMy hk (by omega)
theorem ZHr {v:List Bool} {b:Int} (hb:0<b):∀l:List (Int×Int),(∀t∈l,1≤t.1)→min b (Zcy v l)≤Zcy v (l.map (fun t=>(min t.1 b,t.2)))
 |[],_=>by rw[List.map_nil,ZvZ];omega
 |t::l,h=>by
  have ih:=ZHr (v:=v) hb l (fun x hx=>h x (Xas _ hx))
  have hp:=Zuk (v:=v) (l:=l) (fun x hx=>h x (Xas _ hx))
  have:=h t Xau
  rw[XaQ,Zfb,Zfb]
  dsimp only
  cases ZR v t.2 with
  |true=>rw[ctt,ctt];omega
  |false=>rw[cff,cff];omega
theorem ZJF {c:Zbt} {v:List Bool} (hc:ZD c=true) (h:ZW v c=true):ZW v (Zx4 c)=true:=by
 rw[ZpX]at h ⊢
 unfold Zx4
 dsimp only
 by_cases q:0<c.2
 ·rw[if_pos q]
  have:=ZHr (v:=v) q c.1 (fun t ht=>(ZpV hc t ht).2)
  omega
 ·rw[if_neg q,ZvZ]
  omega
theorem ZF1 {v:List Bool} {x:Int}:∀l:List (Int×Int),(∀t∈l,1≤t.1)→Zcy v l≤Zcy v (l.filter (fun t=>!decide (vof t.2=x)))+Zki l x∧0≤Zcy v (l.filter (fun t=>!decide (vof t.2=x)))
 |[],_=>by unfold Zki;exact⟨Xaq _,Xaq _⟩
 |t::l,h=>by
  obtain⟨i1,i2⟩:=ZF1 (v:=v) (x:=x) l (fun y hy=>h y (Xas _ hy))
  have:=h t Xau
  unfold Zki at i1 ⊢
  by_cases q:vof t.2=x
  ·rw[Xa7 (by rw[Xae q];decide),Xa8 (p:=fun t:Int×Int=>decide (vof t.2=x)) (Xae q),XaQ,XbN,Zfb]
   refine⟨?_,i2⟩
   cases ZR v t.2 with
   |true=>rw[ctt];omega
   |false=>rw[cff];omega
  ·rw[Xa8 (by rw[decide_eq_false q];rfl),Xa7 (p:=fun t:Int×Int=>decide (vof t.2=x)) (by rw[Xaf];exact q),Zfb,Zfb]
   cases ZR v t.2 with
   |true=>rw[ctt];omega
   |false=>rw[cff];omega
theorem ZIU {c:Zbt} {x:Int} {v:List Bool} (hc:ZD c=true) (h:ZW v c=true):ZW v (ZBp c x)=true:=by
 rw[ZpX]at h ⊢
 obtain⟨w1,w2⟩:=ZF1 (v:=v) (x:=x) c.1 (fun t ht=>(ZpV hc t ht).2)
 show max 0 (c.2 - Zki c.1 x)≤Zcy v (c.1.filter (fun t=>!decide (vof t.2=x)))
 omega
theorem ZI0 {a b:Zbt} {v:List Bool} (ha:ZD a=true) (hb:ZD b=true) (h1:ZW v a=true) (h2:ZW v b=true) (hr:(Zva a b).1=true):ZW v (ofR (Zva a b))=true:=by
 unfold Zva at hr ⊢
 rw[ha,hb,Xaj,ctt]at hr ⊢
 rw[(ZvP hr).1,ZC9 (ZJz ha hb),Xaf,Zqb]
 rw[ZpX]at h1 h2
 omega
theorem ZKO {l:Int} {v:List Bool}:ZW v ([(1,l)],0)=true:=by
 rw[ZpX]
 show (0:Int)≤Zcy v [(1,l)]
 rw[Zv0]
 cases ZR v l with
 |true=>rw[ctt];exact Int.one_nonneg
 |false=>rw[cff];exact Xaq _
end Go.AE.Y
namespace Go.AE.Y
open Go Go.AE
set_option maxHeartbeats 400000
def ZoJ (L:Zu) (p:List Int):Prop:=∀c∈L,0≤ZbM c.1 p c.1.length - c.2
theorem ZFw {c:List (Int×Int)×Int} {o5 r9:List Int} (hp:OkP o5) (hr:r9.length≤1048576) (h9:∀l∈r9,ZX l=true∧unZ l o5=0∧∀v,agP o5 v→ZW v c=true→ZR v l=true) (m4:Bool) {i3:Int} (hi:0≤i3∧i3≤2000000) :
  ∃md out,loop (ZcB i3 r9) (m4,(0:Int),o5)=some (.inl (md,i3+1,out))∧OkP out∧(∀v,agP o5 v→ZW v c=true→agP out v)∧(∀j,out.getD j 0=0→o5.getD j 0=0)∧((md=m4∧out=o5)∨(md=true∧zcN out 12<zcN o5 12)):=by
 have key:=Zb4 (f:=ZcB i3 r9) (fun s:Bool×Int×List Int=>∃n:Nat,s.2.1=n∧n≤r9.length∧OkP s.2.2∧(∀v,agP o5 v→ZW v c=true→agP s.2.2 v)∧(∀j,s.2.2.getD j 0=0→o5.getD j 0=0)∧((n=0∧s.1=m4∧s.2.2=o5)∨(s.1=true∧zcN s.2.2 12<zcN o5 12))) (fun s=>r9.length - s.2.1.toNat)
  (fun r=>∃md out,r = .inl (md,i3+1,out)∧OkP out∧(∀v,agP o5 v→ZW v c=true→agP out v)∧(∀j,out.getD j 0=0→o5.getD j 0=0)∧((md=m4∧out=o5)∨(md=true∧zcN out 12<zcN o5 12))) ?_ (m4,(0:Int),o5) ⟨0,rfl,Nat.zero_le _,hp,fun v h _=>h,fun j h=>h,Or.inl ⟨rfl,rfl,rfl⟩⟩
 ·obtain⟨r,e,md,out,rfl,h⟩:=key
  exact⟨md,out,e,h⟩
 rintro⟨md,s,o⟩ ⟨n,hs,hn,ho,ha,hz,hc⟩
 dsimp only at hs ho ha hz hc ⊢
 subst hs
 unfold ZcB
 dsimp only
 rcases Xad n r9.length with h1|h1
 ·left
  obtain⟨l1,l2,l3⟩:=h9 _ (Zz (l:=r9) (i:=n) (d:=0) h1)
  have hl:=Zy.1 l1
  obtain⟨s1,s2,s3,s4,s5,_⟩:=Zp9 l1 ho
  have ho12:=ho.1
  have hz0:zcN (ZdF (r9.getD n 0) o) 12<zcN o5 12:=by
   rcases hc with⟨h0,_,h2⟩|⟨_,h2⟩
   ·subst h2
    have:=s4 l2
    omega
   ·omega
  have inv:∃n':Nat,((n:Int)+1)=n'∧n'≤r9.length∧OkP (ZdF (r9.getD n 0) o)∧(∀v,agP o5 v→ZW v c=true→agP (ZdF (r9.getD n 0) o) v)∧(∀j,(ZdF (r9.getD n 0) o).getD j 0=0→o5.getD j 0=0)∧((n'=0∧true=m4∧ZdF (r9.getD n 0) o=o5)∨(true=true∧zcN (ZdF (r9.getD n 0) o) 12<zcN o5 12)):=
   ⟨n+1,by simp,by omega,s1,fun v h1 h2=>s2 v (ha v h1 h2) (l3 v h1 h2),fun j h=>hz j (s5 j h),Or.inr ⟨rfl,hz0⟩⟩
  rw[Zc (by omega),Zb ⟨by omega,by omega⟩,Xab]
  refine⟨(true,(n:Int)+1,ZdF (r9.getD n 0) o),?_,inv,by (try dsimp only)<;>omega⟩
  unfold ZdF
  by_cases q:0<r9.getD n 0
  ·rw[Zc q,if_pos q,Zf (by omega) (by omega),Zb ⟨by omega,by omega⟩,Zf (by omega) (by omega)]
  ·rw[Zd q,if_neg q,Zf (by omega) (by omega),Zf (by omega) (by omega),Zb ⟨by omega,by omega⟩,Zf (by omega) (by omega)]
 ·right
  rw[Zd (by omega),Zf (by omega) (by omega)]
  refine⟨_,rfl,md,o,rfl,ho,ha,hz,?_⟩
  rcases hc with⟨_,h2⟩|h2
  ·exact Or.inl h2
  ·exact Or.inr h2
def Two (L:Zu) (o3 out:List Int):Prop:=OkP out∧(∀v,agP o3 v→Zek L v→agP out v)∧∀j,out.getD j 0=0→o3.getD j 0=0
theorem ZFv {L:Zu} {o3:List Int} (hL:Zbr L) (hl:L.length≤1048576) (hp:OkP o3) :
  ∃r,loop (ZbI L) (false,(0:Int),o3)=some r∧((∃md out,r = .inl (md,out)∧Two L o3 out∧((md=false∧out=o3∧ZoJ L o3)∨(md=true∧zcN out 12<zcN o3 12)))∨(∃i out,r = .inr (i,out)∧0≤i∧Two L o3 out∧∀v,agP o3 v→¬Zek L v)):=by
 refine Zb4 (f:=ZbI L) (fun s:Bool×Int×List Int=>∃n:Nat,s.2.1=n∧n≤L.length∧Two L o3 s.2.2∧((s.1=false∧s.2.2=o3∧∀k,k<n→0≤ZbM (L.getD k ([],0)).1 o3 (L.getD k ([],0)).1.length - (L.getD k ([],0)).2)∨(s.1=true∧zcN s.2.2 12<zcN o3 12))) (fun s=>L.length - s.2.1.toNat) _ ?_ _ ⟨0,rfl,Nat.zero_le _,⟨hp,fun v h _=>h,fun j h=>h⟩,Or.inl ⟨rfl,rfl,fun k hk=>by omega⟩⟩
 rintro⟨md,s,o⟩ ⟨n,hs,hn,⟨t1,t2,t3⟩,hc⟩
 dsimp only at hs t1 t2 t3 hc ⊢
 subst hs
 unfold ZbI
 dsimp only
 rcases Xad n L.length with h1|h1
 ·have hmem:=Zz (l:=L) (i:=n) (d:=([],0)) h1
  obtain⟨g1,g2⟩:=hL _ hmem
  rw[Zc (by omega),Zb ⟨by omega,by omega⟩,Xab,Zgo g1 g2 t1,Ze]
  by_cases q:ZbM (L.getD n ([],0)).1 o (L.getD n ([],0)).1.length - (L.getD n ([],0)).2<0
  ·right
   rw[Zc q]
   exact⟨_,rfl,Or.inr ⟨n,o,rfl,by omega,⟨t1,t2,t3⟩,fun v ha hs=>Zyb g1 t1 (t2 v ha hs) q (hs _ hmem)⟩⟩
  ·left
   obtain⟨r9,e9,k1,k2⟩:=ZtP g1 g2 t1
   obtain⟨md',out,e3,u1,u2,u3,u4⟩:=ZFw t1 k1 k2 md (i3:=(n:Int)) ⟨by omega,by omega⟩
   rw[Zd q,e9,Ze,e3]
   refine⟨_,rfl,⟨n+1,by simp,by omega,⟨u1,fun v ha hs=>u2 v (t2 v ha hs) (hs _ hmem),fun j h=>t3 j (u3 j h)⟩,?_⟩,by (try dsimp only)<;>omega⟩
   dsimp only
   rcases u4 with⟨rfl,rfl⟩|⟨rfl,hz⟩
   ·rcases hc with⟨c1,c2,c3⟩|c
    ·refine Or.inl ⟨c1,c2,fun k hk=>?_⟩
     rcases Xad k n with h2|h2
     ·exact c3 k h2
     ·rw[show k=n by omega,←c2];omega
    ·exact Or.inr c
   ·refine Or.inr ⟨rfl,?_⟩
    rcases hc with⟨c1,c2,c3⟩|c
    ·rw[←c2];exact hz
    ·have:=c.2;omega
 ·right
  have hnn:n=L.length:=by omega
  rw[Zd (by omega)]
  refine⟨_,rfl,Or.inl ⟨md,o,rfl,⟨t1,t2,t3⟩,?_⟩⟩
  rcases hc with⟨c1,c2,c3⟩|c
  ·refine Or.inl ⟨c1,c2,fun x hx=>?_⟩
   obtain⟨k,hk,rfl⟩:=Xan.1 hx
   have:=c3 k (by omega)
   rwa [Xaa,Xac hk]at this
  ·exact Or.inr c
theorem Zl0 {s:List Int} (h:s.length≤1048576):ZbT s=some s:=by
 unfold ZbT
 refine ZxQ (fun e=>by rw[e]) ?_
 rw[Zb (by simp only[Xao,Zl];omega),Xat]
theorem Ze8 {L:Zu} {p:List Int} (hL:Zbr L) (hl:L.length≤1048576) (hp:OkP p) :
  ∃r,ZbH L p=some r∧Two L p r.2∧((r.1 = -1∧ZoJ L r.2)∨(0≤r.1∧∀v,agP p v→¬Zek L v)):=by
 unfold ZbH
 rw[Zl0 (by have:=hp.1;omega),Ze]
 refine Zb4 (f:=ZcA L) (fun s:Bool×List Int=>Two L p s.2∧(s.1=false→ZoJ L s.2)) (fun s=>bif s.1 then 2*zcN s.2 12+1 else 0) (fun r=>Two L p r.2∧((r.1 = -1∧ZoJ L r.2)∨(0≤r.1∧∀v,agP p v→¬Zek L v))) ?_ _ ⟨⟨hp,fun v h _=>h,fun j h=>h⟩,fun h=>by cases h⟩
 rintro⟨md,o⟩ ⟨⟨t1,t2,t3⟩,hk⟩
 dsimp only at t1 t2 t3 hk ⊢
 unfold ZcA
 dsimp only
 cases md with
 |false=>
  right
  rw[cff]
  exact⟨_,rfl,⟨t1,t2,t3⟩,Or.inl ⟨rfl,hk rfl⟩⟩
 |true=>
  rw[ctt]
  obtain⟨r,e,h|h⟩:=ZFv hL hl t1
  ·obtain⟨md',out,rfl,⟨u1,u2,u3⟩,hc⟩:=h
   left
   rw[e]
   refine⟨_,rfl,⟨⟨u1,fun v ha hs=>u2 v (t2 v ha hs) hs,fun j h=>t3 j (u3 j h)⟩,?_⟩,?_⟩
   ·dsimp only
    intro hf
    rcases hc with⟨_,c2,c3⟩|⟨c1,_⟩
    ·rw[c2];exact c3
    ·rw[c1]at hf;cases hf
   ·dsimp only
    rw[ctt]
    rcases hc with⟨c1,_,_⟩|⟨c1,c2⟩
    ·rw[c1,cff];omega
    ·rw[c1,ctt];omega
  ·obtain⟨i,out,rfl,h0,⟨u1,u2,u3⟩,hc⟩:=h
   right
   rw[e]
   exact⟨_,rfl,⟨u1,fun v ha hs=>u2 v (t2 v ha hs) hs,fun j h=>t3 j (u3 j h)⟩,Or.inr ⟨h0,fun v ha hs=>hc v (t2 v ha hs) hs⟩⟩
theorem Zn7 {p:List Int} (hp:OkP p):∃r,Zgp p=some r∧((r=(0,true,p.map (fun n=>decide (0<n)))∧∀j,j<12→p.getD j 0≠0)∨(∃k:Nat,k<12∧p.getD k 0=0∧r=((k:Int)+1,false,[]))):=by
 have h12:=hp.1
 unfold Zgp
 refine Zb4 (f:=Zhv p) (fun s:Int×List Bool=>∃n:Nat,s.1=n∧n≤12∧s.2=(p.take n).map (fun n=>decide (0<n))∧∀j,j<n→p.getD j 0≠0) (fun s=>12 - s.1.toNat) _ ?_ _ ⟨0,rfl,by omega,by rw[XaR];rfl,fun j hj=>by omega⟩
 rintro⟨s,o⟩ ⟨n,hs,hn,ho,hz⟩
 dsimp only at hs ho hz ⊢
 subst hs
 subst ho
 unfold Zhv
 dsimp only
 rcases Xad n 12 with h1|h1
 ·rw[Zc (by omega),Zb ⟨by omega,by omega⟩,Xab]
  by_cases q:p.getD n 0=0
  ·right
   rw[Zx q,Zf (by omega) (by omega)]
   exact⟨_,rfl,Or.inr ⟨n,h1,q,rfl⟩⟩
  ·left
   rw[Zt q,Zb (by simp[Zl];omega),Zf (by omega) (by omega)]
   refine⟨_,rfl,⟨n+1,by simp,by omega,?_,fun j hj=>?_⟩,by (try dsimp only)<;>omega⟩
   ·dsimp only
    rw[Xbh,Xac (show n<p.length by omega),Xa0,Xaa,Xac (show n<p.length by omega)]
    rfl
   ·rcases Xad j n with h2|h2
    ·exact hz j h2
    ·rw[show j=n by omega];exact q
 ·right
  have hnn:n=12:=by omega
  unfold Zku
  rw[Zd (by omega)]
  exact⟨_,rfl,Or.inl ⟨by rw[hnn,←h12,XaA],fun j hj=>hz j (by omega)⟩⟩
def Zcg (D:List Int):Prop:=(∀x∈D,ZX x=true)∧∀i j,i<D.length→j<D.length→vof (D.getD i 0)=vof (D.getD j 0)→i=j
def agD (D:List Int) (v:List Bool):Prop:=∀x∈D,ZR v x=true
def ZdZ (D:List Int):Nat→List Int
 |0=>List.replicate 12 0
 |n+1=>ZdF (D.getD n 0) (ZdZ D n)
theorem ZyA (j:Nat):(List.replicate 12 (0:Int)).getD j 0=0:=by
 rw[Xaa]
 rcases Xad j 12 with h|h
 ·rw[XaO h];rfl
 ·rw[Xaw (by rw[XaG];exact h)];rfl
theorem ZjB {D:List Int} (hD:Zcg D):∀n,n≤D.length→OkP (ZdZ D n)∧(∀v,agD D v→agP (ZdZ D n) v)∧(∀j,(ZdZ D n).getD j 0=0→∀i,i<n→vof (D.getD i 0)≠(j:Int)+1)∧(∀j,(ZdZ D n).getD j 0≠0→∃i,i<n∧vof (D.getD i 0)=(j:Int)+1)∧zcN (ZdZ D n) 12+n=12
 |0,_=>⟨⟨rfl,fun j=>Or.inl (ZyA j)⟩,fun v _ j hne=>absurd (ZyA j) hne,fun j _ i hi=>(by omega),fun j hne=>absurd (ZyA j) hne,(by show zcN (List.replicate 12 0) 12+0=12;decide)⟩
 |n+1,h=>by
  obtain⟨i1,i2,i3,i4,i5⟩:=ZjB hD n (by omega)
  have hmem:=Zz (l:=D) (i:=n) (d:=0) (by omega)
  have hl:=hD.1 _ hmem
  have hlit:=Zy.1 hl
  obtain⟨s1,s2,s3,s4,s5,s6⟩:=Zp9 hl i1
  have hvr:1≤vof (D.getD n 0)∧vof (D.getD n 0)≤12:=by unfold vof;omega
  have hun:unZ (D.getD n 0) (ZdZ D n)=0:=by
   have hz:(ZdZ D n).getD (vof (D.getD n 0) - 1).toNat 0=0:=by
    by_cases q:(ZdZ D n).getD (vof (D.getD n 0) - 1).toNat 0=0
    ·exact q
    ·obtain⟨i,hi,e⟩:=i4 _ q
     have:=hD.2 i n (by omega) (by omega) (by rw[e];omega)
     omega
   unfold unZ
   unfold vof at hz
   split
   ·rw[show (0 - D.getD n 0 - 1)=max (D.getD n 0) (-(D.getD n 0)) - 1 by omega,hz];rfl
   ·rw[show (D.getD n 0 - 1)=max (D.getD n 0) (-(D.getD n 0)) - 1 by omega,hz]
  refine⟨s1,fun v ha=>s2 v (i2 v ha) (ha _ hmem),fun j h0 i hi=>?_,fun j hne=>?_,?_⟩
  ·have h0':(ZdF (D.getD n 0) (ZdZ D n)).getD j 0=0:=h0
   rw[s6]at h0'
   by_cases q:(j:Int)+1=vof (D.getD n 0)
   ·rw[if_pos q]at h0'
    split at h0'<;>omega
   ·rw[if_neg q]at h0'
    rcases Xad i n with h2|h2
    ·exact i3 j h0' i h2
    ·rw[show i=n by omega];omega
  ·have hne':(ZdF (D.getD n 0) (ZdZ D n)).getD j 0≠0:=hne
   rw[s6]at hne'
   by_cases q:(j:Int)+1=vof (D.getD n 0)
   ·exact⟨n,by omega,by omega⟩
   ·rw[if_neg q]at hne'
    obtain⟨i,hi,e⟩:=i4 j hne'
    exact⟨i,by omega,e⟩
  ·have:=s4 hun
   show zcN (ZdF (D.getD n 0) (ZdZ D n)) 12+(n+1)=12
   omega
theorem Zf7 {D:List Int} (hD:Zcg D):D.length≤12:=by
 have:=(ZjB hD D.length (Nat.le_refl _)).2.2.2.2
 omega
theorem ZpW {D:List Int} {l:Int} (hD:Zcg D) (hl:ZX l=true) (hn:∀i,i<D.length→vof (D.getD i 0)≠vof l):Zcg (D++[l]):=by
 have hg:∀i,i<D.length→(D++[l]).getD i 0=D.getD i 0:=fun i hi=>by rw[Xaa,XaU hi,←Xaa]
 have hg':(D++[l]).getD D.length 0=l:=by rw[Xaa,XaT (Nat.le_refl _),Nat.sub_self];rfl
 refine⟨fun x hx=>?_,fun i j hi hj e=>?_⟩
 ·rcases List.mem_append.1 hx with hx|hx
  ·exact hD.1 x hx
  ·rw[Xah]at hx;rw[hx];exact hl
 ·rw[Xal,Xav]at hi hj
  rcases Xad i D.length with h1|h1<;>rcases Xad j D.length with h2|h2
  ·rw[hg i h1,hg j h2]at e
   exact hD.2 i j h1 h2 e
  ·rw[hg i h1,show j=D.length by omega,hg']at e
   exact absurd e (hn i h1)
  ·rw[hg j h2,show i=D.length by omega,hg']at e
   exact absurd e.symm (hn j h2)
  ·omega
theorem Zlb {D:List Int} (hD:Zcg D):ZcN (Zbb D)=true:=by
 unfold ZcN Zbb
 simp only[Xag,Xar,XaW,XaN,beq_iff_eq]
 refine⟨fun x hx=>?_,fun x hx y hy e=>?_⟩
 ·obtain⟨z,hz,rfl⟩:=XaF.1 hx
  rw[ZJn]
  exact hD.1 z hz
 ·obtain⟨z,hz,rfl⟩:=XaF.1 hx
  obtain⟨w,hw,rfl⟩:=XaF.1 hy
  obtain⟨i,hi,rfl⟩:=Xan.1 hz
  obtain⟨j,hj,rfl⟩:=Xan.1 hw
  have e1:D.getD i 0=D[i]:=by rw[Xaa,Xac hi];rfl
  have e2:D.getD j 0=D[j]:=by rw[Xaa,Xac hj];rfl
  have:=hD.2 i j hi hj (by rw[e1,e2];unfold vof;omega)
  subst this
  have:=Zy.1 (hD.1 _ hz)
  omega
abbrev VR:=Bool×Int×Bool×List Bool×Zu×List ZC
structure Ext (L:Zu) (S:List ZC) (L':Zu) (S':List ZC):Prop where
 good:Zbr L'
 len:L'.length+S.length=L.length+S'.length
 up:S.length≤S'.length
 top:S'.length≤1000
 sound:∀v,Zek L v→Zek L' v
 back:∀v,Zek L' v→Zek L v
structure ZfF (D:List Int) (L:Zu) (S:List ZC) (fuel:Int) (r:VR):Prop where
 fu:0≤r.2.1∧r.2.1≤fuel
 ext:Ext L S r.2.2.2.2.1 r.2.2.2.2.2
 sat:r.1=true→r.2.2.2.1.length=12∧Zek L r.2.2.2.1
 no:r.1=false→r.2.2.1=false→∀v,Zek L v→¬agD D v
theorem Ext.refl {L:Zu} {S:List ZC} (h:Zbr L) (hs:S.length≤1000):Ext L S L S:=⟨h,by omega,Nat.le_refl _,hs,fun _ h=>h,fun _ h=>h⟩
theorem Ext.trans {L L' L'':Zu} {S S' S'':List ZC} (a:Ext L S L' S') (b:Ext L' S' L'' S''):Ext L S L'' S'':=
 ⟨b.good,by have:=a.len;have:=b.len;omega,XbO a.up b.up,b.top,fun v h=>b.sound v (a.sound v h),fun v h=>a.back v (b.back v h)⟩
theorem ZG9 {D:List Int} {L:Zu} {S:List ZC} (hD:Zcg D) (hL:Zbr L) (hl:L.length≤2000) (hS:S.length<1000) (hno:∀v,Zek L v→¬agD D v) (f:Int) (m:Bool) :
  ∃r,Zct D f m L S=some r∧Ext L S r.1 r.2:=by
 have hd:=Zf7 hD
 have hneg:∀x∈D,x≠0:=fun x hx=>(Zy.1 (hD.1 x hx)).1
 have hlo:=Zlb hD
 have hc:Zio (Zbb D)=(true,1,Z1 (Zbm (Zbb D))):=by
  unfold Zio
  rw[hlo,Xae (show (Zbb D).length≤40 by unfold Zbb;rw[Xak];omega)]
  rfl
 have hcon:ZD (Z1 (Zbm (Zbb D)),1)=true:=ZtF (fun x hx=>(ZfL hlo).1 x ((Zg9 hlo x).1 hx)) (ZoF hlo)
 have hev:∀v,ZW v (Z1 (Zbm (Zbb D)),1) = !(D.all (ZR v)):=fun v=>by rw[ZCX,ZG1 (Zg9 hlo),ZG2 hneg]
 have hlf:=Zmp (Zbb D)
 have hol:(Z1 (Zbm (Zbb D))).length≤12:=by unfold Z1;rw[Xak];exact hlf
 refine⟨(L++[(Z1 (Zbm (Zbb D)),1)],S++[((7:Int),((0:Int),((0:Int),(Z1 (Zbm (Zbb D)),(1:Int)))))]),?_,?_⟩
 ·unfold Zct
  refine(ZbU (f:=ZbC D L S) D 0 (fun x=>0 - x) [] (fun _=>(L++[(Z1 (Zbm (Zbb D)),1)],S++[((7:Int),((0:Int),((0:Int),(Z1 (Zbm (Zbb D)),(1:Int)))))])) (fun i out hi ho=>?_) ?_)
  ·have:=Zy.1 (hD.1 _ (Zz (l:=D) (i:=i) (d:=0) hi))
   unfold ZbC
   dsimp only
   rw[Zc (by omega),Zb ⟨by omega,by omega⟩,Xab,Zf (by omega) (by omega),Zb (by simp only[Zl,Xap,Xao];simp at ho;omega),Zf (by omega) (by omega)]
  ·unfold ZbC Zem Zen
   dsimp only
   rw[Zd (by omega),Xat,show D.map (fun x=>0 - x)=Zbb D from rfl,Zkm _ (by unfold Zbb;rw[Xak];omega),Ze,hc]
   dsimp only
   rw[Zb (by simp[Zl];omega),ZA3 _ (by (try dsimp only)<;>omega),Ze,Zb (by simp[Zl];omega)]
   rfl
 ·refine⟨fun c hcm=>?_,by simp;omega,by simp,by simp;omega,fun v h c hcm=>?_,fun v h c hcm=>h c (Xa4 _ hcm)⟩
  ·rcases List.mem_append.1 hcm with h|h
   ·exact hL c h
   ·rw[Xah]at h
    subst h
    exact⟨hcon,by (try dsimp only)<;>omega⟩
  ·rcases List.mem_append.1 hcm with h2|h2
   ·exact h c h2
   ·rw[Xah]at h2
    subst h2
    rw[hev]
    cases hb:D.all (ZR v)with
    |false=>rfl
    |true=>exact absurd (Xar.1 hb) (hno v h)
theorem ZBo {D:List Int} {L:Zu} {S:List ZC} {fuel:Int} {rec_:List Int→Int→Bool→Zu→List ZC→Option VR}
  (hrec:∀(l:Int) (L':Zu) (S':List ZC) (f':Int),Zcg (D++[l])→Zbr L'→L'.length≤400+S'.length→S'.length≤1000→(0≤f'∧f'≤2000)→∃r,rec_ (D++[l]) f' false L' S'=some r∧ZfF (D++[l]) L' S' f' r)
  (hD:Zcg D) (hL:Zbr L) (hl:L.length≤400+S.length) (hS:S.length≤1000) (hf:0≤fuel∧fuel≤2000):∃r,ZK rec_ D fuel false L S=some r∧ZfF D L S fuel r:=by
 have hd:=Zf7 hD
 have much:ZfF D L S fuel (false,fuel,true,([]:List Bool),L,S):=⟨⟨hf.1,Xaq _⟩,Ext.refl hL hS,fun h=>(by cases h),fun _ h=>(by cases h)⟩
 unfold ZK
 by_cases q1:fuel=0
 ·exact⟨_,by rw[Zx q1],much⟩
 rw[Zt q1]
 by_cases q2:1000≤(S.length:Int)
 ·exact⟨_,by rw[Zc q2],much⟩
 rw[Zd q2,Zf (by omega) (by omega),Zb ⟨by omega,by simp only[Zl];omega,rfl⟩]
 obtain⟨p1,p2,p3,p4,p5⟩:=ZjB hD D.length (Nat.le_refl _)
 have tail:∃r,ZV D fuel false L S rec_ (ZdZ D D.length)=some r∧ZfF D L S fuel r:=by
  unfold ZV
  obtain⟨⟨i,out⟩,e1,⟨t1,t2,t3⟩,hc⟩:=Ze8 hL (by omega) p1
  dsimp only at t1 t2 t3 hc
  rw[e1,Ze]
  dsimp only
  have failed:∀(f:Int) (L':Zu) (S':List ZC),(0≤f∧f≤fuel)→Ext L S L' S'→S'.length<1000→(∀v,Zek L v→¬agD D v)→∃r,Zbd D (f,false,L',S')=some r∧ZfF D L S fuel r:=fun f L' S' hf' hx hs' hno=>by
   obtain⟨⟨L2,S2⟩,e,hx2⟩:=ZG9 hD hx.good (by have:=hx.len;omega) hs' (fun v hv=>hno v (hx.back v hv)) f false
   unfold Zbd
   dsimp only
   rw[e,Ze]
   exact⟨_,rfl,⟨hf',hx.trans hx2,fun h=>(by cases h),fun _ _=>hno⟩⟩
  rcases hc with⟨rfl,hk⟩|⟨h0,hk⟩
  ·rw[Zc (by omega)]
   obtain⟨r4,e4,h|h⟩:=Zn7 t1
   ·obtain⟨rfl,ht⟩:=h
    rw[e4,Ze]
    dsimp only
    rw[ctt]
    refine⟨_,rfl,⟨⟨by (try dsimp only)<;>omega,by (try dsimp only)<;>omega⟩,Ext.refl hL hS,fun _=>⟨by show (out.map _).length=12;rw[Xak];exact t1.1,fun c hcm=>?_⟩,fun h=>(by cases h)⟩⟩
    have ha:agP out (out.map (fun n=>decide (0<n))):=fun j hne=>by
     rcases Xad j out.length with h1|h1
     ·rw[Xaa,Xbi,Xac h1,Xaa,Xac h1]
      rfl
     ·rw[Xaa,Xaw h1]at hne
      exact absurd rfl hne
    exact ZDd (hL c hcm).1 t1 ha ht (hk c hcm)
   ·obtain⟨k,hk12,hk0,rfl⟩:=h
    rw[e4,Ze]
    dsimp only
    rw[cff,Zf (by omega) (by omega)]
    have hvar:∀l:Int,vof l=(k:Int)+1→∀i,i<D.length→vof (D.getD i 0)≠vof l:=fun l hl i hi=>by
     rw[hl]
     exact p3 k (t3 k hk0) i hi
    refine Zb4 (f:=Zbv D ((k:Int)+1,false,[]) rec_) (fun s:Int×Int×Bool×Zu×List ZC=>∃n:Nat,s.1=n∧n≤2∧(0≤s.2.1∧s.2.1≤fuel)∧s.2.2.1=false∧Ext L S s.2.2.2.1 s.2.2.2.2∧(1≤n→∀v,Zek L v→agD D v→ZR v ((k:Int)+1)=false)∧(2≤n→∀v,Zek L v→agD D v→ZR v (0 - ((k:Int)+1))=false)) (fun s=>2 - s.1.toNat) (ZfF D L S fuel) ?_ _ ⟨0,rfl,by omega,⟨by (try dsimp only)<;>omega,by (try dsimp only)<;>omega⟩,rfl,Ext.refl hL hS,fun h=>by omega,fun h=>by omega⟩
    rintro⟨s,f,m,L',S'⟩ ⟨n,hs,hn,hf',hm,hx,g1,g2⟩
    dsimp only at hs hf' hm hx g1 g2 ⊢
    subst hs
    subst hm
    unfold Zbv
    dsimp only
    rcases Xad n 2 with h1|h1
    ·have hlit:∃l,[((k:Int)+1),(0 - ((k:Int)+1))].getD n 0=l∧vof l=(k:Int)+1∧ZX l=true∧((n=0∧l=(k:Int)+1)∨(n=1∧l=0 - ((k:Int)+1))):=by
      have:n=0∨n=1:=by omega
      rcases this with rfl|rfl
      ·exact⟨(k:Int)+1,rfl,by unfold vof;omega,Zy.2 ⟨by omega,by omega,by omega⟩,Or.inl ⟨rfl,rfl⟩⟩
      ·exact⟨0 - ((k:Int)+1),rfl,by unfold vof;omega,Zy.2 ⟨by omega,by omega,by omega⟩,Or.inr ⟨rfl,rfl⟩⟩
     obtain⟨l,el,hv,hli,hnl⟩:=hlit
     have hlen:=hx.len
     have htop:=hx.top
     obtain⟨r8,e8,⟨f1,x1,sa1,no1⟩⟩:=hrec l L' S' f (ZpW hD hli (hvar l hv)) hx.good (by omega) htop ⟨by omega,by omega⟩
     rw[Zc (by simp;omega),Zb ⟨by omega,by simp;omega⟩,Xab,el,Zl0 (by omega),Ze,Zb (by simp[Zl];omega),e8,Ze]
     cases hok:r8.1 with
     |true=>
      right
      rw[ctt]
      refine⟨_,rfl,⟨⟨by (try dsimp only)<;>omega,by (try dsimp only)<;>omega⟩,hx.trans x1,fun _=>⟨(sa1 hok).1,fun c hcm=>?_⟩,fun h=>(by cases h)⟩⟩
      exact hx.back _ (sa1 hok).2 c hcm
     |false=>
      rw[cff]
      cases hmu:r8.2.2.1 with
      |true=>
       right
       rw[ctt]
       exact⟨_,rfl,⟨⟨by (try dsimp only)<;>omega,by (try dsimp only)<;>omega⟩,hx.trans x1,fun h=>(by cases h),fun _ h=>(by cases h)⟩⟩
      |false=>
       left
       have hno:∀v,Zek L v→agD D v→ZR v l=false:=fun v h1 h2=>by
        cases hb:ZR v l with
        |false=>rfl
        |true=>
         exfalso
         refine no1 hok hmu v (hx.sound v h1) (fun x hxm=>?_)
         rcases List.mem_append.1 hxm with h|h
         ·exact h2 x h
         ·rw[Xah]at h;rw[h];exact hb
       rw[cff,Zf (by omega) (by omega)]
       refine⟨_,rfl,⟨n+1,by simp,by omega,⟨by (try dsimp only)<;>omega,by (try dsimp only)<;>omega⟩,rfl,hx.trans x1,fun _=>?_,fun h2=>?_⟩,by (try dsimp only)<;>omega⟩
       ·rcases hnl with⟨rfl,rfl⟩|⟨rfl,rfl⟩
        ·exact hno
        ·exact g1 (by omega)
       ·rcases hnl with⟨rfl,rfl⟩|⟨rfl,rfl⟩
        ·omega
        ·exact hno
    ·right
     have hn2:n=2:=by omega
     rw[Zd (by simp;omega)]
     unfold Zdb
     dsimp only
     have hno:∀v,Zek L v→¬agD D v:=fun v h1 h2=>by
      have a1:=g1 (by omega) v h1 h2
      have a2:=g2 (by omega) v h1 h2
      rw[ZoE (by omega),a1]at a2
      cases a2
     by_cases q3:1000≤(S'.length:Int)
     ·rw[Zc q3]
      exact⟨_,rfl,⟨⟨by (try dsimp only)<;>omega,by (try dsimp only)<;>omega⟩,hx,fun h=>(by cases h),fun _ h=>(by cases h)⟩⟩
     ·rw[Zd q3]
      obtain⟨r,e,hr⟩:=failed f L' S' hf' hx (by omega) hno
      rw[e]
      exact⟨_,rfl,hr⟩
  ·rw[Zd (by omega)]
   exact failed _ L S ⟨by omega,by omega⟩ (Ext.refl hL hS) (by omega) (fun v h1 h2=>hk v (p2 v h2) h1)
 obtain⟨r,er,hr⟩:=tail
 refine⟨r,?_,hr⟩
 refine ZJ (f:=Zbe D fuel false L S rec_) (fun s:Int×List Int=>∃n:Nat,s.1=n∧n≤D.length∧s.2=ZdZ D n) (fun s=>D.length - s.1.toNat) (fun _=>r) ?_ _ ⟨0,rfl,Nat.zero_le _,rfl⟩
 rintro⟨s,o⟩ ⟨n,hs,hn,ho⟩
 dsimp only at hs ho ⊢
 subst hs
 subst ho
 unfold Zbe
 dsimp only
 rcases Xad n D.length with h1|h1
 ·left
  have hlit:=Zy.1 (hD.1 _ (Zz (l:=D) (i:=n) (d:=0) h1))
  have h12:=(ZjB hD n hn).1.1
  have hvv:vof (D.getD n 0)=if 0<D.getD n 0 then D.getD n 0 else 0 - D.getD n 0:=by unfold vof;split<;>omega
  refine⟨((n:Int)+1,ZdZ D (n+1)),?_,⟨n+1,by simp,by omega,rfl⟩,by (try dsimp only)<;>omega,rfl⟩
  rw[Zc (by omega),Zb ⟨by omega,by omega⟩,Xab,Zd4 (by omega),Ze]
  have e:ZdZ D (n+1)=ZdF (D.getD n 0) (ZdZ D n):=rfl
  rw[e]
  unfold ZdF
  by_cases q:0<D.getD n 0
  ·rw[if_pos q]at hvv
   rw[hvv,if_pos q,Zf (by omega) (by omega),Zb ⟨by omega,by omega⟩,Zd (by omega),Zf (by omega) (by omega)]
  ·rw[if_neg q]at hvv
   rw[hvv,if_neg q,Zf (by omega) (by omega),Zb ⟨by omega,by omega⟩,Zc (by omega),Zf (by omega) (by omega),Zf (by omega) (by omega),Zb ⟨by omega,by rw[Xam];omega⟩,Zf (by omega) (by omega),List.set_set]
 ·right
  have:n=D.length:=by omega
  subst this
  rw[Zd (by omega),er]
  rfl
theorem ZAb:∀(n:Nat) (D:List Int) (L:Zu) (S:List ZC) (fuel:Int),Zcg D→Zbr L→L.length≤400+S.length→S.length≤1000→(0≤fuel∧fuel≤2000)→13≤n+D.length→∃r,ZA n D fuel false L S=some r∧ZfF D L S fuel r
 |0,D,L,S,fuel,hD,_,_,_,_,hn=>by have:=Zf7 hD;omega
 |n+1,D,L,S,fuel,hD,hL,hl,hS,hf,hn=>by
  show ∃r,ZK (ZA n) D fuel false L S=some r∧_
  exact ZBo (fun l L' S' f' h1 h2 h3 h4 h5=>ZAb n (D++[l]) L' S' f' h1 h2 h3 h4 h5 (by rw[Xal,Xav];omega)) hD hL hl hS hf
end Go.AE.Y
namespace Go.AE.Y
open Go Go.AE
theorem Zs6 {S R:Type} (I:S→Prop) {f g:S→Option (S⊕R)} (h:∀s,I s→f s=g s) (hI:∀s s',I s→g s=some (.inl s')→I s'):∀(n:Nat) (s:S),I s→ZcC f n s=ZcC g n s
 |0,_,_=>rfl
 |n+1,s,hs=>by
  unfold ZcC
  rw[h s hs]
  cases hg:g s with
  |none=>rfl
  |some a=>
   cases a with
   |inr r=>rfl
   |inl s'=>exact Zs6 I h hI n s' (hI s s' hs hg)
theorem ZvF {S R:Type} (I:S→Prop) {f g:S→Option (S⊕R)} (h:∀s,I s→f s=g s) (hI:∀s s',I s→g s=some (.inl s')→I s') {s:S} (hs:I s):loop f s=loop g s:=by
 cases hg:loop g s with
 |some r=>
  obtain⟨n,hn⟩:=Zhb hg
  exact ZuD (n:=n) (by rw[Zs6 I h hI n s hs,hn])
 |none=>
  cases hf:loop f s with
  |none=>rfl
  |some r=>
   obtain⟨n,hn⟩:=Zhb hf
   rw[Zs6 I h hI n s hs]at hn
   rw[ZuD hn]at hg
   exact absurd hg (by simp)
theorem ZA7 {S R T Q:Type} (Rel:S→T→Prop) (K:R→Q→Prop) {f:S→Option (S⊕R)} {g:T→Option (T⊕Q)}
  (step:∀s t,Rel s t→∀a b,f s=some a→g t=some b→(∃s' t',a = .inl s'∧b = .inl t'∧Rel s' t')∨(∃r q,a = .inr r∧b = .inr q∧K r q)) :
  ∀(n m:Nat) (s:S) (t:T) (r:R) (q:Q),Rel s t→ZcC f n s=some r→ZcC g m t=some q→K r q
 |0,_,_,_,_,_,_,h1,_=>by unfold ZcC at h1;exact absurd h1 (by simp)
 |n+1,0,_,_,_,_,_,_,h2=>by unfold ZcC at h2;exact absurd h2 (by simp)
 |n+1,m+1,s,t,r,q,hr,h1,h2=>by
  unfold ZcC at h1 h2
  cases hf:f s with
  |none=>rw[hf]at h1;exact absurd h1 (by simp)
  |some a=>
   cases hg:g t with
   |none=>rw[hg]at h2;exact absurd h2 (by simp)
   |some b=>
    rw[hf]at h1
    rw[hg]at h2
    rcases step s t hr a b hf hg with⟨s',t',e1,e2,h3⟩|⟨r',q',e1,e2,h3⟩
    ·subst e1
     subst e2
     exact ZA7 Rel K step n m s' t' r q h3 h1 h2
    ·subst e1
     subst e2
     have h4:r'=r:=by simpa using h1
     have h5:q'=q:=by simpa using h2
     rw[←h4,←h5]
     exact h3
theorem ZzN {S R T Q:Type} (Rel:S→T→Prop) (K:R→Q→Prop) {f:S→Option (S⊕R)} {g:T→Option (T⊕Q)}
  (step:∀s t,Rel s t→∀a b,f s=some a→g t=some b→(∃s' t',a = .inl s'∧b = .inl t'∧Rel s' t')∨(∃r q,a = .inr r∧b = .inr q∧K r q))
  {s:S} {t:T} {r:R} {q:Q} (hr:Rel s t) (h1:loop f s=some r) (h2:loop g t=some q):K r q:=by
 obtain⟨n,hn⟩:=Zhb h1
 obtain⟨m,hm⟩:=Zhb h2
 exact ZA7 Rel K step n m s t r q hr hn hm
end Go.AE.Y
namespace Go.AE.Y
open Go Go.AE
set_option maxHeartbeats 400000
theorem ZvG {S R:Type} {f:S→Option (S⊕R)} (Inv:S→Prop) (Q:R→Prop)
  (step:∀s,Inv s→∀a,f s=some a→(∃s',a = .inl s'∧Inv s')∨(∃r,a = .inr r∧Q r)) {s:S} {r:R} (hs:Inv s) (h:loop f s=some r):Q r:=by
 obtain⟨n,hn⟩:=Zhb h
 have key:∀n s,Inv s→ZcC f n s=some r→Q r:=by
  intro n
  induction n with
  |zero=>intro s _ h1;unfold ZcC at h1;exact absurd h1 (by simp)
  |succ n ih=>
   intro s hs h1
   unfold ZcC at h1
   cases hf:f s with
   |none=>rw[hf]at h1;exact absurd h1 (by simp)
   |some a=>
    rw[hf]at h1
    rcases step s hs a hf with⟨s',e,h2⟩|⟨r',e,h2⟩
    ·subst e
     exact ih s' h2 h1
    ·subst e
     have h3:r'=r:=by simpa using h1
     rw[←h3]
     exact h2
 exact key n s hs hn
def subP (p q:List Int):Prop:=∀j,p.getD j 0≠0→q.getD j 0=p.getD j 0
theorem subP.refl (p:List Int):subP p p:=fun _ _=>rfl
theorem subP.trans {p q r:List Int} (a:subP p q) (b:subP q r):subP p r:=fun j h=>by
 have h1:=a j h
 rw[←h1]at h ⊢
 exact b j h
def Zxk (c:List (Int×Int)×Int) (q:List Int):Prop:=0≤ZbM c.1 q c.1.length - c.2∧∀i,i<c.1.length→unZ (c.1.getD i (0,0)).2 q=0→(c.1.getD i (0,0)).1≤ZbM c.1 q c.1.length - c.2
def ZBY (L:Zu) (q:List Int):Prop:=∀c∈L,Zxk c q
def Zua (c:List (Int×Int)×Int) (p:List Int) (t:Int×Int):Bool:=decide (unZ t.2 p=0)&&decide (ZbM c.1 p c.1.length - c.2<t.1)
def Zrs (c:List (Int×Int)×Int) (p:List Int):List Int:=(c.1.filter (Zua c p)).map (fun t=>t.2)
theorem ZAE {c:List (Int×Int)×Int} {p:List Int} (hc:ZD c=true) (hl:c.1.length≤1048576) (hp:OkP p):Zcc c p=some (Zrs c p):=by
 obtain⟨c1,c2⟩:=ZdC hc
 unfold Zcc
 rw[Zgo hc hl hp,Ze]
 refine ZJ (f:=Zb9 c p (ZbM c.1 p c.1.length - c.2)) (fun s:Int×List Int=>∃n:Nat,s.1=n∧n≤c.1.length∧s.2.length≤n∧s.2=((c.1.take n).filter (Zua c p)).map (fun t=>t.2)) (fun s=>c.1.length - s.1.toNat) (fun _=>Zrs c p) ?_ _ ⟨0,rfl,Nat.zero_le _,Nat.le_refl _,rfl⟩
 rintro⟨s,o⟩ ⟨n,hs,hn,ho,hall⟩
 dsimp only at hs ho hall ⊢
 subst hs
 unfold Zb9
 dsimp only
 rcases Xad n c.1.length with h1|h1
 ·left
  obtain⟨l1,l2,l3⟩:=c2 n h1
  rw[Zc (by omega),Zb ⟨by omega,by omega⟩,Xab,ZnM l1 hp,Ze]
  have hsn:((c.1.take (n+1)).filter (Zua c p)).map (fun t=>t.2)=o++(bif Zua c p (c.1.getD n (0,0))then[(c.1.getD n (0,0)).2]else[]):=by
   rw[Zeo (0,0) h1,List.filter_append,Xa0,hall]
   congr 1
   cases hq:Zua c p (c.1.getD n (0,0))with
   |true=>rw[Xa8 hq,ctt];rfl
   |false=>rw[Xa7 (by rw[hq];decide),cff];rfl
  by_cases q:unZ (c.1.getD n (0,0)).2 p=0
  ·rw[Zx q]
   by_cases q2:ZbM c.1 p c.1.length - c.2<(c.1.getD n (0,0)).1
   ·rw[Zc q2,Zb (by simp[Zl];omega),Zf (by omega) (by omega)]
    refine⟨_,rfl,⟨n+1,by simp,by omega,by simp;omega,?_⟩,by (try dsimp only)<;>omega,rfl⟩
    rw[hsn]
    unfold Zua
    rw[Xae q,Xae q2]
    rfl
   ·rw[Zd q2,Zf (by omega) (by omega)]
    refine⟨_,rfl,⟨n+1,by simp,by omega,by (try dsimp only)<;>omega,?_⟩,by (try dsimp only)<;>omega,rfl⟩
    rw[hsn]
    unfold Zua
    rw[decide_eq_false q2,Xa2,cff,Xax]
  ·rw[Zt q,Zf (by omega) (by omega)]
   refine⟨_,rfl,⟨n+1,by simp,by omega,by (try dsimp only)<;>omega,?_⟩,by (try dsimp only)<;>omega,rfl⟩
   rw[hsn]
   unfold Zua
   rw[decide_eq_false q,Xai,cff,Xax]
 ·right
  have:n=c.1.length:=by omega
  subst this
  rw[Zd (by omega),hall,XaA]
  rfl
theorem ZEV {c:List (Int×Int)×Int} {p:List Int} {l:Int} (h:l∈Zrs c p):∃i,i<c.1.length∧(c.1.getD i (0,0)).2=l∧unZ l p=0∧ZbM c.1 p c.1.length - c.2<(c.1.getD i (0,0)).1:=by
 unfold Zrs at h
 obtain⟨t,ht,rfl⟩:=XaF.1 h
 obtain⟨h1,h2⟩:=XaM.1 ht
 obtain⟨i,hi,rfl⟩:=Xan.1 h1
 have e:c.1.getD i (0,0)=c.1[i]:=by rw[Xaa,Xac hi];rfl
 unfold Zua at h2
 rw[Xag,Xaf,Xaf]at h2
 exact⟨i,hi,by rw[e],h2.1,by rw[e];exact h2.2⟩
theorem ZK1 {c:List (Int×Int)×Int} {p:List Int} (h:Zrs c p=[]) (h0:0≤ZbM c.1 p c.1.length - c.2):Zxk c p:=by
 refine⟨h0,fun i hi hu=>?_⟩
 rcases Int.lt_or_le (ZbM c.1 p c.1.length - c.2) (c.1.getD i (0,0)).1 with q|q
 ·exfalso
  have hm:=Zz (l:=c.1) (i:=i) (d:=(0,0)) hi
  have:(c.1.getD i (0,0)).2∈Zrs c p:=XaF.2 ⟨_,XaM.2 ⟨hm,by unfold Zua;rw[Xae hu,Xae q];rfl⟩,rfl⟩
  rw[h]at this
  exact absurd this XaB
 ·exact q
def ZnA (r:List Int) (o:List Int):List Int:=r.foldl (fun o l=>ZdF l o) o
theorem ZGM (r:List Int) (l:Int) (o:List Int):ZnA (r++[l]) o=ZdF l (ZnA r o):=by
 unfold ZnA
 rw[Xa6]
 rfl
theorem ZDc {r:List Int}:∀{o:List Int},(∀l∈r,ZX l=true)→OkP o→OkP (ZnA r o):=by
 induction r with
 |nil=>intro o _ h;exact h
 |cons l r ih=>intro o hl h;exact ih (fun x hx=>hl x (Xas _ hx)) (Zp9 (hl l Xau) h).1
theorem ZCx {l:Int} (h:l<0):vof l=0 - l:=by unfold vof;omega
theorem ZCy {l:Int} (h:¬l<0):vof l=l:=by unfold vof;omega
theorem ZFY {l:Int} {p:List Int} (_hl:ZX l=true):unZ l p=0↔p.getD (vof l - 1).toNat 0=0:=by
 unfold unZ
 by_cases q:l<0
 ·rw[if_pos q,ZCx q]
  omega
 ·rw[if_neg q,ZCy q]
theorem ZGL {r:List Int} {p:List Int}:∀{o:List Int},(∀l∈r,ZX l=true∧unZ l p=0)→OkP o→subP p o→subP p (ZnA r o):=by
 induction r with
 |nil=>intro o _ _ h;exact h
 |cons l r ih=>
  intro o hl ho h
  have h0:=hl l Xau
  obtain⟨s1,_,_,_,_,s6⟩:=Zp9 h0.1 ho
  refine ih (fun x hx=>hl x (Xas _ hx)) s1 (fun j hj=>?_)
  rw[s6,if_neg (fun e=>?_),h j hj]
  have:=(ZFY h0.1).1 h0.2
  rw[show (vof l - 1).toNat=j by omega]at this
  exact hj this
theorem Zx7 {r:List Int} {q:List Int}:∀{o:List Int},(∀l∈r,ZX l=true∧0<unZ l q)→OkP o→OkP q→subP o q→subP (ZnA r o) q:=by
 induction r with
 |nil=>intro o _ _ _ h;exact h
 |cons l r ih=>
  intro o hl ho hq h
  have h0:=hl l Xau
  have hlit:=Zy.1 h0.1
  obtain⟨s1,_,_,_,_,s6⟩:=Zp9 h0.1 ho
  refine ih (fun x hx=>hl x (Xas _ hx)) s1 hq (fun j hj=>?_)
  rw[s6]at hj ⊢
  by_cases e:(j:Int)+1=vof l
  ·rw[if_pos e]
   have h2:=h0.2
   unfold unZ at h2
   have h3:=hq.2 j
   by_cases q1:0<l
   ·rw[if_pos q1]
    rw[if_neg (show ¬l<0 by omega)]at h2
    rw[ZCy (show ¬l<0 by omega)]at e
    rw[show (l - 1).toNat=j by omega]at h2
    omega
   ·rw[if_neg q1]
    rw[if_pos (show l<0 by omega)]at h2
    rw[ZCx (show l<0 by omega)]at e
    rw[show (0 - l - 1).toNat=j by omega]at h2
    omega
  ·rw[if_neg e]at hj ⊢
   exact h j hj
theorem ZLc {o r:List Int} (hp:OkP o) (hr:r.length≤1048576) (hl:∀l∈r,ZX l=true) (m:Bool) {i:Int} (hi:0≤i∧i≤2000000) :
  loop (ZcB i r) (m,(0:Int),o)=some (.inl (m||decide (r≠[]),i+1,ZnA r o)):=by
 refine ZJ (f:=ZcB i r) (fun s:Bool×Int×List Int=>∃n:Nat,s.2.1=n∧n≤r.length∧OkP s.2.2∧s.2.2=ZnA (r.take n) o∧s.1=(m||decide (0<n))) (fun s=>r.length - s.2.1.toNat) (fun _=>(.inl (m||decide (r≠[]),i+1,ZnA r o))) ?_ _ ⟨0,rfl,Nat.zero_le _,hp,rfl,by simp⟩
 rintro⟨md,s,x⟩ ⟨n,hs,hn,ho,hx,hm⟩
 dsimp only at hs ho hx hm ⊢
 subst hs
 unfold ZcB
 dsimp only
 rcases Xad n r.length with h1|h1
 ·left
  have l1:=hl _ (Zz (l:=r) (i:=n) (d:=0) h1)
  have hlit:=Zy.1 l1
  have ho12:=ho.1
  rw[Zc (by omega),Zb ⟨by omega,by omega⟩,Xab]
  refine⟨(true,(n:Int)+1,ZdF (r.getD n 0) x),?_,⟨n+1,by simp,by omega,(Zp9 l1 ho).1,?_,by simp⟩,by (try dsimp only)<;>omega,rfl⟩
  ·unfold ZdF
   by_cases q:0<r.getD n 0
   ·rw[Zc q,if_pos q,Zf (by omega) (by omega),Zb ⟨by omega,by omega⟩,Zf (by omega) (by omega)]
   ·rw[Zd q,if_neg q,Zf (by omega) (by omega),Zf (by omega) (by omega),Zb ⟨by omega,by omega⟩,Zf (by omega) (by omega)]
  ·dsimp only
   rw[Zeo 0 h1,ZGM,←hx]
 ·right
  have hnn:n=r.length:=by omega
  rw[Zd (by omega),Zf (by omega) (by omega),hx,hm,hnn,XaA]
  congr 4
  rw[show decide (0<r.length)=decide (r≠[]) from decide_eq_decide.2 (by rw[List.length_pos_iff])]
theorem ZL2 {l:Int} {p q:List Int} (hl:ZX l=true) (h:subP p q) (h0:unZ l p≠0):unZ l q=unZ l p:=by
 have h1:p.getD (vof l - 1).toNat 0≠0:=fun e=>h0 ((ZFY hl).2 e)
 have h2:=h _ h1
 have h3:=Zy.1 hl
 unfold unZ
 by_cases q1:l<0
 ·rw[ZCx q1]at h2
  rw[if_pos q1,if_pos q1,h2]
 ·rw[ZCy q1]at h2
  rw[if_neg q1,if_neg q1,h2]
theorem ZFF {c:List (Int×Int)×Int} {p q:List Int} (hc:ZD c=true) (h:subP p q):∀n,n≤c.1.length→ZbM c.1 q n≤ZbM c.1 p n∧∀i,i<n→0≤unZ (c.1.getD i (0,0)).2 p→unZ (c.1.getD i (0,0)).2 q<0→ZbM c.1 q n+(c.1.getD i (0,0)).1≤ZbM c.1 p n
 |0,_=>⟨Xaq _,fun i hi=>by omega⟩
 |n+1,hn=>by
  obtain⟨ih1,ih2⟩:=ZFF hc h n (by omega)
  obtain⟨l1,l2,l3⟩:=(ZdC hc).2 n (by omega)
  have e:∀p,ZbM c.1 p (n+1)=ZbM c.1 p n+(if 0≤unZ (c.1.getD n (0,0)).2 p then(c.1.getD n (0,0)).1 else 0):=fun _=>rfl
  rw[e p,e q]
  have hs:¬0≤unZ (c.1.getD n (0,0)).2 p→¬0≤unZ (c.1.getD n (0,0)).2 q:=fun h1=>by
   rw[ZL2 l1 h (by omega)]
   exact h1
  refine⟨?_,fun i hi h1 h2=>?_⟩
  ·by_cases q1:0≤unZ (c.1.getD n (0,0)).2 p
   ·rw[if_pos q1]
    split<;>omega
   ·rw[if_neg q1,if_neg (hs q1)]
    omega
  ·rcases Xad i n with h3|h3
   ·have:=ih2 i h3 h1 h2
    by_cases q1:0≤unZ (c.1.getD n (0,0)).2 p
    ·rw[if_pos q1]
     split<;>omega
    ·rw[if_neg q1,if_neg (hs q1)]
     omega
   ·have:i=n:=by omega
    subst this
    rw[if_pos h1,if_neg (by omega)]
    omega
theorem ZJk {c:List (Int×Int)×Int} {p q:List Int} (hc:ZD c=true) (h:subP p q) (hf:Zxk c q):0≤ZbM c.1 p c.1.length - c.2∧∀l∈Zrs c p,ZX l=true∧0<unZ l q:=by
 obtain⟨m1,m2⟩:=ZFF hc h c.1.length (Nat.le_refl _)
 refine⟨by have:=hf.1;omega,fun l hl=>?_⟩
 obtain⟨i,hi,rfl,hu,hs⟩:=ZEV hl
 obtain⟨l1,l2,l3⟩:=(ZdC hc).2 i hi
 refine⟨l1,?_⟩
 rcases Int.lt_trichotomy (unZ (c.1.getD i (0,0)).2 q) 0 with q1|q1|q1
 ·have:=m2 i hi (by omega) q1
  have:=hf.1
  omega
 ·have:=hf.2 i hi q1
  omega
 ·exact q1
theorem Zvw {c:List (Int×Int)×Int} {p:List Int} (hc:ZD c=true):∀l∈Zrs c p,ZX l=true∧unZ l p=0:=fun l hl=>by
 obtain⟨i,hi,rfl,hu,_⟩:=ZEV hl
 exact⟨((ZdC hc).2 i hi).1,hu⟩
theorem ZK0 {c:List (Int×Int)×Int} {p:List Int}:(Zrs c p).length≤c.1.length:=by
 unfold Zrs
 rw[Xak]
 exact XbJ _ _
theorem ZA5 {L:Zu} (hL:Zbr L) (hl:L.length≤1048576) {md:Bool} {n:Nat} {o:List Int} (ho:OkP o) (hn:n≤L.length) :
  ZbI L (md,(n:Int),o)=some (if n<L.length then(if ZbM (L.getD n ([],0)).1 o (L.getD n ([],0)).1.length - (L.getD n ([],0)).2<0 then .inr (.inr ((n:Int),o))else .inl (md||decide (Zrs (L.getD n ([],0)) o≠[]),(n:Int)+1,ZnA (Zrs (L.getD n ([],0)) o) o))else .inr (.inl (md,o))):=by
 unfold ZbI
 dsimp only
 by_cases h1:n<L.length
 ·have hmem:=Zz (l:=L) (i:=n) (d:=([],0)) h1
  obtain⟨g1,g2⟩:=hL _ hmem
  rw[Zc (by omega),Zb ⟨by omega,by omega⟩,Xab,Zgo g1 g2 ho,Ze,if_pos h1]
  by_cases q:ZbM (L.getD n ([],0)).1 o (L.getD n ([],0)).1.length - (L.getD n ([],0)).2<0
  ·rw[Zc q,if_pos q]
  ·rw[Zd q,if_neg q,ZAE g1 g2 ho,Ze,ZLc ho (XbO ZK0 g2) (fun l h=>(Zvw g1 l h).1) md ⟨by omega,by omega⟩]
 ·rw[Zd (by omega),if_neg h1]
theorem ZLd {L:Zu} {p:List Int} {r:Int×List Int} (hL:Zbr L) (hl:L.length≤1048576) (hp:OkP p) (h:ZbH L p=some r) (h0:r.1<0):OkP r.2∧subP p r.2∧ZBY L r.2:=by
 unfold ZbH at h
 rw[Zl0 (by have:=hp.1;omega),Ze]at h
 have key:=ZvG (f:=ZcA L) (fun s:Bool×List Int=>OkP s.2∧subP p s.2∧(s.1=false→ZBY L s.2)) (fun r=>r.1<0→OkP r.2∧subP p r.2∧ZBY L r.2) ?_ (s:=(true,p)) (r:=r) ⟨hp,subP.refl p,fun h=>by cases h⟩ h
 ·exact key h0
 rintro⟨md,o⟩ ⟨ho,hs,hk⟩ a ha
 dsimp only at ho hs hk
 unfold ZcA at ha
 dsimp only at ha
 cases md with
 |false=>
  rw[cff]at ha
  right
  injection ha with ha
  exact⟨_,ha.symm,fun _=>⟨ho,hs,hk rfl⟩⟩
 |true=>
  rw[ctt]at ha
  have ZAG:=ZvG (f:=ZbI L) (fun s:Bool×Int×List Int=>∃n:Nat,s.2.1=n∧n≤L.length∧OkP s.2.2∧subP o s.2.2∧(s.1=false→s.2.2=o∧∀k,k<n→Zxk (L.getD k ([],0)) o))
   (fun a=>(∃md out,a = .inl (md,out)∧OkP out∧subP o out∧(md=false→ZBY L out))∨(∃i out,a = .inr (i,out)∧0≤i)) ?_ (s:=(false,(0:Int),o)) (r:=a) ⟨0,rfl,Nat.zero_le _,ho,subP.refl o,fun _=>⟨rfl,fun k hk=>by omega⟩⟩ ha
  ·rcases ZAG with⟨md,out,rfl,q1,q2,q3⟩|⟨i,out,rfl,q1⟩
   ·exact Or.inl ⟨_,rfl,q1,hs.trans q2,q3⟩
   ·exact Or.inr ⟨_,rfl,fun h=>absurd h (by (try dsimp only)<;>omega)⟩
  rintro⟨md,s,x⟩ ⟨n,e,hn,hx,hsx,hkx⟩ a ha
  dsimp only at e hx hsx hkx
  subst e
  rw[ZA5 hL hl hx hn]at ha
  injection ha with ha
  by_cases h1:n<L.length
  ·rw[if_pos h1]at ha
   have hmem:=Zz (l:=L) (i:=n) (d:=([],0)) h1
   obtain⟨g1,g2⟩:=hL _ hmem
   by_cases q:ZbM (L.getD n ([],0)).1 x (L.getD n ([],0)).1.length - (L.getD n ([],0)).2<0
   ·rw[if_pos q]at ha
    exact Or.inr ⟨_,ha.symm,Or.inr ⟨_,_,rfl,by omega⟩⟩
   ·rw[if_neg q]at ha
    refine Or.inl ⟨_,ha.symm,n+1,by simp,by omega,ZDc (fun l h=>(Zvw g1 l h).1) hx,hsx.trans (ZGL (Zvw g1) hx (subP.refl x)),fun hf=>?_⟩
    dsimp only at hf ⊢
    rw[Xbo,decide_eq_false_iff_not,Classical.not_not]at hf
    obtain⟨k1,k2⟩:=hkx hf.1
    rw[hf.2]
    refine⟨k1,fun k hk=>?_⟩
    rcases Xad k n with h2|h2
    ·exact k2 k h2
    ·have:k=n:=by omega
     subst this
     rw[←k1]
     exact ZK1 hf.2 (by omega)
  ·rw[if_neg h1]at ha
   refine Or.inr ⟨_,ha.symm,Or.inl ⟨_,_,rfl,hx,hsx,fun hf=>?_⟩⟩
   obtain⟨k1,k2⟩:=hkx hf
   rw[k1]
   intro c hc
   obtain⟨k,hk,rfl⟩:=Xan.1 hc
   have:=k2 k (by omega)
   rwa [Xaa,Xac hk]at this
theorem ZIJ {L:Zu} {p q:List Int} {r:Int×List Int} (hL:Zbr L) (hl:L.length≤1048576) (hp:OkP p) (hq:OkP q) (hf:ZBY L q) (hs:subP p q) (h:ZbH L p=some r):r.1<0:=by
 unfold ZbH at h
 rw[Zl0 (by have:=hp.1;omega),Ze]at h
 refine ZvG (f:=ZcA L) (fun s:Bool×List Int=>OkP s.2∧subP s.2 q) (fun r=>r.1<0) ?_ (s:=(true,p)) (r:=r) ⟨hp,hs⟩ h
 rintro⟨md,o⟩ ⟨ho,hs⟩ a ha
 dsimp only at ho hs
 unfold ZcA at ha
 dsimp only at ha
 cases md with
 |false=>
  rw[cff]at ha
  right
  injection ha with ha
  exact⟨_,ha.symm,by show (-1:Int)<0;decide⟩
 |true=>
  rw[ctt]at ha
  have ZAG:=ZvG (f:=ZbI L) (fun s:Bool×Int×List Int=>∃n:Nat,s.2.1=n∧n≤L.length∧OkP s.2.2∧subP s.2.2 q)
   (fun a=>∃md out,a = .inl (md,out)∧OkP out∧subP out q) ?_ (s:=(false,(0:Int),o)) (r:=a) ⟨0,rfl,Nat.zero_le _,ho,hs⟩ ha
  ·obtain⟨md,out,rfl,q1,q2⟩:=ZAG
   exact Or.inl ⟨_,rfl,q1,q2⟩
  rintro⟨md,s,x⟩ ⟨n,e,hn,hx,hsx⟩ a ha
  dsimp only at e hx hsx
  subst e
  rw[ZA5 hL hl hx hn]at ha
  injection ha with ha
  by_cases h1:n<L.length
  ·rw[if_pos h1]at ha
   have hmem:=Zz (l:=L) (i:=n) (d:=([],0)) h1
   obtain⟨g1,g2⟩:=hL _ hmem
   obtain⟨i1,i2⟩:=ZJk g1 hsx (hf _ hmem)
   rw[if_neg (by omega)]at ha
   exact Or.inl ⟨_,ha.symm,n+1,by simp,by omega,ZDc (fun l h=>(Zvw g1 l h).1) hx,Zx7 i2 hx hq hsx⟩
  ·rw[if_neg h1]at ha
   exact Or.inr ⟨_,ha.symm,_,_,rfl,hx,hsx⟩
end Go.AE.Y
namespace Go.AE.Y
open Go Go.AE
set_option maxHeartbeats 400000
theorem Zrz {l:Int} {p:List Int} (hl:ZX l=true) (hp:OkP p):Zmy p l=some (unZ l p):=by
 have h:=Zy.1 hl
 obtain⟨h12,hv⟩:=hp
 unfold Zmy unZ
 by_cases q:0<l
 ·rw[Zc q,if_neg (by omega),Zf (by omega) (by omega),Zb ⟨by omega,by omega⟩]
 ·have:=hv (0 - l - 1).toNat
  rw[Zd q,if_pos (by omega),Zf (by omega) (by omega),Zf (by omega) (by omega),Zb ⟨by omega,by omega⟩,Zf (by omega) (by omega)]
theorem Zol {l:Int} {p:List Int} (hl:ZX l=true) (hp:OkP p):Zgs l p=some (ZdF l p):=by
 have h:=Zy.1 hl
 have h12:=hp.1
 unfold Zgs ZdF
 by_cases q:0<l
 ·rw[Zc q,if_pos q,Zf (by omega) (by omega),Zb ⟨by omega,by omega⟩]
 ·rw[Zd q,if_neg q,Zf (by omega) (by omega),Zf (by omega) (by omega),Zb ⟨by omega,by omega⟩]
theorem ZnU {c:List (Int×Int)×Int} {p:List Int} (hc:ZD c=true) (hl:c.1.length≤1048576) (hp:OkP p):Zmx c p=some (ZbM c.1 p c.1.length - c.2):=by
 obtain⟨c1,c2⟩:=ZdC hc
 unfold Zmx
 rw[Zf (by omega) (by omega)]
 refine ZJ (f:=ZlL c p) (fun s:Int×Int=>∃n:Nat,s.2=n∧n≤c.1.length∧s.1=ZbM c.1 p n - c.2) (fun s=>c.1.length - s.2.toNat) (fun _=>ZbM c.1 p c.1.length - c.2) ?_ _ ⟨0,rfl,Nat.zero_le _,by show 0 - c.2=0 - c.2;rfl⟩
 rintro⟨o,s⟩ ⟨n,hs,hn,ho⟩
 dsimp only at hs ho ⊢
 subst hs
 subst ho
 have hb:=ZvW hc p n hn
 unfold ZlL
 dsimp only
 rcases Xad n c.1.length with h1|h1
 ·left
  obtain⟨l1,l2,l3⟩:=c2 n h1
  rw[Zc (by omega),Zb ⟨by omega,by omega⟩,Xab,Zrz l1 hp,Ze]
  by_cases q:0≤unZ (c.1.getD n (0,0)).2 p
  ·rw[Zc q,Zb ⟨by omega,by omega⟩,Zf (by omega) (by omega),Zf (by omega) (by omega)]
   refine⟨_,rfl,⟨n+1,by simp,by omega,?_⟩,by (try dsimp only)<;>omega,rfl⟩
   dsimp only
   conv=>rhs;unfold ZbM
   rw[if_pos q]
   omega
  ·rw[Zd q,Zf (by omega) (by omega)]
   refine⟨_,rfl,⟨n+1,by simp,by omega,?_⟩,by (try dsimp only)<;>omega,rfl⟩
   dsimp only
   conv=>rhs;unfold ZbM
   rw[if_neg q]
   omega
 ·right
  have:n=c.1.length:=by omega
  rw[Zd (by omega),this]
theorem ZBd {c:List (Int×Int)×Int} {p:List Int} (hc:ZD c=true) (hl:c.1.length≤1048576) (hp:OkP p):∃o,Zhg c p=some o∧o.length≤1048576∧∀l∈o,ZX l=true∧unZ l p=0∧∀v,agP p v→ZW v c=true→ZR v l=true:=by
 obtain⟨c1,c2⟩:=ZdC hc
 unfold Zhg
 rw[ZnU hc hl hp,Ze]
 refine Zb4 (f:=ZgF c p (ZbM c.1 p c.1.length - c.2)) (fun s:Int×List Int=>∃n:Nat,s.1=n∧n≤c.1.length∧s.2.length≤n∧∀l∈s.2,ZX l=true∧unZ l p=0∧∀v,agP p v→ZW v c=true→ZR v l=true) (fun s=>c.1.length - s.1.toNat) (fun o=>o.length≤1048576∧∀l∈o,ZX l=true∧unZ l p=0∧∀v,agP p v→ZW v c=true→ZR v l=true) ?_ _ ⟨0,rfl,Nat.zero_le _,Nat.le_refl _,fun l h=>absurd h XaB⟩
 rintro⟨s,o⟩ ⟨n,hs,hn,ho,hall⟩
 dsimp only at hs ho hall ⊢
 subst hs
 unfold ZgF
 dsimp only
 rcases Xad n c.1.length with h1|h1
 ·obtain⟨l1,l2,l3⟩:=c2 n h1
  by_cases q0:0≤ZbM c.1 p c.1.length - c.2
  case neg=>
   right
   rw[Zc (by omega),Zd q0]
   exact⟨_,rfl,by omega,hall⟩
  left
  rw[Zc (by omega),Zc q0,Zb ⟨by omega,by omega⟩,Xab,Zrz l1 hp,Ze]
  by_cases q:unZ (c.1.getD n (0,0)).2 p=0
  ·rw[Zx q,Zb ⟨by omega,by omega⟩]
   by_cases q2:ZbM c.1 p c.1.length - c.2<(c.1.getD n (0,0)).1
   ·rw[Zc q2,Zb ⟨by omega,by omega⟩,Zb (by simp[Zl];omega),Zf (by omega) (by omega)]
    refine⟨_,rfl,⟨n+1,by simp,by omega,by simp;omega,fun l h=>?_⟩,by (try dsimp only)<;>omega⟩
    rcases List.mem_append.1 h with h|h
    ·exact hall l h
    ·rw[Xah]at h
     subst h
     refine⟨l1,q,fun v ha he=>?_⟩
     cases hb:ZR v (c.1.getD n (0,0)).2 with
     |true=>rfl
     |false=>
      have:=(ZyE hc hp ha c.1.length (Nat.le_refl _)).2 n h1 (by omega) hb
      have:=(ZtJ v c).1 he
      omega
   ·rw[Zd q2,Zf (by omega) (by omega)]
    exact⟨_,rfl,⟨n+1,by simp,by omega,by (try dsimp only)<;>omega,hall⟩,by (try dsimp only)<;>omega⟩
  ·rw[Zt q,Zf (by omega) (by omega)]
   exact⟨_,rfl,⟨n+1,by simp,by omega,by (try dsimp only)<;>omega,hall⟩,by (try dsimp only)<;>omega⟩
 ·right
  rw[Zd (by omega)]
  exact⟨_,rfl,by omega,hall⟩
theorem ZJO {c:List (Int×Int)×Int} {o5 r9:List Int} (hp:OkP o5) (hr:r9.length≤1048576) (h9:∀l∈r9,ZX l=true∧unZ l o5=0∧∀v,agP o5 v→ZW v c=true→ZR v l=true) (m4:Bool) {i3:Int} (hi:0≤i3∧i3≤2000000) :
  ∃md out,loop (ZdP i3 r9) (m4,(0:Int),o5)=some (.inl (md,i3+1,out))∧OkP out∧(∀v,agP o5 v→ZW v c=true→agP out v)∧(∀j,out.getD j 0=0→o5.getD j 0=0)∧((md=m4∧out=o5)∨(md=true∧zcN out 12<zcN o5 12)):=by
 have key:=Zb4 (f:=ZdP i3 r9) (fun s:Bool×Int×List Int=>∃n:Nat,s.2.1=n∧n≤r9.length∧OkP s.2.2∧(∀v,agP o5 v→ZW v c=true→agP s.2.2 v)∧(∀j,s.2.2.getD j 0=0→o5.getD j 0=0)∧((n=0∧s.1=m4∧s.2.2=o5)∨(s.1=true∧zcN s.2.2 12<zcN o5 12))) (fun s=>r9.length - s.2.1.toNat)
  (fun r=>∃md out,r = .inl (md,i3+1,out)∧OkP out∧(∀v,agP o5 v→ZW v c=true→agP out v)∧(∀j,out.getD j 0=0→o5.getD j 0=0)∧((md=m4∧out=o5)∨(md=true∧zcN out 12<zcN o5 12))) ?_ (m4,(0:Int),o5) ⟨0,rfl,Nat.zero_le _,hp,fun v h _=>h,fun j h=>h,Or.inl ⟨rfl,rfl,rfl⟩⟩
 ·obtain⟨r,e,md,out,rfl,h⟩:=key
  exact⟨md,out,e,h⟩
 rintro⟨md,s,o⟩ ⟨n,hs,hn,ho,ha,hz,hc⟩
 dsimp only at hs ho ha hz hc ⊢
 subst hs
 unfold ZdP
 dsimp only
 rcases Xad n r9.length with h1|h1
 ·left
  obtain⟨l1,l2,l3⟩:=h9 _ (Zz (l:=r9) (i:=n) (d:=0) h1)
  have hl:=Zy.1 l1
  obtain⟨s1,s2,s3,s4,s5,_⟩:=Zp9 l1 ho
  have ho12:=ho.1
  have hz0:zcN (ZdF (r9.getD n 0) o) 12<zcN o5 12:=by
   rcases hc with⟨h0,_,h2⟩|⟨_,h2⟩
   ·subst h2
    have:=s4 l2
    omega
   ·omega
  have inv:∃n':Nat,((n:Int)+1)=n'∧n'≤r9.length∧OkP (ZdF (r9.getD n 0) o)∧(∀v,agP o5 v→ZW v c=true→agP (ZdF (r9.getD n 0) o) v)∧(∀j,(ZdF (r9.getD n 0) o).getD j 0=0→o5.getD j 0=0)∧((n'=0∧true=m4∧ZdF (r9.getD n 0) o=o5)∨(true=true∧zcN (ZdF (r9.getD n 0) o) 12<zcN o5 12)):=
   ⟨n+1,by simp,by omega,s1,fun v h1 h2=>s2 v (ha v h1 h2) (l3 v h1 h2),fun j h=>hz j (s5 j h),Or.inr ⟨rfl,hz0⟩⟩
  rw[Zc (by omega),Zb ⟨by omega,by omega⟩,Xab]
  refine⟨(true,(n:Int)+1,ZdF (r9.getD n 0) o),?_,inv,by (try dsimp only)<;>omega⟩
  rw[Zol l1 ho,Ze,Zf (by omega) (by omega)]
 ·right
  rw[Zd (by omega),Zf (by omega) (by omega)]
  refine⟨_,rfl,md,o,rfl,ho,ha,hz,?_⟩
  rcases hc with⟨_,h2⟩|h2
  ·exact Or.inl h2
  ·exact Or.inr h2
theorem ZJN {L:Zu} {o3:List Int} (hL:Zbr L) (hl:L.length≤1048576) (hp:OkP o3) :
  ∃r,loop (ZdO L) (false,(0:Int),o3)=some r∧((∃md out,r = .inl (md,out)∧Two L o3 out∧((md=false∧out=o3∧ZoJ L o3)∨(md=true∧zcN out 12<zcN o3 12)))∨(∃i out,r = .inr (i,out)∧0≤i∧Two L o3 out∧∀v,agP o3 v→¬Zek L v)):=by
 refine Zb4 (f:=ZdO L) (fun s:Bool×Int×List Int=>∃n:Nat,s.2.1=n∧n≤L.length∧Two L o3 s.2.2∧((s.1=false∧s.2.2=o3∧∀k,k<n→0≤ZbM (L.getD k ([],0)).1 o3 (L.getD k ([],0)).1.length - (L.getD k ([],0)).2)∨(s.1=true∧zcN s.2.2 12<zcN o3 12))) (fun s=>L.length - s.2.1.toNat) _ ?_ _ ⟨0,rfl,Nat.zero_le _,⟨hp,fun v h _=>h,fun j h=>h⟩,Or.inl ⟨rfl,rfl,fun k hk=>by omega⟩⟩
 rintro⟨md,s,o⟩ ⟨n,hs,hn,⟨t1,t2,t3⟩,hc⟩
 dsimp only at hs t1 t2 t3 hc ⊢
 subst hs
 unfold ZdO
 dsimp only
 rcases Xad n L.length with h1|h1
 ·have hmem:=Zz (l:=L) (i:=n) (d:=([],0)) h1
  obtain⟨g1,g2⟩:=hL _ hmem
  rw[Zc (by omega),Zb ⟨by omega,by omega⟩,Xab,ZnU g1 g2 t1,Ze]
  by_cases q:ZbM (L.getD n ([],0)).1 o (L.getD n ([],0)).1.length - (L.getD n ([],0)).2<0
  ·right
   rw[Zc q]
   exact⟨_,rfl,Or.inr ⟨n,o,rfl,by omega,⟨t1,t2,t3⟩,fun v ha hs=>Zyb g1 t1 (t2 v ha hs) q (hs _ hmem)⟩⟩
  ·left
   obtain⟨r9,e9,k1,k2⟩:=ZBd g1 g2 t1
   obtain⟨md',out,e3,u1,u2,u3,u4⟩:=ZJO t1 k1 k2 md (i3:=(n:Int)) ⟨by omega,by omega⟩
   rw[Zd q,Zb ⟨by omega,by omega⟩,e9,Ze,e3]
   refine⟨_,rfl,⟨n+1,by simp,by omega,⟨u1,fun v ha hs=>u2 v (t2 v ha hs) (hs _ hmem),fun j h=>t3 j (u3 j h)⟩,?_⟩,by (try dsimp only)<;>omega⟩
   dsimp only
   rcases u4 with⟨rfl,rfl⟩|⟨rfl,hz⟩
   ·rcases hc with⟨c1,c2,c3⟩|c
    ·refine Or.inl ⟨c1,c2,fun k hk=>?_⟩
     rcases Xad k n with h2|h2
     ·exact c3 k h2
     ·rw[show k=n by omega,←c2];omega
    ·exact Or.inr c
   ·refine Or.inr ⟨rfl,?_⟩
    rcases hc with⟨c1,c2,c3⟩|c
    ·rw[←c2];exact hz
    ·have:=c.2;omega
 ·right
  have hnn:n=L.length:=by omega
  rw[Zd (by omega)]
  refine⟨_,rfl,Or.inl ⟨md,o,rfl,⟨t1,t2,t3⟩,?_⟩⟩
  rcases hc with⟨c1,c2,c3⟩|c
  ·refine Or.inl ⟨c1,c2,fun x hx=>?_⟩
   obtain⟨k,hk,rfl⟩:=Xan.1 hx
   have:=c3 k (by omega)
   rwa [Xaa,Xac hk]at this
  ·exact Or.inr c
theorem Zy6 {L:Zu} {p:List Int} (hL:Zbr L) (hl:L.length≤1048576) (hp:OkP p) :
  ∃r,ZeC L p=some r∧Two L p r.2∧((r.1 = -1∧ZoJ L r.2)∨(0≤r.1∧∀v,agP p v→¬Zek L v)):=by
 unfold ZeC
 refine Zb4 (f:=Zfp L) (fun s:Bool×List Int=>Two L p s.2∧(s.1=false→ZoJ L s.2)) (fun s=>bif s.1 then 2*zcN s.2 12+1 else 0) (fun r=>Two L p r.2∧((r.1 = -1∧ZoJ L r.2)∨(0≤r.1∧∀v,agP p v→¬Zek L v))) ?_ _ ⟨⟨hp,fun v h _=>h,fun j h=>h⟩,fun h=>by cases h⟩
 rintro⟨md,o⟩ ⟨⟨t1,t2,t3⟩,hk⟩
 dsimp only at t1 t2 t3 hk ⊢
 unfold Zfp
 dsimp only
 cases md with
 |false=>
  right
  rw[cff]
  exact⟨_,rfl,⟨t1,t2,t3⟩,Or.inl ⟨rfl,hk rfl⟩⟩
 |true=>
  rw[ctt]
  obtain⟨r,e,h|h⟩:=ZJN hL hl t1
  ·obtain⟨md',out,rfl,⟨u1,u2,u3⟩,hc⟩:=h
   left
   rw[e]
   refine⟨_,rfl,⟨⟨u1,fun v ha hs=>u2 v (t2 v ha hs) hs,fun j h=>t3 j (u3 j h)⟩,?_⟩,?_⟩
   ·dsimp only
    intro hf
    rcases hc with⟨_,c2,c3⟩|⟨c1,_⟩
    ·rw[c2];exact c3
    ·rw[c1]at hf;cases hf
   ·dsimp only
    rw[ctt]
    rcases hc with⟨c1,_,_⟩|⟨c1,c2⟩
    ·rw[c1,cff];omega
    ·rw[c1,ctt];omega
  ·obtain⟨i,out,rfl,h0,⟨u1,u2,u3⟩,hc⟩:=h
   right
   rw[e]
   exact⟨_,rfl,⟨u1,fun v ha hs=>u2 v (t2 v ha hs) hs,fun j h=>t3 j (u3 j h)⟩,Or.inr ⟨h0,fun v ha hs=>hc v (t2 v ha hs) hs⟩⟩
theorem ZuM {p:List Int} (hp:OkP p):∃r,Zi1 p=some r∧(r=0∨∃k:Nat,k<12∧p.getD k 0=0∧r=(k:Int)+1):=by
 have h12:=hp.1
 unfold Zi1
 refine Zb4 (f:=ZjT p) (fun s:Int=>∃n:Nat,s=n∧n≤12) (fun s=>12 - s.toNat) _ ?_ _ ⟨0,rfl,by omega⟩
 rintro s ⟨n,rfl,hn⟩
 unfold ZjT
 rcases Xad n 12 with h1|h1
 ·rw[Zc (by omega),Zb ⟨by omega,by omega⟩,Xab]
  by_cases q:p.getD n 0=0
  ·right
   rw[Zx q,Zf (by omega) (by omega)]
   exact⟨_,rfl,Or.inr ⟨n,h1,q,rfl⟩⟩
  ·left
   rw[Zt q,Zf (by omega) (by omega)]
   exact⟨_,rfl,⟨n+1,by simp,by omega⟩,by omega⟩
 ·right
  rw[Zd (by omega)]
  exact⟨_,rfl,Or.inl rfl⟩
abbrev SR:=Int×Int×List Bool×Zu×List ZC
def ZgP (S:List ZC):Prop:=∀s∈S,s.2.2.2.1.length≤12
structure SeaOk (L:Zu) (S:List ZC) (fuel:Int) (L':Zu) (S':List ZC) (f':Int):Prop where
 fu:0≤f'∧f'≤fuel
 good:Zbr L'
 len:L'.length+S.length=L.length+S'.length
 top:S'.length≤1000
 few:ZgP S'
theorem ZE8 {D:List Int} {L:Zu} {S:List ZC} {f:Int} (hD:Zcg D) (hL:Zbr L) (hl:L.length≤2000) (hS:S.length<1000) (hw:ZgP S) (hf:0≤f) :
  ∃r,Zdv f D L S=some r∧SeaOk L S f r.2.1 r.2.2 r.1:=by
 have hd:=Zf7 hD
 have hlo:=Zlb hD
 have hc:Zio (Zbb D)=(true,1,Z1 (Zbm (Zbb D))):=by
  unfold Zio
  rw[hlo,Xae (show (Zbb D).length≤40 by unfold Zbb;rw[Xak];omega)]
  rfl
 have hcon:ZD (Z1 (Zbm (Zbb D)),1)=true:=ZtF (fun x hx=>(ZfL hlo).1 x ((Zg9 hlo x).1 hx)) (ZoF hlo)
 have hlf:=Zmp (Zbb D)
 have hol:(Z1 (Zbm (Zbb D))).length≤12:=by unfold Z1;rw[Xak];exact hlf
 refine⟨(f,L++[(Z1 (Zbm (Zbb D)),1)],S++[((7:Int),((0:Int),((0:Int),(Z1 (Zbm (Zbb D)),(1:Int)))))]),?_,?_⟩
 ·unfold Zdv
  refine(ZbU (f:=Zc2 f D L S) D 0 (fun x=>0 - x) [] (fun _=>(f,L++[(Z1 (Zbm (Zbb D)),1)],S++[((7:Int),((0:Int),((0:Int),(Z1 (Zbm (Zbb D)),(1:Int)))))])) (fun i out hi ho=>?_) ?_)
  ·have:=Zy.1 (hD.1 _ (Zz (l:=D) (i:=i) (d:=0) hi))
   unfold Zc2
   dsimp only
   rw[Zc (by omega),Zb ⟨by omega,by omega⟩,Xab,Zf (by omega) (by omega),Zb (by simp only[Zl,Xap,Xao];simp at ho;omega),Zf (by omega) (by omega)]
  ·unfold Zc2 ZhY
   dsimp only
   rw[Zd (by omega),Xat,show D.map (fun x=>0 - x)=Zbb D from rfl,ZkC _ (by unfold Zbb;rw[Xak];omega),Ze,hc]
   dsimp only
   rw[Zb (by simp[Zl];omega),Zb (by simp[Zl];omega)]
   rfl
 ·refine⟨⟨hf,Xaq _⟩,fun c hcm=>?_,by simp;omega,by simp;omega,fun s hs=>?_⟩
  ·rcases List.mem_append.1 hcm with h|h
   ·exact hL c h
   ·rw[Xah]at h
    subst h
    exact⟨hcon,by (try dsimp only)<;>omega⟩
  ·rcases List.mem_append.1 hs with h|h
   ·exact hw s h
   ·rw[Xah]at h
    subst h
    exact hol
theorem SeaOk.trans {L L' L'':Zu} {S S' S'':List ZC} {f f' f'':Int} (a:SeaOk L S f L' S' f') (b:SeaOk L' S' f' L'' S'' f''):SeaOk L S f L'' S'' f'':=
 ⟨⟨b.fu.1,by have:=a.fu;have:=b.fu;omega⟩,b.good,by have:=a.len;have:=b.len;omega,b.top,b.few⟩
theorem Zzi {D:List Int} {L:Zu} {S:List ZC} {fuel:Int} {rec_:Int→List Int→Zu→List ZC→Option SR}
  (hrec:∀(l:Int) (L':Zu) (S':List ZC) (f':Int),Zcg (D++[l])→Zbr L'→L'.length≤400+S'.length→S'.length≤1000→ZgP S'→(0≤f'∧f'≤2000)→∃r,rec_ f' (D++[l]) L' S'=some r∧SeaOk L' S' f' r.2.2.2.1 r.2.2.2.2 r.2.1)
  (hD:Zcg D) (hL:Zbr L) (hl:L.length≤400+S.length) (hS:S.length≤1000) (hw:ZgP S) (hf:0≤fuel∧fuel≤2000):∃r,Zbx rec_ fuel D L S=some r∧SeaOk L S fuel r.2.2.2.1 r.2.2.2.2 r.2.1:=by
 have hd:=Zf7 hD
 have same:∀f,(0≤f∧f≤fuel)→SeaOk L S fuel L S f:=fun f h=>⟨h,hL,by omega,hS,hw⟩
 unfold Zbx
 by_cases q1:fuel=0
 ·exact⟨_,by rw[Zx q1],same fuel ⟨hf.1,Xaq _⟩⟩
 rw[Zt q1]
 by_cases q2:1000≤(S.length:Int)
 ·exact⟨_,by rw[Zc q2],same fuel ⟨hf.1,Xaq _⟩⟩
 rw[Zd q2,Zf (by omega) (by omega),Zb ⟨by omega,by simp only[Zl];omega,rfl⟩]
 obtain⟨p1,p2,p3,p4,p5⟩:=ZjB hD D.length (Nat.le_refl _)
 have tail:∃r,Zcn fuel D L S rec_ (ZdZ D D.length)=some r∧SeaOk L S fuel r.2.2.2.1 r.2.2.2.2 r.2.1:=by
  unfold Zcn
  obtain⟨⟨i,out⟩,e1,⟨t1,t2,t3⟩,hc⟩:=Zy6 hL (by omega) p1
  dsimp only at t1 t2 t3 hc
  rw[e1,Ze]
  dsimp only
  rcases hc with⟨rfl,hk⟩|⟨h0,hk⟩
  ·obtain⟨r5,e5,h⟩:=ZuM t1
   rw[Zd (by omega),e5,Ze]
   by_cases q5:r5=0
   ·rw[Zx q5]
    have h12:=t1.1
    refine Zb4 (f:=ZcR fuel L S (-1,out)) (fun s:Int×List Bool=>∃n:Nat,s.1=n∧n≤12∧s.2.length=n) (fun s=>12 - s.1.toNat) (fun r=>SeaOk L S fuel r.2.2.2.1 r.2.2.2.2 r.2.1) ?_ _ ⟨0,rfl,by omega,rfl⟩
    rintro⟨s,o⟩ ⟨n,hs,hn,ho⟩
    dsimp only at hs ho
    subst hs
    unfold ZcR
    dsimp only
    rcases Xad n 12 with h1|h1
    ·left
     rw[Zc (by omega),Zb ⟨by omega,by omega⟩,Zb (by simp[Zl];omega),Zf (by omega) (by omega)]
     exact⟨_,rfl,⟨n+1,by simp,by omega,by simp;omega⟩,by (try dsimp only)<;>omega⟩
    ·right
     rw[Zd (by omega)]
     exact⟨_,rfl,same _ ⟨by (try dsimp only)<;>omega,by (try dsimp only)<;>omega⟩⟩
   ·obtain⟨k,hk12,hk0,rfl⟩:=h.resolve_left q5
    rw[Zt q5,Zf (by omega) (by omega)]
    have hvar:∀l:Int,vof l=(k:Int)+1→∀i,i<D.length→vof (D.getD i 0)≠vof l:=fun l hl i hi=>by
     rw[hl]
     exact p3 k (t3 k hk0) i hi
    refine Zb4 (f:=Zee D ((k:Int)+1) rec_) (fun s:Int×Int×Zu×List ZC=>∃n:Nat,s.1=n∧n≤2∧SeaOk L S fuel s.2.2.1 s.2.2.2 s.2.1) (fun s=>2 - s.1.toNat) (fun r=>SeaOk L S fuel r.2.2.2.1 r.2.2.2.2 r.2.1) ?_ _ ⟨0,rfl,by omega,same _ ⟨by (try dsimp only)<;>omega,by (try dsimp only)<;>omega⟩⟩
    rintro⟨s,f,L',S'⟩ ⟨n,hs,hn,hx⟩
    dsimp only at hs hx
    subst hs
    unfold Zee
    dsimp only
    have hlen:=hx.len
    have htop:=hx.top
    have hfu:=hx.fu
    rcases Xad n 2 with h1|h1
    ·have hlit:∃l,[((k:Int)+1),(0 - ((k:Int)+1))].getD n 0=l∧vof l=(k:Int)+1∧ZX l=true:=by
      have:n=0∨n=1:=by omega
      rcases this with rfl|rfl
      ·exact⟨(k:Int)+1,rfl,by unfold vof;omega,Zy.2 ⟨by omega,by omega,by omega⟩⟩
      ·exact⟨0 - ((k:Int)+1),rfl,by unfold vof;omega,Zy.2 ⟨by omega,by omega,by omega⟩⟩
     obtain⟨l,el,hv,hli⟩:=hlit
     obtain⟨r8,e8,x8⟩:=hrec l L' S' f (ZpW hD hli (hvar l hv)) hx.good (by omega) htop hx.few ⟨by omega,by omega⟩
     rw[Zc (by simp;omega),Zb ⟨by omega,by simp;omega⟩,Zb (by simp[Zl];omega),Zb (by simp[Zl];omega),Xat,Xab,el,e8,Ze]
     unfold Zg4
     dsimp only
     by_cases q:r8.1=2
     ·left
      rw[ZdM q,Zf (by omega) (by omega)]
      exact⟨_,rfl,⟨n+1,by simp,by omega,hx.trans x8⟩,by (try dsimp only)<;>omega⟩
     ·right
      rw[Zei q]
      exact⟨_,rfl,hx.trans x8⟩
    ·right
     rw[Zd (by simp;omega)]
     unfold Zg3
     dsimp only
     by_cases q3:1000≤(S'.length:Int)
     ·rw[Zc q3]
      exact⟨_,rfl,hx⟩
     ·obtain⟨r,e,hr⟩:=ZE8 (f:=f) hD hx.good (by omega) (by omega) hx.few hfu.1
      rw[Zd q3,e,Ze]
      exact⟨_,rfl,hx.trans hr⟩
  ·obtain⟨r,e,hr⟩:=ZE8 (f:=fuel - 1) hD hL (by omega) (by omega) hw (by omega)
   rw[Zc h0,e,Ze]
   exact⟨_,rfl,(same (fuel - 1) ⟨by omega,by omega⟩).trans hr⟩
 obtain⟨r,er,hr⟩:=tail
 refine⟨r,?_,hr⟩
 refine ZJ (f:=Zdw fuel D L S rec_) (fun s:Int×List Int=>∃n:Nat,s.1=n∧n≤D.length∧s.2=ZdZ D n) (fun s=>D.length - s.1.toNat) (fun _=>r) ?_ _ ⟨0,rfl,Nat.zero_le _,rfl⟩
 rintro⟨s,o⟩ ⟨n,hs,hn,ho⟩
 dsimp only at hs ho ⊢
 subst hs
 subst ho
 unfold Zdw
 dsimp only
 rcases Xad n D.length with h1|h1
 ·left
  have hli:=hD.1 _ (Zz (l:=D) (i:=n) (d:=0) h1)
  refine⟨((n:Int)+1,ZdZ D (n+1)),?_,⟨n+1,by simp,by omega,rfl⟩,by (try dsimp only)<;>omega,rfl⟩
  rw[Zc (by omega),Zb ⟨by omega,by omega⟩,Xab,Zol hli (ZjB hD n hn).1,Ze,Zf (by omega) (by omega)]
  rfl
 ·right
  have:n=D.length:=by omega
  subst this
  rw[Zd (by omega),er]
  rfl
theorem Zx5:∀(n:Nat) (D:List Int) (L:Zu) (S:List ZC) (fuel:Int),Zcg D→Zbr L→L.length≤400+S.length→S.length≤1000→ZgP S→(0≤fuel∧fuel≤2000)→13≤n+D.length→∃r,Z7 n fuel D L S=some r∧SeaOk L S fuel r.2.2.2.1 r.2.2.2.2 r.2.1
 |0,D,L,S,fuel,hD,_,_,_,_,_,hn=>by have:=Zf7 hD;omega
 |n+1,D,L,S,fuel,hD,hL,hl,hS,hw,hf,hn=>by
  show ∃r,Zbx (Z7 n) fuel D L S=some r∧_
  exact Zzi (fun l L' S' f' h1 h2 h3 h4 h5 h6=>Zx5 n (D++[l]) L' S' f' h1 h2 h3 h4 h5 h6 (by rw[Xal,Xav];omega)) hD hL hl hS hw hf
theorem ZEQ (D:List Int) (f:Int) (L:Zu):ZkJ f D L=Zbx (Z7 64) f D L []:=by
 unfold ZkJ Zbx
 have e1:Zlt D=fun r5=>Zee D r5 (Z7 64):=rfl
 have e2:ZhZ f D L=Zcn f D L [] (Z7 64):=by
  unfold ZhZ Zcn
  rw[e1]
  rfl
 have e3:Zh0 f D L=Zdw f D L [] (Z7 64):=by
  unfold Zh0 Zdw
  rw[e2]
 rw[e3]
 rfl
end Go.AE.Y
namespace Go.AE.Y
open Go Go.AE
theorem Zzb (r:List Int→Int→Bool→Zu→Option VR) (D:List Int) (f:Int) (m:Bool) (L:Zu):ZdY r D f m L=ZK (ZA 64) D f m L []:=by
 unfold ZdY ZK
 have e1:ZfC D=fun r4=>Zbv D r4 (ZA 64):=rfl
 have e2:Zd9 D f m L=ZV D f m L [] (ZA 64):=by
  unfold Zd9 ZV
  rw[e1]
  rfl
 have e3:Zea D f m L=Zbe D f m L [] (ZA 64):=by
  unfold Zea Zbe
  rw[e2]
 rw[e3]
 rfl
theorem ZqY (a:Zu) (h:a.length≤1048576):Zbw a=some a:=by
 unfold Zbw
 refine ZxQ (fun e=>by rw[e]) ?_
 rw[Zb (by simp only[Xao,Zl];omega),Xat]
end Go.AE.Y
namespace Go.AE.Y
open Go Go.AE
set_option maxHeartbeats 400000
theorem ZuK {α β:Type} {p:Prop} [Decidable p] {m:Option α} {f:α→Option β}:(rq p m).bind f=rq p (m.bind f):=by
 unfold rq
 split<;>rfl
theorem Zx1 {α:Type} {p:Prop} [Decidable p] {m:Option α} (h:¬p):rq p m=none:=if_neg h
theorem ZzY {α:Type} {p:Prop} [Decidable p] {m m':Option α} (h:p→m=m'):rq p m=rq p m':=by
 unfold rq
 split
 ·exact h ‹_›
 ·rfl
theorem ZE4 {c:List (Int×Int)×Int} {p:List Int} (hc:ZD c=true) (hl:c.1.length≤1048576) (hp:OkP p) (h0:0≤ZbM c.1 p c.1.length - c.2):Zhg c p=Zcc c p:=by
 unfold Zhg Zcc
 rw[ZnU hc hl hp,Zgo hc hl hp,Ze,Ze]
 refine ZvF (fun _=>True) ?_ (fun _ _ _ _=>trivial) trivial
 rintro⟨i,o⟩ -
 unfold ZgF Zb9
 dsimp only
 by_cases q:i<(c.1.length:Int)
 ·rw[Zc q,Zc q,Zc h0]
  refine ZzY fun hi=>?_
  have l1:=((ZdC hc).2 i.toNat (by omega)).1
  rw[Zrz l1 hp,ZnM l1 hp,Ze,Ze]
  by_cases z:unZ (c.1.getD i.toNat (0,0)).2 p=0
  ·rw[Zx z,Zx z,Zb hi]
   by_cases y:ZbM c.1 p c.1.length - c.2<(c.1.getD i.toNat (0,0)).1
   ·rw[Zc y,Zc y,Zb hi]
   ·rw[Zd y,Zd y]
  ·rw[Zt z,Zt z]
 ·rw[Zd q,Zd q]
theorem ZII (i:Int) (r:List Int) (s:Bool×Int×List Int):ZdP i r s=ZcB i r s:=by
 obtain⟨m,k,o⟩:=s
 unfold ZdP ZcB Zgs
 dsimp only
 by_cases q:k<(r.length:Int)
 ·rw[Zc q,Zc q]
  refine ZzY fun hi=>?_
  by_cases z:0<r.getD k.toNat 0
  ·rw[Zc z,Zc z,ZuK,ZuK,Ze]
  ·rw[Zd z,Zd z,ZuK,ZuK,ZuK,Ze]
 ·rw[Zd q,Zd q]
theorem ZIH {L:Zu} (hL:Zbr L) {s:Bool×Int×List Int} (hp:OkP s.2.2):ZdO L s=ZbI L s:=by
 obtain⟨m,i,o⟩:=s
 dsimp only at hp
 unfold ZdO ZbI
 dsimp only
 by_cases q:i<(L.length:Int)
 ·rw[Zc q,Zc q]
  refine ZzY fun hi=>?_
  obtain⟨g1,g2⟩:=hL _ (Zz (l:=L) (i:=i.toNat) (d:=([],0)) (by omega))
  rw[ZnU g1 g2 hp,Zgo g1 g2 hp,Ze,Ze]
  by_cases z:ZbM (L.getD i.toNat ([],0)).1 o (L.getD i.toNat ([],0)).1.length - (L.getD i.toNat ([],0)).2<0
  ·rw[Zc z,Zc z]
  ·rw[Zd z,Zd z,Zb hi,ZE4 g1 g2 hp (by omega)]
   congr 1
   funext r
   exact congrArg (fun f=>loop f (m,(0:Int),o)) (funext fun s=>ZII i r s)
 ·rw[Zd q,Zd q]
theorem ZIG {L:Zu} (hL:Zbr L) (hl:L.length≤1048576) {s s':Bool×Int×List Int} (hp:OkP s.2.2) (h:ZbI L s=some (.inl s')):OkP s'.2.2:=by
 obtain⟨m,i,o⟩:=s
 dsimp only at hp
 unfold ZbI at h
 dsimp only at h
 by_cases q:i<(L.length:Int)
 ·rw[Zc q]at h
  by_cases hi:0≤i∧i<(L.length:Int)
  ·rw[Zb hi]at h
   obtain⟨g1,g2⟩:=hL _ (Zz (l:=L) (i:=i.toNat) (d:=([],0)) (by omega))
   rw[Zgo g1 g2 hp,Ze]at h
   by_cases z:ZbM (L.getD i.toNat ([],0)).1 o (L.getD i.toNat ([],0)).1.length - (L.getD i.toNat ([],0)).2<0
   ·rw[Zc z]at h
    cases h
   ·obtain⟨r9,e9,k1,k2⟩:=ZtP g1 g2 hp
    obtain⟨md,out,e3,u1,_⟩:=ZFw hp k1 k2 m (i3:=i) ⟨by omega,by omega⟩
    rw[Zd z,e9,Ze,e3]at h
    cases h
    exact u1
  ·rw[Zx1 hi]at h
   cases h
 ·rw[Zd q]at h
  cases h
theorem ZCf {L:Zu} {p:List Int} (hL:Zbr L) (hl:L.length≤1048576) (hp:OkP p):ZeC L p=ZbH L p:=by
 unfold ZeC ZbH
 rw[Zl0 (by have:=hp.1;omega),Ze]
 refine ZvF (fun s:Bool×List Int=>OkP s.2) ?_ ?_ hp
 ·rintro⟨m,o⟩ ho
  dsimp only at ho
  unfold Zfp ZcA
  dsimp only
  cases m with
  |false=>rw[cff,cff]
  |true=>
   rw[ctt,ctt]
   exact ZvF (fun s:Bool×Int×List Int=>OkP s.2.2) (fun s hs=>ZIH hL hs) (fun s s' hs h=>ZIG hL hl hs h) ho
 ·rintro⟨m,o⟩ s' ho h
  dsimp only at ho
  unfold ZcA at h
  dsimp only at h
  cases m with
  |false=>rw[cff]at h;cases h
  |true=>
   rw[ctt]at h
   obtain⟨r,e,h2|h2⟩:=ZFv hL hl ho
   ·obtain⟨md,out,rfl,⟨u1,_⟩,_⟩:=h2
    rw[e]at h
    cases h
    exact u1
   ·obtain⟨i,out,rfl,_⟩:=h2
    rw[e]at h
    cases h
end Go.AE.Y
namespace Go.AE.Y
open Go Go.AE
set_option maxHeartbeats 400000
def ZAR (D:List Int):Zu:=[(Z1 (Zbm (Zbb D)),1)]
def ZAQ (D:List Int):List ZC:=[((7:Int),((0:Int),((0:Int),(Z1 (Zbm (Zbb D)),(1:Int)))))]
theorem ZxH {D:List Int} (hD:Zcg D):Zio (Zbb D)=(true,1,Z1 (Zbm (Zbb D))):=by
 have hd:=Zf7 hD
 unfold Zio
 rw[Zlb hD,Xae (show (Zbb D).length≤40 by unfold Zbb;rw[Xak];omega)]
 rfl
theorem ZBX {D:List Int} {L:Zu} {S:List ZC} (hD:Zcg D) (hl:L.length≤2000) (hS:S.length<1000) (f:Int) (m:Bool) :
  Zct D f m L S=some (L++ZAR D,S++ZAQ D):=by
 have hd:=Zf7 hD
 have hlf:=Zmp (Zbb D)
 have hol:(Z1 (Zbm (Zbb D))).length≤12:=by unfold Z1;rw[Xak];exact hlf
 unfold Zct
 refine(ZbU (f:=ZbC D L S) D 0 (fun x=>0 - x) [] (fun _=>(L++ZAR D,S++ZAQ D)) (fun i out hi ho=>?_) ?_)
 ·have:=Zy.1 (hD.1 _ (Zz (l:=D) (i:=i) (d:=0) hi))
  unfold ZbC
  dsimp only
  rw[Zc (by omega),Zb ⟨by omega,by omega⟩,Xab,Zf (by omega) (by omega),Zb (by simp only[Zl,Xap,Xao];simp at ho;omega),Zf (by omega) (by omega)]
 ·unfold ZbC Zem Zen
  dsimp only
  rw[Zd (by omega),Xat,show D.map (fun x=>0 - x)=Zbb D from rfl,Zkm _ (by unfold Zbb;rw[Xak];omega),Ze,ZxH hD]
  dsimp only
  rw[Zb (by simp[Zl];omega),ZA3 _ (by (try dsimp only)<;>omega),Ze,Zb (by simp[Zl];omega)]
  rfl
theorem ZE7 {D:List Int} {L:Zu} {S:List ZC} (hD:Zcg D) (hl:L.length≤2000) (hS:S.length<1000) (f:Int) :
  Zdv f D L S=some (f,L++ZAR D,S++ZAQ D):=by
 have hd:=Zf7 hD
 have hlf:=Zmp (Zbb D)
 have hol:(Z1 (Zbm (Zbb D))).length≤12:=by unfold Z1;rw[Xak];exact hlf
 unfold Zdv
 refine(ZbU (f:=Zc2 f D L S) D 0 (fun x=>0 - x) [] (fun _=>(f,L++ZAR D,S++ZAQ D)) (fun i out hi ho=>?_) ?_)
 ·have:=Zy.1 (hD.1 _ (Zz (l:=D) (i:=i) (d:=0) hi))
  unfold Zc2
  dsimp only
  rw[Zc (by omega),Zb ⟨by omega,by omega⟩,Xab,Zf (by omega) (by omega),Zb (by simp only[Zl,Xap,Xao];simp at ho;omega),Zf (by omega) (by omega)]
 ·unfold Zc2 ZhY
  dsimp only
  rw[Zd (by omega),Xat,show D.map (fun x=>0 - x)=Zbb D from rfl,ZkC _ (by unfold Zbb;rw[Xak];omega),Ze,ZxH hD]
  dsimp only
  rw[Zb (by simp[Zl];omega),Zb (by simp[Zl];omega)]
  rfl
theorem ZJh {p:List Int} {r:Int×Bool×List Bool} {q:Int} (h1:Zgp p=some r) (h2:Zi1 p=some q):q=r.1:=by
 unfold Zgp at h1
 unfold Zi1 at h2
 refine ZzN (fun (s:Int×List Bool) (t:Int)=>s.1=t) (fun r q=>q=r.1) ?_ rfl h1 h2
 rintro⟨i,o⟩ t rfl a b ha hb
 unfold Zhv at ha
 unfold ZjT at hb
 dsimp only at ha hb
 by_cases c1:i<(p.length:Int)
 ·rw[Zc c1]at ha hb
  by_cases c2:0≤i∧i<(p.length:Int)
  ·rw[Zb c2]at ha hb
   by_cases c3:p.getD i.toNat 0=0
   ·rw[Zx c3]at ha hb
    by_cases c4:i64 (i+1)
    ·rw[Zb c4]at ha hb
     cases ha
     cases hb
     exact Or.inr ⟨_,_,rfl,rfl,rfl⟩
    ·rw[Zx1 c4]at hb
     cases hb
   ·rw[Zt c3]at ha hb
    by_cases c5:o.length+[(decide ((0:Int)<(p.getD i.toNat 0)))].length≤Zl
    ·rw[Zb c5]at ha
     by_cases c4:i64 (i+1)
     ·rw[Zb c4]at ha hb
      cases ha
      cases hb
      exact Or.inl ⟨_,_,rfl,rfl,rfl⟩
     ·rw[Zx1 c4]at hb
      cases hb
    ·rw[Zx1 c5]at ha
     cases ha
  ·rw[Zx1 c2]at hb
   cases hb
 ·rw[Zd c1]at ha hb
  unfold Zku at ha
  cases ha
  cases hb
  exact Or.inr ⟨_,_,rfl,rfl,rfl⟩
end Go.AE.Y
namespace Go.AE.Y
open Go Go.AE
set_option maxHeartbeats 400000
def Zpy (c:List (Int×Int)×Int):Int:=(c.1.map (fun t=>t.1)).sum
def ZjQ (c:List (Int×Int)×Int):List (Int×Int)×Int:=(c.1.map (fun t=>(t.1,0 - t.2)),max 0 (Zpy c - c.2+1))
def ZAY (L:Zu):Prop:=∀q,OkP q→¬ZBY L q
def Zfl (D:List Int):List (Int×Int)×Int:=(Z1 (Zbm (Zbb D)),1)
def ZvU (c:List (Int×Int)×Int):ZC:=(7,(0,(0,c)))
theorem ZAP {D:List Int} (hD:Zcg D):ZD (Zfl D)=true:=ZtF (fun x hx=>(ZfL (Zlb hD)).1 x ((Zg9 (Zlb hD) x).1 hx)) (ZoF (Zlb hD))
theorem ZIu (D:List Int):(Zfl D).1.length≤12:=by
 show (Z1 (Zbm (Zbb D))).length≤12
 unfold Z1
 rw[Xak]
 exact Zmp (Zbb D)
theorem ZzR (q:List Int) (ls:List Int):∀n,n≤ls.length→ZbM (Z1 ls) q n=((ls.take n).countP (fun l=>decide (0≤unZ l q)):Nat)
 |0,_=>rfl
 |n+1,hn=>by
  have e:ZbM (Z1 ls) q (n+1)=ZbM (Z1 ls) q n+(if 0≤unZ ((Z1 ls).getD n (0,0)).2 q then((Z1 ls).getD n (0,0)).1 else 0):=rfl
  rw[e,ZzR q ls n (by omega),Zoe (by omega),Zeo 0 (by omega),List.countP_append]
  dsimp only
  by_cases h:0≤unZ (ls.getD n 0) q
  ·rw[if_pos h,List.countP_singleton,if_pos (Xae h)]
   omega
  ·rw[if_neg h,List.countP_singleton,if_neg (by rw[Xaf];exact h)]
   omega
theorem ZFq (ls:List Int):(Z1 ls).length=ls.length:=Xak ..
theorem ZKL {ls q:List Int} (h:Zxk (Z1 ls,(ls.length:Int)) q):∀l∈ls,0<unZ l q:=by
 obtain⟨h1,h2⟩:=h
 dsimp only at h1 h2
 rw[ZFq,ZzR q ls ls.length (Nat.le_refl _),XaA]at h1 h2
 have hle:=List.countP_le_length (p:=fun l=>decide (0≤unZ l q)) (l:=ls)
 have hall:∀l∈ls,0≤unZ l q:=fun l hl=>by
  have:=List.countP_eq_length.1 (show ls.countP (fun l=>decide (0≤unZ l q))=ls.length by omega) l hl
  exact of_decide_eq_true this
 intro l hl
 obtain⟨i,hi,rfl⟩:=Xan.1 hl
 have e:ls.getD i 0=ls[i]:=by rw[Xaa,Xac hi];rfl
 have:=hall _ hl
 rcases Int.lt_or_eq_of_le this with q1|q1
 ·exact q1
 ·have:=h2 i hi (by rw[Zoe hi,e];exact q1.symm)
  rw[Zoe hi]at this
  dsimp only at this
  omega
theorem ZGs {ls q:List Int} {x:Int} (hn:ls.Pairwise (fun x y=>vof x<vof y)) (h:Zxk (Z1 ls,1) q) (hx:∀l∈ls,l≠x→unZ l q<0):0<unZ x q:=by
 obtain⟨h1,h2⟩:=h
 dsimp only at h1 h2
 rw[ZFq,ZzR q ls ls.length (Nat.le_refl _),XaA]at h1 h2
 have hnd:ls.Nodup:=hn.imp (fun {a b} hab e=>by rw[e]at hab;omega)
 have hle:ls.countP (fun l=>decide (0≤unZ l q))≤ls.count x:=List.countP_mono_left (fun l hl hp=>by
  have hp:=of_decide_eq_true hp
  by_cases e:l=x
  ·rw[e];exact beq_self_eq_true x
  ·have:=hx l hl e
   omega)
 have h3:=List.nodup_iff_count.1 hnd x
 have hpos:0<ls.countP (fun l=>decide (0≤unZ l q)):=by omega
 obtain⟨l,hl,hp⟩:=List.countP_pos_iff.1 hpos
 have hp:=of_decide_eq_true hp
 have hlx:l=x:=by
  by_cases e:l=x
  ·exact e
  ·have:=hx l hl e
   omega
 subst hlx
 obtain⟨i,hi,rfl⟩:=Xan.1 hl
 have e:ls.getD i 0=ls[i]:=by rw[Xaa,Xac hi];rfl
 rcases Int.lt_or_eq_of_le hp with q1|q1
 ·exact q1
 ·have:=h2 i hi (by rw[Zoe hi,e];exact q1.symm)
  rw[Zoe hi]at this
  dsimp only at this
  omega
theorem ZHz {l:Int} {q:List Int} (h:l≠0):unZ (0 - l) q=0 - unZ l q:=by
 unfold unZ
 by_cases h1:l<0
 ·rw[if_pos h1,if_neg (show ¬0 - l<0 by omega)]
  omega
 ·rw[if_neg h1,if_pos (show 0 - l<0 by omega),show (0 - (0 - l) - 1:Int)=l - 1 by omega]
theorem ZDh (ls:List Int):Zpy (Z1 ls,1)=ls.length:=by
 unfold Zpy Z1
 induction ls with
 |nil=>rfl
 |cons x ls ih=>
  dsimp only at ih ⊢
  rw[XaQ,XaQ,XbN,ih,Xap]
  omega
theorem ZIC (D:List Int):ZjQ (Zfl D)=(Z1 ((Zbm (Zbb D)).map (fun l=>0 - l)),(((Zbm (Zbb D)).map (fun l=>0 - l)).length:Int)):=by
 have h:=ZDh (Zbm (Zbb D))
 unfold ZjQ Zfl
 rw[h]
 dsimp only
 rw[Xak]
 have e1:(Z1 (Zbm (Zbb D))).map (fun t=>(t.1,0 - t.2))=Z1 ((Zbm (Zbb D)).map (fun l=>0 - l)):=by
  unfold Z1
  rw[XbG,XbG]
  rfl
 rw[e1,show max (0:Int) ((Zbm (Zbb D)).length - 1+1)=((Zbm (Zbb D)).length:Int) by omega]
theorem ZFg {D q:List Int} (hD:Zcg D) (h:Zxk (ZjQ (Zfl D)) q):∀d∈D,0<unZ d q:=by
 rw[ZIC]at h
 intro d hd
 have h1:=ZKL h
 refine h1 d (XaF.2 ⟨0 - d,(Zg9 (Zlb hD) _).2 (XaF.2 ⟨d,hd,rfl⟩),by omega⟩)
theorem ZAS {D q:List Int} {l:Int} (hD:Zcg (D++[l])) (h:Zxk (Zfl (D++[l])) q) (hd:∀d∈D,0<unZ d q):0<unZ (0 - l) q:=by
 refine ZGs (ZoF (Zlb hD)) h (fun x hx hne=>?_)
 have hm:=(Zg9 (Zlb hD) x).1 hx
 obtain⟨d,hdm,rfl⟩:=XaF.1 hm
 have hlit:=Zy.1 (hD.1 d hdm)
 rcases List.mem_append.1 hdm with h1|h1
 ·have:=hd d h1
  rw[ZHz hlit.1]
  omega
 ·rw[Xah]at h1
  rw[h1]at hne
  exact absurd rfl hne
theorem ZJe {D:List Int} {L:Zu} {v:Int} (hD:Zcg D) (hv:Zcg (D++[v])∧Zcg (D++[0 - v])) (h1:Zfl (D++[v])∈L) (h2:Zfl (D++[0 - v])∈L):ZAY (L++[ZjQ (Zfl D)]):=fun q hq hf=>by
 have hd:=ZFg hD (hf _ (Xa1 _ Xau))
 have hl:=Zy.1 (hv.1.1 v (Xa1 _ Xau))
 have a:=ZAS hv.1 (hf _ (Xa4 _ h1)) hd
 have b:=ZAS hv.2 (hf _ (Xa4 _ h2)) hd
 rw[show (0 - (0 - v):Int)=v by omega]at b
 rw[ZHz hl.1]at a
 omega
theorem ZCO {D q:List Int} (hD:Zcg D) (hq:OkP q) (h:∀d∈D,0<unZ d q):∀n,n≤D.length→subP (ZdZ D n) q
 |0,_=>fun j hj=>absurd (ZyA j) hj
 |n+1,hn=>by
  have hm:=Zz (l:=D) (i:=n) (d:=0) (by omega)
  exact Zx7 (r:=[D.getD n 0]) (fun l hl=>by rw[Xah]at hl;rw[hl];exact⟨hD.1 _ hm,h _ hm⟩) (ZjB hD n (by omega)).1 hq (ZCO hD hq h n (by omega))
theorem ZEI {D:List Int} {L:Zu} {i:Int} {out:List Int} (hD:Zcg D) (hL:Zbr L) (hl:L.length≤1048576) (he:ZbH L (ZdZ D D.length)=some (i,out)) (hi:0≤i):ZAY (L++[ZjQ (Zfl D)]):=fun q hq hf=>by
 have hd:=ZFg hD (hf _ (Xa1 _ Xau))
 have:=ZIJ hL hl (ZjB hD D.length (Nat.le_refl _)).1 hq (fun c hc=>hf c (Xa4 _ hc)) (ZCO hD hq hd D.length (Nat.le_refl _)) he
 dsimp only at this
 omega
inductive RupExt (L:Zu) (S:List ZC):Zu→List ZC→Prop where
 |refl:RupExt L S L S
 |snoc {L':Zu} {S':List ZC} {c:List (Int×Int)×Int}:RupExt L S L' S'→ZD c=true→c.1.length≤12→ZAY (L'++[ZjQ c])→RupExt L S (L'++[c]) (S'++[ZvU c])
theorem RupExt.trans {L L' L'':Zu} {S S' S'':List ZC} (a:RupExt L S L' S') (b:RupExt L' S' L'' S''):RupExt L S L'' S'':=by
 induction b with
 |refl=>exact a
 |snoc _ h1 h2 h3 ih=>exact ih.snoc h1 h2 h3
theorem RupExt.sub {L L':Zu} {S S':List ZC} (a:RupExt L S L' S'):∀c∈L,c∈L':=by
 induction a with
 |refl=>exact fun c h=>h
 |snoc _ _ _ _ ih=>exact fun c h=>Xa4 _ (ih c h)
def ZsI (D:List Int) (L:Zu) (S:List ZC) (r:VR):Prop:=RupExt L S r.2.2.2.2.1 r.2.2.2.2.2∧(r.1=false→r.2.2.1=false→Zfl D∈r.2.2.2.2.1)
theorem Zzm {D:List Int} {L:Zu} {S:List ZC} {fuel:Int} {rec_:List Int→Int→Bool→Zu→List ZC→Option VR}
  (hrec:∀(l:Int) (L':Zu) (S':List ZC) (f':Int),Zcg (D++[l])→Zbr L'→L'.length≤400+S'.length→S'.length≤1000→(0≤f'∧f'≤2000)→∃r,rec_ (D++[l]) f' false L' S'=some r∧ZfF (D++[l]) L' S' f' r∧ZsI (D++[l]) L' S' r)
  (hD:Zcg D) (hL:Zbr L) (hl:L.length≤400+S.length) (hS:S.length≤1000) (hf:0≤fuel∧fuel≤2000):∃r,ZK rec_ D fuel false L S=some r∧ZfF D L S fuel r∧ZsI D L S r:=by
 have hd:=Zf7 hD
 have much:ZfF D L S fuel (false,fuel,true,([]:List Bool),L,S):=⟨⟨hf.1,Xaq _⟩,Ext.refl hL hS,fun h=>(by cases h),fun _ h=>(by cases h)⟩
 have muchR:ZsI D L S (false,fuel,true,([]:List Bool),L,S):=⟨RupExt.refl,fun _ h=>(by cases h)⟩
 unfold ZK
 by_cases q1:fuel=0
 ·exact⟨_,by rw[Zx q1],much,muchR⟩
 rw[Zt q1]
 by_cases q2:1000≤(S.length:Int)
 ·exact⟨_,by rw[Zc q2],much,muchR⟩
 rw[Zd q2,Zf (by omega) (by omega),Zb ⟨by omega,by simp only[Zl];omega,rfl⟩]
 obtain⟨p1,p2,p3,p4,p5⟩:=ZjB hD D.length (Nat.le_refl _)
 have tail:∃r,ZV D fuel false L S rec_ (ZdZ D D.length)=some r∧ZfF D L S fuel r∧ZsI D L S r:=by
  unfold ZV
  obtain⟨⟨i,out⟩,e1,⟨t1,t2,t3⟩,hc⟩:=Ze8 hL (by omega) p1
  dsimp only at t1 t2 t3 hc
  rw[e1,Ze]
  dsimp only
  have failed:∀(f:Int) (L':Zu) (S':List ZC),(0≤f∧f≤fuel)→Ext L S L' S'→S'.length<1000→(∀v,Zek L v→¬agD D v)→RupExt L S L' S'→ZAY (L'++[ZjQ (Zfl D)])→∃r,Zbd D (f,false,L',S')=some r∧ZfF D L S fuel r∧ZsI D L S r:=fun f L' S' hf' hx hs' hno hru hne=>by
   obtain⟨⟨L2,S2⟩,e,hx2⟩:=ZG9 hD hx.good (by have:=hx.len;omega) hs' (fun v hv=>hno v (hx.back v hv)) f false
   have e0:=ZBX hD (by have:=hx.len;omega) hs' f false (L:=L')
   rw[e]at e0
   injection e0 with e0
   injection e0 with e1 e2
   unfold Zbd
   dsimp only
   rw[e,Ze]
   refine⟨_,rfl,⟨hf',hx.trans hx2,fun h=>(by cases h),fun _ _=>hno⟩,?_⟩
   rw[e1,e2]
   exact⟨hru.snoc (ZAP hD) (ZIu D) hne,fun _ _=>Xa1 _ Xau⟩
  rcases hc with⟨rfl,hk⟩|⟨h0,hk⟩
  ·rw[Zc (by omega)]
   obtain⟨r4,e4,h|h⟩:=Zn7 t1
   ·obtain⟨rfl,ht⟩:=h
    rw[e4,Ze]
    dsimp only
    rw[ctt]
    refine⟨_,rfl,⟨⟨by (try dsimp only)<;>omega,by (try dsimp only)<;>omega⟩,Ext.refl hL hS,fun _=>⟨by show (out.map _).length=12;rw[Xak];exact t1.1,fun c hcm=>?_⟩,fun h=>(by cases h)⟩,⟨RupExt.refl,fun h=>(by cases h)⟩⟩
    have ha:agP out (out.map (fun n=>decide (0<n))):=fun j hne=>by
     rcases Xad j out.length with h1|h1
     ·rw[Xaa,Xbi,Xac h1,Xaa,Xac h1]
      rfl
     ·rw[Xaa,Xaw h1]at hne
      exact absurd rfl hne
    exact ZDd (hL c hcm).1 t1 ha ht (hk c hcm)
   ·obtain⟨k,hk12,hk0,rfl⟩:=h
    rw[e4,Ze]
    dsimp only
    rw[cff,Zf (by omega) (by omega)]
    have hvar:∀l:Int,vof l=(k:Int)+1→∀i,i<D.length→vof (D.getD i 0)≠vof l:=fun l hl i hi=>by
     rw[hl]
     exact p3 k (t3 k hk0) i hi
    refine Zb4 (f:=Zbv D ((k:Int)+1,false,[]) rec_) (fun s:Int×Int×Bool×Zu×List ZC=>∃n:Nat,s.1=n∧n≤2∧(0≤s.2.1∧s.2.1≤fuel)∧s.2.2.1=false∧Ext L S s.2.2.2.1 s.2.2.2.2∧(1≤n→∀v,Zek L v→agD D v→ZR v ((k:Int)+1)=false)∧(2≤n→∀v,Zek L v→agD D v→ZR v (0 - ((k:Int)+1))=false)∧RupExt L S s.2.2.2.1 s.2.2.2.2∧(1≤n→Zfl (D++[((k:Int)+1)])∈s.2.2.2.1)∧(2≤n→Zfl (D++[0 - ((k:Int)+1)])∈s.2.2.2.1)) (fun s=>2 - s.1.toNat) (fun r=>ZfF D L S fuel r∧ZsI D L S r) ?_ _ ⟨0,rfl,by omega,⟨by (try dsimp only)<;>omega,by (try dsimp only)<;>omega⟩,rfl,Ext.refl hL hS,fun h=>by omega,fun h=>by omega,RupExt.refl,fun h=>by omega,fun h=>by omega⟩
    rintro⟨s,f,m,L',S'⟩ ⟨n,hs,hn,hf',hm,hx,g1,g2,hru,u1,u2⟩
    dsimp only at hs hf' hm hx g1 g2 hru u1 u2 ⊢
    subst hs
    subst hm
    unfold Zbv
    dsimp only
    rcases Xad n 2 with h1|h1
    ·have hlit:∃l,[((k:Int)+1),(0 - ((k:Int)+1))].getD n 0=l∧vof l=(k:Int)+1∧ZX l=true∧((n=0∧l=(k:Int)+1)∨(n=1∧l=0 - ((k:Int)+1))):=by
      have:n=0∨n=1:=by omega
      rcases this with rfl|rfl
      ·exact⟨(k:Int)+1,rfl,by unfold vof;omega,Zy.2 ⟨by omega,by omega,by omega⟩,Or.inl ⟨rfl,rfl⟩⟩
      ·exact⟨0 - ((k:Int)+1),rfl,by unfold vof;omega,Zy.2 ⟨by omega,by omega,by omega⟩,Or.inr ⟨rfl,rfl⟩⟩
     obtain⟨l,el,hv,hli,hnl⟩:=hlit
     have hlen:=hx.len
     have htop:=hx.top
     obtain⟨r8,e8,⟨f1,x1,sa1,no1⟩,⟨v1,v2⟩⟩:=hrec l L' S' f (ZpW hD hli (hvar l hv)) hx.good (by omega) htop ⟨by omega,by omega⟩
     rw[Zc (by simp;omega),Zb ⟨by omega,by simp;omega⟩,Xab,el,Zl0 (by omega),Ze,Zb (by simp[Zl];omega),e8,Ze]
     cases hok:r8.1 with
     |true=>
      right
      rw[ctt]
      refine⟨_,rfl,⟨⟨by (try dsimp only)<;>omega,by (try dsimp only)<;>omega⟩,hx.trans x1,fun _=>⟨(sa1 hok).1,fun c hcm=>?_⟩,fun h=>(by cases h)⟩,⟨hru.trans v1,fun h=>(by cases h)⟩⟩
      exact hx.back _ (sa1 hok).2 c hcm
     |false=>
      rw[cff]
      cases hmu:r8.2.2.1 with
      |true=>
       right
       rw[ctt]
       exact⟨_,rfl,⟨⟨by (try dsimp only)<;>omega,by (try dsimp only)<;>omega⟩,hx.trans x1,fun h=>(by cases h),fun _ h=>(by cases h)⟩,⟨hru.trans v1,fun _ h=>(by cases h)⟩⟩
      |false=>
       left
       have hno:∀v,Zek L v→agD D v→ZR v l=false:=fun v h1 h2=>by
        cases hb:ZR v l with
        |false=>rfl
        |true=>
         exfalso
         refine no1 hok hmu v (hx.sound v h1) (fun x hxm=>?_)
         rcases List.mem_append.1 hxm with h|h
         ·exact h2 x h
         ·rw[Xah]at h;rw[h];exact hb
       rw[cff,Zf (by omega) (by omega)]
       refine⟨_,rfl,⟨n+1,by simp,by omega,⟨by (try dsimp only)<;>omega,by (try dsimp only)<;>omega⟩,rfl,hx.trans x1,fun _=>?_,fun h2=>?_,hru.trans v1,fun _=>?_,fun h2=>?_⟩,by (try dsimp only)<;>omega⟩
       ·rcases hnl with⟨rfl,rfl⟩|⟨rfl,rfl⟩
        ·exact hno
        ·exact g1 (by omega)
       ·rcases hnl with⟨rfl,rfl⟩|⟨rfl,rfl⟩
        ·omega
        ·exact hno
       ·rcases hnl with⟨rfl,rfl⟩|⟨rfl,rfl⟩
        ·exact v2 hok hmu
        ·exact v1.sub _ (u1 (by omega))
       ·rcases hnl with⟨rfl,rfl⟩|⟨rfl,rfl⟩
        ·omega
        ·exact v2 hok hmu
    ·right
     have hn2:n=2:=by omega
     rw[Zd (by simp;omega)]
     unfold Zdb
     dsimp only
     have hno:∀v,Zek L v→¬agD D v:=fun v h1 h2=>by
      have a1:=g1 (by omega) v h1 h2
      have a2:=g2 (by omega) v h1 h2
      rw[ZoE (by omega),a1]at a2
      cases a2
     by_cases q3:1000≤(S'.length:Int)
     ·rw[Zc q3]
      exact⟨_,rfl,⟨⟨by (try dsimp only)<;>omega,by (try dsimp only)<;>omega⟩,hx,fun h=>(by cases h),fun _ h=>(by cases h)⟩,⟨hru,fun _ h=>(by cases h)⟩⟩
     ·rw[Zd q3]
      obtain⟨r,e,hr⟩:=failed f L' S' hf' hx (by omega) hno hru (ZJe hD ⟨ZpW hD (Zy.2 ⟨by omega,by omega,by omega⟩) (hvar _ (by unfold vof;omega)),ZpW hD (Zy.2 ⟨by omega,by omega,by omega⟩) (hvar _ (by unfold vof;omega))⟩ (u1 (by omega)) (u2 (by omega)))
      rw[e]
      exact⟨_,rfl,hr⟩
  ·rw[Zd (by omega)]
   exact failed _ L S ⟨by omega,by omega⟩ (Ext.refl hL hS) (by omega) (fun v h1 h2=>hk v (p2 v h2) h1) (RupExt.refl) (ZEI hD hL (by omega) e1 (by (try dsimp only)<;>omega))
 obtain⟨r,er,hr⟩:=tail
 refine⟨r,?_,hr⟩
 refine ZJ (f:=Zbe D fuel false L S rec_) (fun s:Int×List Int=>∃n:Nat,s.1=n∧n≤D.length∧s.2=ZdZ D n) (fun s=>D.length - s.1.toNat) (fun _=>r) ?_ _ ⟨0,rfl,Nat.zero_le _,rfl⟩
 rintro⟨s,o⟩ ⟨n,hs,hn,ho⟩
 dsimp only at hs ho ⊢
 subst hs
 subst ho
 unfold Zbe
 dsimp only
 rcases Xad n D.length with h1|h1
 ·left
  have hlit:=Zy.1 (hD.1 _ (Zz (l:=D) (i:=n) (d:=0) h1))
  have h12:=(ZjB hD n hn).1.1
  have hvv:vof (D.getD n 0)=if 0<D.getD n 0 then D.getD n 0 else 0 - D.getD n 0:=by unfold vof;split<;>omega
  refine⟨((n:Int)+1,ZdZ D (n+1)),?_,⟨n+1,by simp,by omega,rfl⟩,by (try dsimp only)<;>omega,rfl⟩
  rw[Zc (by omega),Zb ⟨by omega,by omega⟩,Xab,Zd4 (by omega),Ze]
  have e:ZdZ D (n+1)=ZdF (D.getD n 0) (ZdZ D n):=rfl
  rw[e]
  unfold ZdF
  by_cases q:0<D.getD n 0
  ·rw[if_pos q]at hvv
   rw[hvv,if_pos q,Zf (by omega) (by omega),Zb ⟨by omega,by omega⟩,Zd (by omega),Zf (by omega) (by omega)]
  ·rw[if_neg q]at hvv
   rw[hvv,if_neg q,Zf (by omega) (by omega),Zb ⟨by omega,by omega⟩,Zc (by omega),Zf (by omega) (by omega),Zf (by omega) (by omega),Zb ⟨by omega,by rw[Xam];omega⟩,Zf (by omega) (by omega),List.set_set]
 ·right
  have:n=D.length:=by omega
  subst this
  rw[Zd (by omega),er]
  rfl
theorem ZDm:∀(n:Nat) (D:List Int) (L:Zu) (S:List ZC) (fuel:Int),Zcg D→Zbr L→L.length≤400+S.length→S.length≤1000→(0≤fuel∧fuel≤2000)→13≤n+D.length→∃r,ZA n D fuel false L S=some r∧ZfF D L S fuel r∧ZsI D L S r
 |0,D,L,S,fuel,hD,_,_,_,_,hn=>by have:=Zf7 hD;omega
 |n+1,D,L,S,fuel,hD,hL,hl,hS,hf,hn=>by
  show ∃r,ZK (ZA n) D fuel false L S=some r∧_
  exact Zzm (fun l L' S' f' h1 h2 h3 h4 h5=>ZDm n (D++[l]) L' S' f' h1 h2 h3 h4 h5 (by rw[Xal,Xav];omega)) hD hL hl hS hf
end Go.AE.Y
namespace Go.AE.Y
open Go Go.AE
set_option maxHeartbeats 400000
theorem ZHk {v:List Bool}:∀l:List (Int×Int),(∀t∈l,t.2≠0)→Zcy v (l.map (fun t=>(t.1,0 - t.2)))+Zcy v l=(l.map (fun t=>t.1)).sum
 |[],_=>rfl
 |t::l,h=>by
  have ih:=ZHk (v:=v) l (fun x hx=>h x (Xas _ hx))
  have h0:=h t Xau
  rw[XaQ,XaQ,XbN,Zfb,Zfb]
  dsimp only
  rw[ZoE h0]
  cases ZR v t.2 with
  |true=>rw[ctt,Xbf,cff];omega
  |false=>rw[cff,Xbd,ctt];omega
theorem ZMd {c:Zbt} (h:ZD c=true):∀t∈c.1,t.2≠0:=fun t ht=>(Zy.1 (ZpV h t ht).1.2).1
theorem ZK6 {c:Zbt} {v:List Bool} (h:ZD c=true):ZW v (ZjQ c) = !ZW v c:=by
 have h1:=ZHk (v:=v) c.1 (ZMd h)
 have h2:0≤Zcy v (c.1.map (fun t=>(t.1,0 - t.2))):=Zuk (fun t ht=>by
  obtain⟨x,hx,rfl⟩:=XaF.1 ht
  exact(ZpV h x hx).2)
 unfold ZW ZjQ Zpy
 dsimp only
 rw[Xbp,XaW,Xaf,decide_eq_false_iff_not]
 omega
theorem ZHx {c:Zbt} (h:ZD c=true):0≤Zpy c∧Zpy c≤1000*c.1.length:=by
 have key:∀l:List (Int×Int),(∀t∈l,okS t∧1≤t.1)→0≤(l.map (fun t=>t.1)).sum∧(l.map (fun t=>t.1)).sum≤1000*l.length:=by
  intro l
  induction l with
  |nil=>intro _;exact⟨Xaq _,Xaq _⟩
  |cons t l ih=>
   intro ht
   obtain⟨h1,h2⟩:=ih (fun x hx=>ht x (Xas _ hx))
   obtain⟨⟨h3,_⟩,h4⟩:=ht t Xau
   rw[XaQ,XbN,Xap]
   omega
 exact key c.1 (ZpV h)
theorem ZAt {c:Zbt} (h:ZD c=true):c.1.length≤12:=by
 have hc:=h
 unfold ZD at h
 simp only[Xag,Xaf,Xar,Xay]at h
 have key:∀i,i<c.1.length→(i:Int)+1≤vof (c.1.getD i (0,0)).2:=by
  intro i
  induction i with
  |zero=>
   intro hi
   have:=Zis ((ZdC hc).2 0 hi).1
   omega
  |succ i ih=>
   intro hi
   have h1:=ih (by omega)
   have h2:=h.1 (i+1) hi
   unfold Zft at h2
   simp only[Xag,Bool.or_eq_true,Xaf,beq_iff_eq,XbS]at h2
   have h3:=h2.2.2
   omega
 rcases Xad 12 c.1.length with q|q
 ·have h1:=key 12 q
  have h2:=Zis ((ZdC hc).2 12 q).1
  omega
 ·exact q
theorem ZHj {c:Zbt} (h:ZD c=true):ZD (ZjQ c)=true:=by
 have ht:=ZHx h
 have h12:=ZAt h
 have hb:=(ZdC h).1
 unfold ZD at h ⊢
 simp only[Xag,Xaf,Xar,Xay]at h ⊢
 refine⟨fun i hi=>?_,by show 0≤max 0 (Zpy c - c.2+1);omega,by show max 0 (Zpy c - c.2+1)≤20000;omega⟩
 have hi':i<c.1.length:=by
  have:(ZjQ c).1.length=c.1.length:=Xak ..
  omega
 have e:∀j,j<c.1.length→(ZjQ c).1.getD j (0,0)=((c.1.getD j (0,0)).1,0 - (c.1.getD j (0,0)).2):=fun j hj=>Zmi c.1 (fun t=>(t.1,0 - t.2)) j (0,0) (0,0) hj
 have h1:=h.1 i hi'
 unfold Zft at h1 ⊢
 rw[e i hi']
 have hv:∀x:Int,vof (0 - x)=vof x:=fun x=>by unfold vof;omega
 have hl:∀x:Int,ZX (0 - x)=ZX x:=fun x=>by
  rw[Xbp,Zy,Zy]
  omega
 simp only[hv,hl]
 by_cases q:i=0
 ·subst q
  exact h1
 ·rw[e (i - 1) (by omega)]
  simp only[hv]
  exact h1
def ZBD:List Int:=List.replicate 12 0
theorem ZyR:OkP ZBD:=⟨rfl,fun j=>Or.inl (ZyA j)⟩
noncomputable def Zp7 (L:Zu) (c:Zbt):Bool:=decide (0≤((ZbH (L++[ZjQ c]) ZBD).getD (-1,[])).1)
theorem ZzD {L:Zu} {c:Zbt} (hL:Zbr L) (hc:ZD c=true):Zbr (L++[ZjQ c]):=fun x hx=>by
 rcases List.mem_append.1 hx with h|h
 ·exact hL x h
 ·rw[Xah]at h
  rw[h]
  have h12:=ZAt (ZHj hc)
  exact⟨ZHj hc,by omega⟩
theorem ZMu {L:Zu} {c:Zbt} (hL:Zbr L) (hl:L.length≤1000000) (hc:ZD c=true):∃out,ZbH (L++[ZjQ c]) ZBD=some out∧Zp7 L c=decide (0≤out.1):=by
 obtain⟨r,e,_⟩:=Ze8 (ZzD hL hc) (by rw[Xal,Xav];omega) ZyR
 refine⟨r,e,?_⟩
 unfold Zp7
 rw[e]
 rfl
theorem ZJE {L:Zu} {c:Zbt} {v:List Bool} (hL:Zbr L) (hl:L.length≤1000000) (hc:ZD c=true) (h:Zp7 L c=true) (hv:Zek L v):ZW v c=true:=by
 obtain⟨r,e,_,hr⟩:=Ze8 (ZzD hL hc) (by rw[Xal,Xav];omega) ZyR
 unfold Zp7 at h
 rw[e]at h
 have h:0≤r.1:=of_decide_eq_true h
 rcases hr with hr|hr
 ·omega
 ·have hno:=hr.2 v (fun j hj=>absurd (ZyA j) hj)
  cases q:ZW v c with
  |true=>rfl
  |false=>
   exfalso
   refine hno (fun x hx=>?_)
   rcases List.mem_append.1 hx with h1|h1
   ·exact hv x h1
   ·rw[Xah]at h1
    rw[h1,ZK6 hc,q]
    rfl
theorem ZFC {L:Zu} {c:Zbt} (hL:Zbr L) (hl:L.length≤1000000) (hc:ZD c=true) (h:ZAY (L++[ZjQ c])):Zp7 L c=true:=by
 have hg:=ZzD hL hc
 have hlen:(L++[ZjQ c]).length≤1048576:=by rw[Xal,Xav];omega
 obtain⟨r,e,_⟩:=Ze8 hg hlen ZyR
 unfold Zp7
 rw[e]
 refine Xae ?_
 show 0≤r.1
 rcases Int.lt_or_le r.1 0 with q|q
 ·obtain⟨f1,_,f3⟩:=ZLd hg hlen ZyR e q
  exact absurd f3 (h _ f1)
 ·exact q
end Go.AE.Y
namespace Go.AE.Y
open Go Go.AE
set_option maxHeartbeats 400000
abbrev DbT:=Zu×List Bool
def Zkj (d:DbT) (i:Int):Zbt:=d.1.getD i.toNat ([],0)
def ZhR (d:DbT) (i:Int):Bool:=(decide (0≤i)&&decide (i<d.1.length)) && !(d.2.getD i.toNat false)
def ZnN (d:DbT):Nat→Zu
 |0=>[]
 |n+1=>ZnN d n++(bif d.2.getD n false then[]else[d.1.getD n ([],0)])
def ZmN (d:DbT):Zu:=ZnN d d.1.length
def ZD7 (s:ZC):Bool:=decide (s.2.2.2.1=[])&&decide (s.2.2.2.2=0)
def Zmr (s:ZC):Bool:=if s.1=1∨s.1=2∨s.1=3∨s.1=5 then ZD7 s else if s.1=4∨s.1=6∨s.1=8 then ZD7 s&&decide (s.2.2.1=0)else if s.1=7 then decide (s.2.1=0)&&decide (s.2.2.1=0)else false
noncomputable def Zdq (d:DbT) (s:ZC):Zm3:=
 if s.1=6 then axB s.2.1
 else if s.1=7 then(bif ZD s.2.2.2&&Zp7 (ZmN d) s.2.2.2 then Zp4 s.2.2.2 else noC)
 else bif ZhR d s.2.1 then
  (if s.1=1 then(bif ZhR d s.2.2.1 then Zva (Zkj d s.2.1) (Zkj d s.2.2.1)else noC)
  else if s.1=2 then ZvI (Zkj d s.2.1) s.2.2.1
  else if s.1=3 then Zvo (Zkj d s.2.1) s.2.2.1
  else if s.1=4 then ZCh (Zkj d s.2.1)
  else ZyF (Zkj d s.2.1) s.2.2.1)
 else noC
noncomputable def Zh8 (d:DbT) (s:ZC):Option DbT:=
 bif Zmr s then
  (if s.1=8 then(bif ZhR d s.2.1 then some (d.1,d.2.set s.2.1.toNat true)else none)
  else(bif (Zdq d s).1 then some (d.1++[ofR (Zdq d s)],d.2++[false])else none))
 else none
noncomputable def Zhz:DbT→List ZC→Option DbT
 |d,[]=>some d
 |d,s::r=>(Zh8 d s).bind fun d'=>Zhz d' r
def ZdG (l:Zu):DbT:=(l,List.replicate l.length false)
theorem ZxI (d:DbT):∀n,n≤d.1.length→∀c∈ZnN d n,∃i,i<n∧d.1.getD i ([],0)=c
 |0,_=>fun c hc=>absurd hc XaB
 |n+1,hn=>fun c hc=>by
  unfold ZnN at hc
  rcases List.mem_append.1 hc with h|h
  ·obtain⟨i,hi,e⟩:=ZxI d n (by omega) c h
   exact⟨i,by omega,e⟩
  ·cases hg:d.2.getD n false with
   |true=>rw[hg,ctt]at h;exact absurd h XaB
   |false=>rw[hg,cff,Xah]at h;exact⟨n,by omega,h.symm⟩
theorem ZtT (d:DbT):∀n,(ZnN d n).length≤n
 |0=>Nat.le_refl _
 |n+1=>by
  have:=ZtT d n
  unfold ZnN
  rw[Xal]
  cases d.2.getD n false with
  |true=>rw[ctt,Xao];omega
  |false=>rw[cff,Xav];omega
theorem ZC3 {d:DbT} (h:Zbr d.1):Zbr (ZmN d):=fun c hc=>by
 obtain⟨i,hi,rfl⟩:=ZxI d d.1.length (Nat.le_refl _) c hc
 exact h _ (Zz hi)
theorem Zvk {d:DbT} {i:Int} (h:ZhR d i=true):0≤i∧i.toNat<d.1.length∧Zkj d i∈d.1:=by
 unfold ZhR at h
 simp only[Xag,Xaf]at h
 have:i.toNat<d.1.length:=by omega
 exact⟨h.1.1,this,Zz this⟩
theorem ZLV {c:Zbt} {k:Int} (h:(ZvI c k).1=true):ZD c=true∧1≤k∧ofR (ZvI c k)=ZxO c k∧ZD (ofR (ZvI c k))=true:=by
 unfold ZvI at h ⊢
 cases q:ZD c&&(decide (1≤k)&&decide (k≤1000))with
 |false=>rw[q,cff]at h;cases h
 |true=>
  rw[q,ctt]at h
  rw[ctt]
  simp only[Xag,Xaf]at q
  exact⟨q.1,q.2.1,ZDl h⟩
theorem ZLK {c:Zbt} {k:Int} (h:(Zvo c k).1=true):ZD c=true∧1≤k∧ofR (Zvo c k)=Zxf c k∧ZD (ofR (Zvo c k))=true:=by
 unfold Zvo at h ⊢
 cases q:ZD c&&(decide (1≤k)&&decide (k≤1000))with
 |false=>rw[q,cff]at h;cases h
 |true=>
  rw[q,ctt]at h
  rw[ctt]
  simp only[Xag,Xaf]at q
  exact⟨q.1,q.2.1,ZDl h⟩
theorem ZKS {c:Zbt}:ZD c=true↔(∀i,i<c.1.length→ZX (c.1.getD i (0,0)).2=true∧1≤(c.1.getD i (0,0)).1∧(c.1.getD i (0,0)).1≤1000)∧(c.1.Pairwise (fun x y=>vof x.2<vof y.2))∧0≤c.2∧c.2≤20000:=by
 constructor
 ·intro h
  obtain⟨h1,h2⟩:=ZdC h
  refine⟨h2,?_,h1⟩
  unfold ZD at h
  simp only[Xag,Xaf,Xar,Xay]at h
  have step:∀i,i+1<c.1.length→vof (c.1.getD i (0,0)).2<vof (c.1.getD (i+1) (0,0)).2:=fun i hi=>by
   have h3:=h.1 (i+1) hi
   unfold Zft at h3
   simp only[Xag,Bool.or_eq_true,Xaf,beq_iff_eq,XbS]at h3
   have:=h3.2.2
   omega
  have far:∀k i,i+k+1<c.1.length→vof (c.1.getD i (0,0)).2<vof (c.1.getD (i+k+1) (0,0)).2:=by
   intro k
   induction k with
   |zero=>exact fun i hi=>step i hi
   |succ k ih=>
    intro i hi
    have a:=ih i (by omega)
    have b:=step (i+k+1) (by omega)
    rw[show i+(k+1)+1=i+k+1+1 by omega]
    omega
  rw[XaV]
  intro i j hi hj hij
  have:=far (j - i - 1) i (by omega)
  rw[show i+(j - i - 1)+1=j by omega]at this
  rwa [Xaa,Xaa,Xac hi,Xac hj]at this
 ·rintro⟨h1,h2,h3,h4⟩
  unfold ZD
  simp only[Xag,Xaf,Xar,Xay]
  refine⟨fun i hi=>?_,h3,h4⟩
  obtain⟨a,b,e⟩:=h1 i hi
  unfold Zft
  simp only[Xag,Bool.or_eq_true,Xaf,beq_iff_eq]
  refine⟨a,⟨b,e⟩,?_⟩
  by_cases q:i=0
  ·exact Or.inl q
  ·right
   have:=XaV.1 h2 (i - 1) i (by omega) hi (by omega)
   rwa [Xaa,Xaa,Xac hi,Xac (show i - 1<c.1.length by omega)]
theorem Zkk {c:Zbt}:ZD c=true↔(∀t∈c.1,ZX t.2=true∧1≤t.1∧t.1≤1000)∧(c.1.Pairwise (fun x y=>vof x.2<vof y.2))∧0≤c.2∧c.2≤20000:=by
 rw[ZKS]
 refine and_congr_left (fun _=>⟨fun h t ht=>?_,fun h i hi=>h _ (Zz hi)⟩)
 obtain⟨i,hi,rfl⟩:=Xan.1 ht
 have:=h i hi
 rwa [Xaa,Xac hi]at this
theorem ZLj {c:Zbt} (h:ZD c=true):ZD (Zx4 c)=true:=by
 obtain⟨h1,h2,h3,h4⟩:=Zkk.1 h
 rw[Zkk]
 unfold Zx4
 by_cases q:0<c.2
 ·rw[if_pos q]
  refine⟨fun t ht=>?_,List.pairwise_map.2 (h2.imp (fun hab=>hab)),h3,h4⟩
  obtain⟨x,hx,rfl⟩:=XaF.1 ht
  have:=h1 x hx
  dsimp only
  exact⟨this.1,by omega,by omega⟩
 ·rw[if_neg q]
  exact⟨fun t ht=>absurd ht XaB,List.Pairwise.nil,h3,h4⟩
theorem ZEB {l:List (Int×Int)} {x:Int} (h:∀t∈l,1≤t.1):0≤Zki l x:=by
 unfold Zki
 induction l with
 |nil=>exact Xaq _
 |cons t l ih=>
  have i1:=ih (fun y hy=>h y (Xas _ hy))
  have:=h t Xau
  by_cases q:vof t.2=x
  ·rw[Xa8 (p:=fun t:Int×Int=>decide (vof t.2=x)) (Xae q),XaQ,XbN]
   omega
  ·rw[Xa7 (p:=fun t:Int×Int=>decide (vof t.2=x)) (by rw[Xaf];exact q)]
   exact i1
theorem ZJ0 {c:Zbt} {x:Int} (h:ZD c=true):ZD (ZBp c x)=true:=by
 obtain⟨h1,h2,h3,h4⟩:=Zkk.1 h
 have:=ZEB (x:=x) (fun t ht=>(h1 t ht).2.1)
 rw[Zkk]
 unfold ZBp
 exact⟨fun t ht=>h1 t (XaM.1 ht).1,h2.filter _,by dsimp only;omega,by dsimp only;omega⟩
theorem ZLI {l:Int} (h:ZX l=true):ZD ([(1,l)],0)=true:=by
 rw[Zkk]
 refine⟨fun t ht=>?_,XbC _ _,Xaq _,by show (0:Int)≤20000;decide⟩
 rw[Xah]at ht
 subst ht
 exact⟨h,by show (1:Int)≤1;decide,by show (1:Int)≤1000;decide⟩
def ZA6 (s:ZC) (k:Nat):Prop:=if s.1=7 then True else if s.1=6 then False else(k:Int)=s.2.1∨(s.1=1∧(k:Int)=s.2.2.1)
theorem ZJa {d:DbT} {s:ZC} (hd:Zbr d.1) (hl:d.1.length≤1000000) (h:(Zdq d s).1=true):ZD (ofR (Zdq d s))=true∧∀v,(∀k,k<d.1.length→ZA6 s k→ZW v (d.1.getD k ([],0))=true)→ZW v (ofR (Zdq d s))=true:=by
 unfold Zdq at h ⊢
 by_cases k6:s.1=6
 ·rw[if_pos k6]at h ⊢
  unfold axB at h ⊢
  cases q:ZX s.2.1 with
  |false=>rw[q,cff]at h;cases h
  |true=>rw[ctt];exact⟨ZLI q,fun v _=>ZKO⟩
 rw[if_neg k6]at h ⊢
 by_cases k7:s.1=7
 ·rw[if_pos k7]at h ⊢
  cases q:ZD s.2.2.2&&Zp7 (ZmN d) s.2.2.2 with
  |false=>rw[q,cff]at h;cases h
  |true=>
   rw[ctt]
   rw[Xag]at q
   refine⟨q.1,fun v hv=>ZJE (ZC3 hd) (by have:=ZtT d d.1.length;unfold ZmN;omega) q.1 q.2 (fun c hc=>?_)⟩
   obtain⟨i,hi,rfl⟩:=ZxI d d.1.length (Nat.le_refl _) c hc
   exact hv i hi (by unfold ZA6;rw[if_pos k7];trivial)
 rw[if_neg k7]at h ⊢
 have hr:∀k,ZA6 s k↔((k:Int)=s.2.1∨(s.1=1∧(k:Int)=s.2.2.1)):=fun k=>by
  unfold ZA6
  rw[if_neg k7,if_neg k6]
 cases qa:ZhR d s.2.1 with
 |false=>rw[qa,cff]at h;cases h
 |true=>
  rw[qa,ctt]at h
  rw[ctt]
  obtain⟨a0,a1,a2⟩:=Zvk qa
  have ca:=(hd _ a2).1
  have ea:∀v,(∀k,k<d.1.length→ZA6 s k→ZW v (d.1.getD k ([],0))=true)→ZW v (Zkj d s.2.1)=true:=fun v hv=>hv s.2.1.toNat a1 ((hr _).2 (Or.inl (by omega)))
  by_cases k1:s.1=1
  ·rw[if_pos k1]at h ⊢
   cases qb:ZhR d s.2.2.1 with
   |false=>rw[qb,cff]at h;cases h
   |true=>
    rw[qb,ctt]at h
    rw[ctt]
    obtain⟨b0,b1,b2⟩:=Zvk qb
    have cb:=(hd _ b2).1
    refine⟨?_,fun v hv=>ZI0 ca cb (ea v hv) (hv s.2.2.1.toNat b1 ((hr _).2 (Or.inr ⟨k1,by omega⟩))) h⟩
    unfold Zva at h ⊢
    rw[ca,cb,Xaj,ctt]at h ⊢
    exact(ZvP h).2
  rw[if_neg k1]at h ⊢
  by_cases k2:s.1=2
  ·rw[if_pos k2]at h ⊢
   obtain⟨m1,m2,m3,m4⟩:=ZLV h
   exact⟨m4,fun v hv=>by rw[m3];exact ZJv m2 (ea v hv)⟩
  rw[if_neg k2]at h ⊢
  by_cases k3:s.1=3
  ·rw[if_pos k3]at h ⊢
   obtain⟨m1,m2,m3,m4⟩:=ZLK h
   exact⟨m4,fun v hv=>by rw[m3];exact ZJc m2 (ea v hv)⟩
  rw[if_neg k3]at h ⊢
  by_cases k4:s.1=4
  ·rw[if_pos k4]
   unfold ZCh
   rw[ca,ctt]
   exact⟨ZLj ca,fun v hv=>ZJF ca (ea v hv)⟩
  rw[if_neg k4]at h ⊢
  unfold ZyF at h ⊢
  cases q:ZD (Zkj d s.2.1)&&(decide (1≤s.2.2.1)&&decide (s.2.2.1≤12))with
  |false=>rw[q,cff]at h;cases h
  |true=>rw[ctt];exact⟨ZJ0 ca,fun v hv=>ZIU ca (ea v hv)⟩
end Go.AE.Y
