/-
  Plain laws of the models, in one text. No conditions.
-/
import Derived.Test.YtaeeiddjpigemaaGreatPx1
import Derived.Test.YtaeeiddjpigemaaGreatAEx3
namespace Go.AE.Y
open Go Go.AE
theorem ZKW {f:Int→Int→Option Int} {l:List Int} {key:Int→Int} (hn:l.length≤4000000000) (hf:∀x∈l,∀y∈l,f x y=some (key x - key y)) (hi:∀x∈l,∀y∈l,key x=key y→x=y) :
  Zzw f l=some (l.mergeSort fun x y=>decide (key x≤key y)):=by
 have hlt:∀x∈l,∀y∈l,ltM f x y=decide (key x<key y):=fun x hx y hy=>by
  unfold ltM
  rw[hf x hx y hy]
  by_cases h:key x<key y
  ·rw[Xad h];exact Xad (by omega)
  ·rw[decide_eq_false h];exact decide_eq_false (by omega)
 have hs:ZJo f l:=by
  refine⟨hn,fun x hx y hy=>⟨_,hf x hx y hy⟩,fun x hx=>?_,fun x hx y hy z hz h1 h2=>?_,fun x hx y hy z hz h1 h2=>?_,fun x hx y hy h1 h2=>?_⟩
  ·rw[hlt x hx x hx];exact decide_eq_false (by omega)
  ·rw[hlt x hx y hy,Xaf]at h1
   rw[hlt y hy z hz,Xaf]at h2
   rw[hlt x hx z hz]
   exact Xad (by omega)
  ·rw[hlt x hx y hy,decide_eq_false_iff_not]at h1
   rw[hlt y hy z hz,decide_eq_false_iff_not]at h2
   rw[hlt x hx z hz]
   exact decide_eq_false (by omega)
  ·rw[hlt x hx y hy,decide_eq_false_iff_not]at h1
   rw[hlt y hy x hx,decide_eq_false_iff_not]at h2
   exact hi x hx y hy (by omega)
 unfold Zzw
 rw[if_pos hs]
 have e:=List.map_mergeSort (r:=fun x y=>!ltM f y x) (s:=fun x y=>decide (key x≤key y)) (f:=id) (l:=l) (fun a ha b hb=>by
  rw[hlt b hb a ha]
  by_cases h:key b<key a
  ·rw[Xad h];exact(decide_eq_false (by show ¬key (id a)≤key (id b);simp only[id];omega)).symm
  ·rw[decide_eq_false h];exact(Xad (by show key (id a)≤key (id b);simp only[id];omega)).symm)
 rw[List.map_id,List.map_id]at e
 rw[e]
theorem ZGP (l:List Int) (key:Int→Int):(l.mergeSort fun x y=>decide (key x≤key y)).Pairwise (fun x y=>key x≤key y):=by
 have:=List.pairwise_mergeSort (le:=fun x y=>decide (key x≤key y)) (fun a b c h1 h2=>by rw[Xaf]at h1 h2 ⊢;omega) (fun a b=>by rw[XbV,Xaf,Xaf];omega) l
 exact this.imp (fun h=>of_decide_eq_true h)
theorem ZJp {l l':List Int} {key:Int→Int} (h:l.Pairwise (fun x y=>key x<key y)) (h':l'.Pairwise (fun x y=>key x<key y)) (hm:∀x,x∈l↔x∈l'):l=l':=by
 have nd:∀{a:List Int},a.Pairwise (fun x y=>key x<key y)→a.Nodup:=fun ha=>ha.imp (fun hlt e=>by subst e;exact absurd hlt (Int.lt_irrefl _))
 exact List.Perm.eq_of_pairwise (le:=fun x y=>key x<key y) (fun a b _ _ h1 h2=>absurd h1 (by omega)) h h' ((List.perm_ext_iff_of_nodup (nd h) (nd h')).2 hm)
def ZeQ (s:List Int):Nat→List Int
 |0=>[]
 |n+1=>if 1≤n∧s.getD n 0=s.getD (n - 1) 0 then ZeQ s n else ZeQ s n++[s.getD n 0]
theorem Zlq {l:List Int} {n:Nat} (h:n<l.length):l.take (n+1)=l.take n++[l.getD n 0]:=by
 rw[Xbk,Xac h,Xaa,Xac h]
 rfl
theorem ZAt {s:List Int}:∀n,n≤s.length→∀x,x∈ZeQ s n↔x∈s.take n
 |0,_,x=>by unfold ZeQ;rw[XaR]
 |n+1,h,x=>by
  have ih:=ZAt (s:=s) n (by omega) x
  unfold ZeQ
  rw[Zlq (by omega),List.mem_append,Xah]
  split
  ·rename_i hd
   rw[ih]
   constructor
   ·exact Or.inl
   ·rintro(h1|rfl)
    ·exact h1
    ·rw[hd.2]
     obtain⟨m,rfl⟩:∃m,n=m+1:=⟨n - 1,by omega⟩
     rw[Zlq (by omega)]
     exact Xa2 _ (by rw[XbU];exact Xah.2 rfl)
  ·rw[List.mem_append,Xah,ih]
theorem ZFD {s:List Int} {key:Int→Int} (hs:s.Pairwise (fun x y=>key x≤key y)) (hi:∀x∈s,∀y∈s,key x=key y→x=y):∀n,n≤s.length→(ZeQ s n).Pairwise (fun x y=>key x<key y)
 |0,_=>List.Pairwise.nil
 |n+1,h=>by
  have ih:=ZFD hs hi n (by omega)
  have hat:∀i,i<s.length→s.getD i 0∈s:=fun i h=>ZA h
  have hle:∀i j,i<j→j<s.length→key (s.getD i 0)≤key (s.getD j 0):=fun i j h1 h2=>by
   have:=XaV.1 hs i j (by omega) h2 h1
   rwa [Xaa,Xaa,Xac h2,Xac (show i<s.length by omega)]
  unfold ZeQ
  split
  ·exact ih
  ·rename_i hd
   refine List.pairwise_append.2 ⟨ih,Xbg _ _,fun z hz y hy=>?_⟩
   rw[Xah]at hy
   subst hy
   have hz':=(ZAt (s:=s) n (by omega) z).1 hz
   obtain⟨i,i1,i2⟩:=Xan.1 hz'
   rw[XaB]at i1
   rw[Xbc]at i2
   have e:s.getD i 0=z:=by rw[Xaa,Xac (show i<s.length by omega)];exact i2
   have h1:=hle i n (by omega) (by omega)
   rw[e]at h1
   by_cases q:key z=key (s.getD n 0)
   ·exfalso
    apply hd
    refine⟨by omega,?_⟩
    have h3:=hle (n - 1) n (by omega) (by omega)
    have h2:key z≤key (s.getD (n - 1) 0):=by
     rcases Xag i (n - 1)with r|r
     ·rw[←e];exact hle i (n - 1) r (by omega)
     ·rw[←e,show i=n - 1 by omega];omega
    exact hi _ (hat n (by omega)) _ (hat (n - 1) (by omega)) (by omega)
   ·omega
theorem ZzY (s:List Int) (hn:s.length≤4000000000):Zjb s=some (ZeQ s s.length):=by
 have h1:∀n,1≤n→n≤s.length→(∀k,1≤k→k<n→s.getD k 0≠s.getD (k - 1) 0)→ZeQ s n=s.take n:=by
  intro n
  induction n with
  |zero=>intro h;omega
  |succ n ih=>
   intro _ h2 h3
   rw[Zlq (by omega)]
   unfold ZeQ
   rcases Xag 0 n with h4|h4
   ·rw[if_neg (fun h=>h3 n h4 (by omega) h.2),ih h4 (by omega) (fun k k1 k2=>h3 k k1 (by omega))]
   ·have:n=0:=by omega
    subst this
    rw[if_neg (fun h=>absurd h.1 (by omega))]
    rfl
 unfold Zjb
 rcases Xag s.length 2 with h2|h2
 ·rw[Zc (by omega)]
  rcases Xag 0 s.length with h3|h3
  ·rw[h1 s.length h3 (Nat.le_refl _) (fun k k1 k2=>by omega),XaC]
  ·have:s=[]:=XaJ (by omega)
   subst this
   rfl
 rw[Zd (by omega)]
 refine ZK (f:=Zgr s) (fun t:Int=>∃n:Nat,t=n∧1≤n∧n≤s.length∧∀k,1≤k→k<n→s.getD k 0≠s.getD (k - 1) 0) (fun t=>s.length - t.toNat) (fun _=>ZeQ s s.length) ?_ _ ⟨1,rfl,by omega,by omega,fun k k1 k2=>by omega⟩
 rintro t ⟨n,rfl,n1,n2,n3⟩
 unfold Zgr
 rcases Xag n s.length with h3|h3
 ·rw[Zc (by omega),Zb ⟨by omega,by omega⟩,Zf (by omega) (by omega),Zb ⟨by omega,by omega⟩,Xab,show ((n:Int) - 1).toNat=n - 1 by omega]
  by_cases q:s.getD n 0=s.getD (n - 1) 0
  ·right
   rw[Zx q,Zb ⟨by omega,by omega⟩]
   have e0:ZeQ s (n+1)=s.take n:=by
    unfold ZeQ
    rw[if_pos ⟨n1,q⟩,h1 n n1 n2 n3]
   refine ZK (f:=Zgs n) (fun t:Int×Int×List Int=>∃b:Nat,t.2.1=b∧1≤b∧n+b≤s.length∧t.1=(ZeQ s (n+b)).length∧(ZeQ s (n+b)).length+1≤n+b∧t.2.2.length=s.length∧t.2.2.take (ZeQ s (n+b)).length=ZeQ s (n+b)∧∀j,n+b≤j+1→t.2.2.getD j 0=s.getD j 0) (fun t=>s.length - t.2.1.toNat) (fun _=>.inr (ZeQ s s.length)) ?_ _ ⟨1,rfl,Nat.le_refl _,by omega,?_,?_,rfl,?_,fun _ _=>rfl⟩
   ·rintro⟨k1,k2,a⟩ ⟨b,hb,b1,b2,b3,b4,b5,b6,b7⟩
    dsimp only at hb b3 b5 b6 b7 ⊢
    subst hb
    subst b3
    unfold Zgs
    dsimp only
    rcases Xag (n+b) s.length with h4|h4
    ·left
     have e1:((n:Int)+(b:Int)).toNat=n+b:=by omega
     have e2:((n:Int)+((b:Int) - 1)).toNat=n+b - 1:=by omega
     rw[Zc (by omega),Zb ⟨by omega,by omega⟩,Zf (by omega) (by omega),Zb ⟨by omega,by omega⟩,e1,e2,b7 (n+b) (by omega),b7 (n+b - 1) (by omega)]
     by_cases q2:s.getD (n+b) 0=s.getD (n+b - 1) 0
     ·have e3:ZeQ s (n+(b+1))=ZeQ s (n+b):=by
       show ZeQ s (n+b+1)=_
       conv=>lhs;unfold ZeQ
       rw[if_pos ⟨by omega,q2⟩]
      rw[show (s.getD (n+b) 0 != s.getD (n+b - 1) 0)=false by rw[q2];exact bne_self_eq_false _,cff,Zf (by omega) (by omega)]
      refine⟨_,rfl,⟨b+1,by simp,by omega,by omega,?_,?_,b5,?_,fun j hj=>b7 j (by omega)⟩,by (try dsimp only)<;>omega,rfl⟩
      ·rw[e3]
      ·rw[e3];omega
      ·rw[e3];exact b6
     ·have e3:ZeQ s (n+(b+1))=ZeQ s (n+b)++[s.getD (n+b) 0]:=by
       show ZeQ s (n+b+1)=_
       conv=>lhs;unfold ZeQ
       rw[if_neg (fun h=>q2 h.2)]
      have e4:(ZeQ s (n+(b+1))).length=(ZeQ s (n+b)).length+1:=by rw[e3,Xal,Xav]
      rw[show (s.getD (n+b) 0 != s.getD (n+b - 1) 0)=true by rw[bne_iff_ne];exact q2,ctt,Zb ⟨by omega,by omega⟩,Zb ⟨by omega,by omega⟩,Zf (by omega) (by omega),Zf (by omega) (by omega),Xab]
      refine⟨_,rfl,⟨b+1,by simp,by omega,by omega,?_,?_,?_,?_,fun j hj=>?_⟩,by (try dsimp only)<;>omega,rfl⟩
      ·rw[e4];simp
      ·rw[e4];omega
      ·dsimp only;rw[Xam];exact b5
      ·dsimp only
       rw[e4,Xbk,List.take_set_of_le (Nat.le_refl _),b6,List.getElem?_set_self (by omega),e3]
       rfl
      ·dsimp only
       rw[Xaa,List.getElem?_set_ne (by omega),←Xaa]
       exact b7 j (by omega)
    ·right
     have e:n+b=s.length:=by omega
     unfold Zkk
     dsimp only
     rw[e]at b4 b6 ⊢
     have hl:(a.take (ZeQ s s.length).length++List.replicate (a.length - (ZeQ s s.length).length) (0:Int)).length=s.length:=by rw[Xal,XaB,XaG];omega
     rw[Zd (by omega),Zb ⟨by omega,by omega⟩,Xab,hl,Zb ⟨by omega,by omega⟩,b6,List.take_left' rfl]
     rfl
   ·dsimp only
    rw[e0,XaB];omega
   ·rw[e0,XaB];omega
   ·dsimp only
    rw[e0,XaB,Nat.min_eq_left n2]
  ·left
   rw[Zu q,Zf (by omega) (by omega)]
   refine⟨_,rfl,⟨n+1,by simp,by omega,by omega,fun k k1 k2=>?_⟩,by omega,rfl⟩
   rcases Xag k n with h|h
   ·exact n3 k k1 h
   ·rw[show k=n by omega];exact q
 ·right
  have:n=s.length:=by omega
  rw[Zd (by omega),h1 s.length (by omega) (Nat.le_refl _) (by rw[←this];exact n3),XaC]
theorem ZHt (s:List Int) (v:Int) (h:s.length≤4000000000):ZcB s v=some (s.any (fun x=>v==x)):=by
 unfold ZcB Zk5
 obtain⟨r,hr1,hr2⟩:=Zhy (f:=Zda s v) s 0 (fun x=>v==x) (fun i hi=>by
  unfold Zda
  rw[Zc (by omega),Zb ⟨by omega,by omega⟩,Xab]
  cases v==s.getD i 0 with
  |true=>rw[ctt,ctt]
  |false=>rw[cff,cff,Zf (by omega) (by omega)]) (by
  unfold Zda
  rw[Zd (by omega)])
 rw[hr1,Ze,hr2]
def Zds (l:List Int):Nat→List Int
 |0=>List.replicate 13 0
 |n+1=>(Zds l n).set (vof (l.getD n 0)).toNat (l.getD n 0)
def ZqK (s:List Int):Nat→List Int
 |0=>[]
 |n+1=>ZqK s n++(if s.getD (n+1) 0=0 then[]else[s.getD (n+1) 0])
def ZcV (l:List Int):Bool:=l.all ZZ&&l.all (fun x=>!(l.any (fun y=>(0 - x)==y)))
def Zbo (l:List Int):List Int:=ZqK (Zds l l.length) 12
def ZiN (l:List Int):Bool×Int×List (Int×Int):=bif decide (l.length≤40)&&ZcV l then(true,1,(Zbo l).map (fun x=>(1,x)))else(false,0,[])
theorem ZiR {n:Int} (h:ZZ n=true):1≤vof n∧vof n≤12∧n≠0:=by
 have:=Zz.1 h
 unfold vof
 omega
theorem Zux (l:List Int):∀n,(Zds l n).length=13
 |0=>rfl
 |n+1=>by unfold Zds;rw[Xam];exact Zux l n
theorem ZfV {l:List Int} (h:ZcV l=true):(∀x∈l,ZZ x=true)∧∀x∈l,∀y∈l,vof x=vof y→x=y:=by
 unfold ZcV at h
 simp only[Xae,Xar,XaX,XaN]at h
 refine⟨h.1,fun x hx y hy e=>?_⟩
 have h2:=h.2 x hx y hy
 rw[beq_iff_eq]at h2
 have:=ZiR (h.1 x hx)
 unfold vof at e this
 omega
theorem Zy0 {l:List Int} (hl:∀x∈l,ZZ x=true):∀n,n≤l.length→∀v:Nat,v≤12→((Zds l n).getD v 0=0∧∀x∈l.take n,vof x≠v)∨((Zds l n).getD v 0∈l.take n∧vof ((Zds l n).getD v 0)=v)
 |0,_,v,hv=>by
  left
  refine⟨?_,fun x hx=>by rw[XaR]at hx;cases hx⟩
  show (List.replicate 13 (0:Int)).getD v 0=0
  rw[Xaa,XaO (by omega)]
  rfl
 |n+1,h,v,hv=>by
  have hn:=ZiR (hl _ (ZA (l:=l) (i:=n) (d:=0) (by omega)))
  have hln:=Zux l n
  unfold Zds
  rw[Zlq (by omega)]
  by_cases q:(vof (l.getD n 0)).toNat=v
  ·right
   subst q
   have e:((Zds l n).set (vof (l.getD n 0)).toNat (l.getD n 0)).getD (vof (l.getD n 0)).toNat 0=l.getD n 0:=by
    rw[Xaa (l:=(Zds l n).set _ _),List.getElem?_set_self (by omega)]
    rfl
   rw[e]
   refine⟨Xa2 _ (Xah.2 rfl),?_⟩
   omega
  ·have e:((Zds l n).set (vof (l.getD n 0)).toNat (l.getD n 0)).getD v 0=(Zds l n).getD v 0:=by
    rw[Xaa (l:=(Zds l n).set _ _),List.getElem?_set_ne q,←Xaa]
   rw[e]
   rcases Zy0 hl n (by omega) v hv with⟨h1,h2⟩|⟨h1,h2⟩
   ·left
    refine⟨h1,fun x hx=>?_⟩
    rcases List.mem_append.1 hx with hx|hx
    ·exact h2 x hx
    ·rw[Xah]at hx
     rw[hx]
     omega
   ·right
    exact⟨Xa4 _ h1,h2⟩
theorem ZyH {l:List Int} (hl:∀x∈l,ZZ x=true):∀n,n≤12→(ZqK (Zds l l.length) n).Pairwise (fun x y=>vof x<vof y)∧(∀x∈ZqK (Zds l l.length) n,x∈l∧vof x≤n)∧∀x∈l,vof x≤n→∃y∈ZqK (Zds l l.length) n,vof y=vof x
 |0,_=>⟨List.Pairwise.nil,fun x hx=>absurd hx Xay,fun x hx h=>(by have:=ZiR (hl x hx);omega)⟩
 |n+1,h=>by
  obtain⟨i1,i2,i3⟩:=ZyH hl n (by omega)
  have hs:=Zy0 hl l.length (Nat.le_refl _) (n+1) h
  rw[XaC]at hs
  unfold ZqK
  rcases hs with⟨h1,h2⟩|⟨h1,h2⟩
  ·rw[if_pos h1,Xaz]
   refine⟨i1,fun x hx=>⟨(i2 x hx).1,by have:=(i2 x hx).2;omega⟩,fun x hx hv=>?_⟩
   have:=h2 x hx
   exact i3 x hx (by omega)
  ·have hne:=(ZiR (hl _ h1)).2.2
   rw[if_neg hne]
   refine⟨List.pairwise_append.2 ⟨i1,Xbg _ _,fun x hx y hy=>?_⟩,fun x hx=>?_,fun x hx hv=>?_⟩
   ·rw[Xah]at hy
    rw[hy,h2]
    have:=(i2 x hx).2
    omega
   ·rcases List.mem_append.1 hx with hx|hx
    ·exact⟨(i2 x hx).1,by have:=(i2 x hx).2;omega⟩
    ·rw[Xah]at hx
     rw[hx]
     exact⟨h1,by omega⟩
   ·by_cases q:vof x≤n
    ·obtain⟨y,y1,y2⟩:=i3 x hx q
     exact⟨y,Xa4 _ y1,y2⟩
    ·exact⟨_,Xa2 _ (Xah.2 rfl),by omega⟩
theorem Zpu {l:List Int} (h:ZcV l=true):(Zbo l).Pairwise (fun x y=>vof x<vof y):=(ZyH (ZfV h).1 12 (Nat.le_refl _)).1
theorem Zhx {l:List Int} (h:ZcV l=true) (x:Int):x∈Zbo l↔x∈l:=by
 obtain⟨h1,h2⟩:=ZfV h
 obtain⟨i1,i2,i3⟩:=ZyH h1 12 (Nat.le_refl _)
 constructor
 ·exact fun hx=>(i2 x hx).1
 ·intro hx
  obtain⟨y,y1,y2⟩:=i3 x hx (by have:=ZiR (h1 x hx);omega)
  rw[h2 x hx y (i2 y y1).1 y2.symm]
  exact y1
theorem ZmZ (l:List Int):(Zbo l).length≤12:=by
 unfold Zbo
 have:∀s n,(ZqK s n).length≤n:=by
  intro s n
  induction n with
  |zero=>exact Nat.le_refl _
  |succ n ih=>
   unfold ZqK
   rw[Xal]
   split
   ·rw[Xap];omega
   ·rw[Xav];omega
 exact this _ _
theorem ZkO (l:List Int) (hn:l.length≤4000000000):ZiO l=some (ZiN l):=by
 unfold ZiO ZiN
 by_cases h0:l.length≤40
 case neg=>rw[Zc (by omega),decide_eq_false h0,Xai,cff]
 rw[Zd (by omega),Xad h0,Xaj]
 refine ZK (f:=ZkP l) (fun s:Int=>∃i:Nat,s=i∧i≤l.length∧∀j,j<i→ZZ (l.getD j 0)=true∧l.any (fun y=>(0 - l.getD j 0)==y)=false) (fun s=>l.length - s.toNat) (fun _=>bif ZcV l then(true,1,(Zbo l).map (fun x=>(1,x)))else(false,0,[])) ?_ _ ⟨0,rfl,Nat.zero_le _,fun j hj=>by omega⟩
 rintro s ⟨i,rfl,hi,hp⟩
 unfold ZkP
 rcases Xag i l.length with h1|h1
 ·have hmem:=ZA (l:=l) (i:=i) (d:=0) h1
  rw[Zc (by omega),Zb ⟨by omega,by omega⟩,Xab,ZnS,Ze]
  cases q1:ZZ (l.getD i 0)with
  |false=>
   right
   have:ZcV l=false:=by
    cases h:ZcV l with
    |false=>rfl
    |true=>have:=(ZfV h).1 _ hmem;rw[q1]at this;cases this
   rw[Xbe,ctt,this,cff]
  |true=>
   have hl:=Zz.1 q1
   have hc:ZcB l (0 - l.getD i 0)=some (l.any (fun y=>(0 - l.getD i 0)==y)):=ZHt l _ hn
   rw[Xbi,cff,Zf (by omega) (by omega),hc,Ze]
   cases q2:l.any (fun y=>(0 - l.getD i 0)==y)with
   |true=>
    right
    have:ZcV l=false:=by
     cases h:ZcV l with
     |false=>rfl
     |true=>
      unfold ZcV at h
      simp only[Xae,Xar]at h
      have:=h.2 _ hmem
      rw[q2]at this
      cases this
    rw[ctt,this,cff]
   |false=>
    left
    rw[cff,Zf (by omega) (by omega)]
    refine⟨_,rfl,⟨i+1,by simp,by omega,fun j hj=>?_⟩,by omega,rfl⟩
    rcases Xag j i with h2|h2
    ·exact hp j h2
    ·rw[show j=i by omega];exact⟨q1,q2⟩
 ·right
  have hei:i=l.length:=by omega
  have hok:ZcV l=true:=by
   unfold ZcV
   simp only[Xae,Xar]
   constructor
   ·intro x hx
    obtain⟨j,hj,rfl⟩:=Xan.1 hx
    have:=(hp j (by omega)).1
    rwa [Xaa,Xac hj]at this
   ·intro x hx
    obtain⟨j,hj,rfl⟩:=Xan.1 hx
    have:=(hp j (by omega)).2
    rw[Xaa,Xac hj]at this
    dsimp only[Option.getD_some]at this
    rw[this]
    rfl
  obtain⟨o1,o2⟩:=ZfV hok
  have hf:∀x∈l,∀y∈l,Zi3 x y=some (vof x - vof y):=fun x hx y hy=>by
   have hx':=Zz.1 (o1 x hx)
   have hy':=Zz.1 (o1 y hy)
   have vx:=ZiR (o1 x hx)
   have vy:=ZiR (o1 y hy)
   unfold Zi3
   rw[Zef (by omega),Ze,Zef (by omega),Ze,Zf (by omega) (by omega)]
  have hS:∀S,S=l.mergeSort (fun x y=>decide (vof x≤vof y))→ZeQ S S.length=Zbo l∧S.length=l.length:=by
   rintro S rfl
   have hperm:=List.mergeSort_perm l (fun x y=>decide (vof x≤vof y))
   refine⟨ZJp (ZFD (ZGP l vof) (fun x hx y hy=>o2 x (hperm.mem_iff.1 hx) y (hperm.mem_iff.1 hy)) _ (Nat.le_refl _)) (Zpu hok) (fun x=>?_),hperm.length_eq⟩
   rw[ZAt _ (Nat.le_refl _),XaC,hperm.mem_iff,Zhx hok]
  obtain⟨e1,e2⟩:=hS _ rfl
  have hclone:Zbu l=some l:=by
   unfold Zbu
   refine ZyK (fun e=>by rw[e]) ?_
   rw[Zb (by simp only[Xap,Zl];omega),Xau]
  rw[Zd (by omega),hclone,Ze,ZKW (key:=vof) (by omega) hf o2,Ze,ZzY _ (by omega),Ze,e1,hok,ctt]
  have hlen:=ZmZ l
  refine ZK (f:=ZkQ (Zbo l)) (fun s:Int×List (Int×Int)=>∃i:Nat,s.1=i∧i≤(Zbo l).length∧s.2=((Zbo l).take i).map (fun x=>(1,x))) (fun s=>(Zbo l).length - s.1.toNat) (fun _=>.inr (true,1,(Zbo l).map (fun x=>(1,x)))) ?_ _ ⟨0,rfl,Nat.zero_le _,rfl⟩
  rintro⟨s,o⟩ ⟨i,rfl,hi,rfl⟩
  unfold ZkQ
  dsimp only
  rcases Xag i (Zbo l).length with h4|h4
  ·left
   rw[Zc (by omega),Zb ⟨by omega,by omega⟩,Zb (by simp[Zl];omega),Zf (by omega) (by omega),Xab]
   exact⟨_,rfl,⟨i+1,by simp,by omega,by rw[Zlq h4,Xa1];rfl⟩,by (try dsimp only)<;>omega,rfl⟩
  ·right
   have:i=(Zbo l).length:=by omega
   rw[Zd (by omega),this,XaC]
theorem Zk6 (l:List Int) (_hn:l.length≤4000000000):ZiP l=some (ZiN l):=by
 unfold ZiP ZiN
 rw[Zb ⟨by omega,by simp only[Zl];omega,rfl⟩]
 by_cases h0:l.length≤40
 case neg=>rw[Zc (by omega),decide_eq_false h0,Xai,cff]
 rw[Zd (by omega),Xad h0,Xaj]
 refine ZK (f:=Zk7 l) (fun s:Int×List Int=>∃i:Nat,s.1=i∧i≤l.length∧s.2=Zds l i∧(∀x∈l.take i,ZZ x=true)∧∀x∈l.take i,∀y∈l.take i,y≠0 - x) (fun s=>l.length - s.1.toNat) (fun _=>bif ZcV l then(true,1,(Zbo l).map (fun x=>(1,x)))else(false,0,[])) ?_ _ ⟨0,rfl,Nat.zero_le _,rfl,fun x hx=>absurd hx (by rw[XaR];exact Xay),fun x hx=>absurd hx (by rw[XaR];exact Xay)⟩
 rintro⟨s,a⟩ ⟨i,hs,hi,ha,hp,hd⟩
 dsimp only at hs ha ⊢
 subst hs
 subst ha
 unfold Zk7
 dsimp only
 rcases Xag i l.length with h1|h1
 ·have hmem:=ZA (l:=l) (i:=i) (d:=0) h1
  rw[Zc (by omega),Zb ⟨by omega,by omega⟩,Xab,Zxb,Ze]
  cases q1:ZZ (l.getD i 0)with
  |false=>
   right
   have:ZcV l=false:=by
    cases h:ZcV l with
    |false=>rfl
    |true=>have:=(ZfV h).1 _ hmem;rw[q1]at this;cases this
   rw[Xbe,ctt,this,cff]
  |true=>
   have hl:=Zz.1 q1
   have hv:=ZiR q1
   have hsl:=Zux l i
   rw[Xbi,cff,Zb ⟨by omega,by omega⟩,Zxa (by omega),Ze,Zb ⟨by omega,by omega⟩,Zb ⟨by omega,by omega⟩,Zf (by omega) (by omega)]
   have htl:∀x∈l.take i,x∈l:=fun x hx=>List.mem_of_mem_take hx
   have hg:((Zds l i).getD (vof (l.getD i 0)).toNat 0=0∧∀x∈l.take i,vof x≠(vof (l.getD i 0)).toNat)∨((Zds l i).getD (vof (l.getD i 0)).toNat 0∈l.take i∧vof ((Zds l i).getD (vof (l.getD i 0)).toNat 0)=(vof (l.getD i 0)).toNat):=by
    have e:∀n,n≤i→Zds (l.take i) n=Zds l n:=by
     intro n
     induction n with
     |zero=>intro _;rfl
     |succ n ih=>
      intro hn
      unfold Zds
      rw[ih (by omega),show (l.take i).getD n 0=l.getD n 0 by rw[Xaa,List.getElem?_take_of_lt (by omega),←Xaa]]
    have:=Zy0 (l:=l.take i) hp i (by rw[XaB];omega) (vof (l.getD i 0)).toNat (by omega)
    rw[e i (Nat.le_refl _),List.take_take,Nat.min_self]at this
    exact this
   by_cases q2:(Zds l i).getD (vof (l.getD i 0)).toNat 0=0 - l.getD i 0
   ·right
    have:ZcV l=false:=by
     cases h:ZcV l with
     |false=>rfl
     |true=>
      exfalso
      rcases hg with⟨g1,g2⟩|⟨g1,g2⟩
      ·omega
      ·have:=(ZfV h).2 _ (htl _ g1) _ hmem (by omega)
       omega
    rw[Zx q2,this,cff]
   ·left
    rw[Zu q2,Zb ⟨by omega,by omega⟩,Zb ⟨by omega,by omega⟩,Zf (by omega) (by omega)]
    have hno:∀y∈l.take i,y≠0 - l.getD i 0:=fun y hy e=>by
     have hy2:=ZiR (hp y hy)
     have hvy:vof y=vof (l.getD i 0):=by unfold vof;omega
     rcases hg with⟨g1,g2⟩|⟨g1,g2⟩
     ·exact g2 y hy (by omega)
     ·have hz:=ZiR (hp _ g1)
      have hd1:=hd _ g1 y hy
      generalize (Zds l i).getD (vof (l.getD i 0)).toNat 0=z at *
      unfold vof at g2 hvy hz hy2 hv
      omega
    refine⟨_,rfl,⟨i+1,by simp,by omega,rfl,?_,?_⟩,by (try dsimp only)<;>omega,rfl⟩
    ·intro x hx
     rw[Zlq h1]at hx
     rcases List.mem_append.1 hx with hx|hx
     ·exact hp x hx
     ·rw[Xah]at hx;rw[hx];exact q1
    ·intro x hx y hy
     rw[Zlq h1]at hx hy
     rcases List.mem_append.1 hx with hx|hx<;>rcases List.mem_append.1 hy with hy|hy
     ·exact hd x hx y hy
     ·rw[Xah]at hy
      rw[hy]
      have:=hno x hx
      omega
     ·rw[Xah]at hx
      rw[hx]
      exact hno y hy
     ·rw[Xah]at hx hy
      rw[hx,hy]
      omega
 ·right
  have hei:i=l.length:=by omega
  rw[hei,XaC]at hp hd
  have hok:ZcV l=true:=by
   unfold ZcV
   simp only[Xae,Xar,XaX,XaN,beq_iff_eq]
   exact⟨hp,fun x hx y hy e=>hd x hx y hy e.symm⟩
  rw[Zd (by omega),hok,ctt,hei]
  unfold Zo5
  have hsl:=Zux l l.length
  have key:loop (ZhZ (Zds l l.length)) ((1:Int),([]:List (Int×Int)))=some (true,1,(Zbo l).map (fun x=>(1,x))):=by
   have hdl:∀n,(ZqK (Zds l l.length) n).length≤n:=by
    intro n
    induction n with
    |zero=>exact Nat.le_refl _
    |succ n ih=>
     unfold ZqK
     rw[Xal]
     split
     ·rw[Xap];omega
     ·rw[Xav];omega
   refine ZK (f:=ZhZ (Zds l l.length)) (fun s:Int×List (Int×Int)=>∃n:Nat,s.1=(n:Int)+1∧n≤12∧s.2=(ZqK (Zds l l.length) n).map (fun x=>(1,x))) (fun s=>14 - s.1.toNat) (fun _=>(true,1,(Zbo l).map (fun x=>(1,x)))) ?_ _ ⟨0,rfl,by omega,rfl⟩
   rintro⟨s,o⟩ ⟨n,hs,hn,ho⟩
   dsimp only at hs ho ⊢
   subst hs
   subst ho
   have:=hdl n
   unfold ZhZ
   dsimp only
   rcases Xag n 12 with h4|h4
   ·left
    rw[Zc (by omega),Zb ⟨by omega,by omega⟩,show ((n:Int)+1).toNat=n+1 by omega]
    by_cases q:(Zds l l.length).getD (n+1) 0=0
    ·rw[show ((Zds l l.length).getD (n+1) 0 != 0)=false by rw[q];rfl,cff,Zf (by omega) (by omega)]
     refine⟨_,rfl,⟨n+1,by simp,by omega,?_⟩,by (try dsimp only)<;>omega,rfl⟩
     conv=>rhs;unfold ZqK
     rw[if_pos q,Xaz]
    ·rw[show ((Zds l l.length).getD (n+1) 0 != 0)=true by rw[bne_iff_ne];exact q,ctt,Zb ⟨by omega,by omega⟩,Zb (by simp[Zl];omega),Zf (by omega) (by omega)]
     refine⟨_,rfl,⟨n+1,by simp,by omega,?_⟩,by (try dsimp only)<;>omega,rfl⟩
     conv=>rhs;unfold ZqK
     rw[if_neg q,Xa1]
     rfl
   ·right
    have:n=12:=by omega
    subst this
    rw[Zd (by omega)]
    rfl
  rw[key]
  rfl
end Go.AE.Y
namespace Go.AE.Y
open Go Go.AE
def Zbe (c:List Int):List Int:=c.map (fun x=>0 - x)
end Go.AE.Y
namespace Go.AE.Y
open Go Go.AE
def zS:ZE:=(0,(0,(0,([],0))))
def HS (s:ZE) (k k':Int):Prop:=s.1=k∧s.2.1=k+1∧s.2.2.1=k+1+1∧∃k1,HdL HT s.2.2.2.1 (k+1+1+1) k1∧s.2.2.2.2=k1∧k'=k1+1∧s.2.2.2.1.length≤4000000000
theorem HS.mono (s:ZE) (k k':Int) (h:HS s k k'):k≤k':=by
 obtain⟨_,_,_,k1,h1,_,h2,_⟩:=h
 have:=HdL.mono HT.mono h1
 omega
def ZIA (a:List ZE):Prop:=a.length≤1048576∧∀s∈a,ZGM s
end Go.AE.Y
namespace Go.AE.Y
open Go Go.AE
def Z4 (l:List Int):List (Int×Int):=l.map (fun x=>(1,x))
theorem ZA0 (v:List Bool):∀(l:List Int) (a:Int),(Z4 l).foldl (fun a t=>bif ZS v t.2 then a+t.1 else a) a=a+(l.countP (ZS v):Nat)
 |[],a=>by simp[Z4]
 |x::l,a=>by
  show (Z4 l).foldl _ (bif ZS v x then a+1 else a)=_
  rw[ZA0 v l,List.countP_cons]
  cases ZS v x with
  |true=>rw[ctt,if_pos rfl];omega
  |false=>rw[cff,if_neg (by decide)];omega
theorem ZDY (v:List Bool) (l:List Int):ZY v (Z4 l,1)=l.any (ZS v):=by
 unfold ZY ZcF
 rw[ZA0]
 cases hq:l.any (ZS v)with
 |true=>
  obtain⟨x,h1,h2⟩:=Xbo.1 hq
  have:=List.countP_pos_iff.2 ⟨x,h1,h2⟩
  exact Xad (by (try dsimp only)<;>omega)
 |false=>
  have:l.countP (ZS v)=0:=List.countP_eq_zero.2 (fun x hx=>by have:=XaN.1 hq x hx;exact this)
  rw[this]
  rfl
theorem Zpt {v:List Bool} {x:Int} (h:x≠0):ZS v (0 - x) = !(ZS v x):=by
 have ev:vof (0 - x)=vof x:=by unfold vof;omega
 unfold ZS
 rw[ev]
 by_cases h1:0<x
 ·rw[Xad h1,decide_eq_false (show ¬0<0 - x by omega)]
  cases v.getD (vof x - 1).toNat false<;>rfl
 ·rw[decide_eq_false h1,Xad (show 0<0 - x by omega)]
  cases v.getD (vof x - 1).toNat false<;>rfl
theorem ZH7 {v:List Bool}:∀{c:List Int},(∀x∈c,x≠0)→(Zbe c).any (ZS v) = !(c.all (ZS v))
 |[],_=>rfl
 |x::c,h=>by
  show (ZS v (0 - x)||(Zbe c).any (ZS v)) = !(ZS v x&&c.all (ZS v))
  rw[ZH7 (fun y hy=>h y (Xao _ hy)),Zpt (h x Xas)]
  cases ZS v x<;>rfl
theorem ZH6 {l l':List Int} {p:Int→Bool} (h:∀x,x∈l↔x∈l'):l.any p=l'.any p:=by
 rw[Xbq,Xbo,Xbo]
 exact⟨fun ⟨x,h1,h2⟩=>⟨x,(h x).1 h1,h2⟩,fun ⟨x,h1,h2⟩=>⟨x,(h x).2 h1,h2⟩⟩
theorem Zo1 {l:List Int} {i:Nat} (h:i<l.length):(Z4 l).getD i (0,0)=(1,l.getD i 0):=by
 unfold Z4
 rw[Xaa,Xbl,Xac h,Xaa,Xac h]
 rfl
theorem Zuh {l:List Int} (h1:∀x∈l,ZZ x=true) (h2:l.Pairwise (fun x y=>vof x<vof y)):ZG (Z4 l,1)=true:=by
 unfold ZG
 have hl:(Z4 l).length=l.length:=Xak ..
 simp only[Xae,Xar]
 refine⟨fun i hi=>?_,rfl,rfl⟩
 have hi':i<l.length:=by rw[←hl];exact Xax.1 hi
 unfold ZfH
 rw[Zo1 hi']
 simp only[Xae,XbV,Xaf]
 refine⟨h1 _ (ZA hi'),⟨by omega,by omega⟩,?_⟩
 rcases Xag 0 i with q|q
 ·right
  rw[Zo1 (show i - 1<l.length by omega)]
  have:=XaV.1 h2 (i - 1) i (by omega) hi' (by omega)
  rwa [Xaa,Xaa,Xac hi',Xac (show i - 1<l.length by omega)]
 ·left
  exact beq_iff_eq.2 (by omega)
theorem ZEJ (a:List (Int×Int)) (h:a.length≤4000000000):ZdR a a=some true:=by
 unfold ZdR
 rw[bne_self_eq_false,cff]
 refine ZK (f:=Zd1 a a) (fun s:Int=>∃i:Nat,s=i∧i≤a.length) (fun s=>a.length - s.toNat) (fun _=>true) ?_ _ ⟨0,rfl,Nat.zero_le _⟩
 rintro s ⟨i,rfl,hi⟩
 unfold Zd1
 rcases Xag i a.length with h5|h5
 ·left
  refine⟨(i:Int)+1,?_,⟨i+1,by simp,by omega⟩,by omega,rfl⟩
  simp(disch:=omega)only[Zc,Zb,Zf,bne_self_eq_false,beq_self_eq_true,Bool.and_self,Xbi,cff,Ze,ctt]
 ·right
  rw[Zd (by omega)]
theorem Zu5 (a:List ZE) (h:ZIA a):ZeX a a=some true:=by
 obtain⟨ha,hx⟩:=h
 unfold ZeX Zc1
 rw[bne_self_eq_false,cff]
 have:loop (Zbf a a) (0:Int)=some true:=by
  refine ZK (f:=Zbf a a) (fun s:Int=>∃i:Nat,s=i∧i≤a.length) (fun s=>a.length - s.toNat) (fun _=>true) ?_ _ ⟨0,rfl,Nat.zero_le _⟩
  rintro s ⟨i,rfl,hi⟩
  unfold Zbf
  rcases Xag i a.length with h5|h5
  ·left
   have hs:=hx _ (ZA (l:=a) (i:=i) (d:=zS) h5)
   have e:ZkU (a.getD i (0,(0,(0,([],0))))) (a.getD i (0,(0,(0,([],0)))))=some true:=by
    change ZGM (a.getD i (0,(0,(0,([],0)))))at hs
    generalize a.getD i (0,(0,(0,([],0))))=b at hs ⊢
    unfold ZGM at hs
    unfold ZkU Zbc
    rw[beq_self_eq_true,ctt,beq_self_eq_true,ctt,beq_self_eq_true,ctt]
    simp(disch:=omega)only[ZEJ,Ze,ctt,beq_self_eq_true]
   rw[Zc (by omega),Zb ⟨by omega,by omega⟩,Zb ⟨by omega,by omega⟩,Xab,e,Ze,cnt,Zf (by omega) (by omega)]
   exact⟨_,rfl,⟨i+1,by simp,by omega⟩,by omega,rfl⟩
  ·right
   rw[Zd (by omega)]
 rw[this,Ze]
end Go.AE.Y
namespace Go.AE.Y
open Go Go.AE
set_option maxHeartbeats 400000
def ZfY (g:Nat→Int):Nat→Int
 |0=>0
 |n+1=>ZfY g n+g n
theorem ZEh (g h:Nat→Int):∀n,ZfY (fun i=>g i+h i) n=ZfY g n+ZfY h n
 |0=>rfl
 |n+1=>by unfold ZfY;rw[ZEh g h n];omega
theorem Zzb (c:Nat) (a:Int):∀n,ZfY (fun i=>if i=c then a else 0) n=if c<n then a else 0
 |0=>by rw[if_neg (by omega)];rfl
 |n+1=>by
  unfold ZfY
  rw[Zzb c a n]
  by_cases q:c<n
  ·rw[if_pos q,if_neg (by omega),if_pos (by omega)];omega
  ·by_cases q2:n=c
   ·rw[if_neg q,if_pos q2,if_pos (by omega)];omega
   ·rw[if_neg q,if_neg q2,if_neg (by omega)];omega
theorem ZuX {g h:Nat→Int}:∀n,(∀i,i<n→g i=h i)→ZfY g n=ZfY h n
 |0,_=>rfl
 |n+1,e=>by unfold ZfY;rw[ZuX n (fun i hi=>e i (by omega)),e n (by omega)]
theorem ZAZ {g h:Nat→Int}:∀n,(∀i,i<n→g i≤h i)→ZfY g n≤ZfY h n
 |0,_=>Xat _
 |n+1,e=>by
  have:=ZAZ n (fun i hi=>e i (by omega))
  have:=e n (by omega)
  unfold ZfY
  omega
theorem ZG0 {f:Nat→Int} {n:Nat}:∀l:List Nat,l.Nodup→(∀x∈l,x<n)→(l.map f).sum=ZfY (fun i=>if i∈l then f i else 0) n
 |[],_,_=>by
  have:ZfY (fun i=>if i∈([]:List Nat)then f i else 0) n=ZfY (fun i=>if i=n then 0 else 0) n:=ZuX n (fun i hi=>by rw[if_neg Xay,if_neg (by omega)])
  rw[this,Zzb,if_neg (by omega)]
  rfl
 |c::l,hn,hx=>by
  rw[Xba]at hn
  have e:ZfY (fun i=>if i∈c::l then f i else 0) n=ZfY (fun i=>(if i=c then f c else 0)+(if i∈l then f i else 0)) n:=ZuX n (fun i hi=>by
   by_cases q:i=c
   ·subst q
    rw[if_pos Xas,if_pos rfl,if_neg hn.1];omega
   ·by_cases q2:i∈l
    ·rw[if_pos (Xao _ q2),if_neg q,if_pos q2];omega
    ·rw[if_neg (fun h=>(XaA.1 h).elim q q2),if_neg q,if_neg q2];omega)
  rw[e,ZEh,Zzb,if_pos (hx c Xas),XaQ,XbN,ZG0 l hn.2 (fun x h=>hx x (Xao _ h))]
theorem ZrR {α β:Type} {f:α→β} {l:List α} (h:∀a∈l,∀b∈l,f a=f b→a=b) (hn:l.Nodup):(l.map f).Nodup:=by
 induction l with
 |nil=>exact List.Pairwise.nil
 |cons a l ih=>
  rw[Xba]at hn
  rw[XaQ,Xba]
  refine⟨fun hm=>?_,ih (fun x hx y hy=>h x (Xao _ hx) y (Xao _ hy)) hn.2⟩
  obtain⟨b,hb,e⟩:=XaF.1 hm
  have:=h b (Xao _ hb) a Xas e
  rw[this]at hb
  exact hn.1 hb
def ZbR (m:Zo) (i k:Nat):Int:=1+(k:Int)+ZO m i
def trV (m:Zo) (v:List Bool) (i k:Nat):Bool:=v.getD ((k:Int)+ZO m i).toNat false
def Dec (m:Zo) (v:List Bool) (x:List Int):Prop:=ZJ m x=true∧∀i,i<m.1.length→∀k:Nat,(k:Int)≤m.1.getD i 0→trV m v i k=decide (x.getD i 0=k)
theorem ZL4 {m:Zo} (hm:Zy m=true) {i:Nat} (hi:i≤m.1.length):0≤ZO m i:=by
 have:=(ZgA hm i hi).1
 omega
theorem Zdn {m:Zo} (hm:Zy m=true) {i k:Nat} (hi:i<m.1.length) (hk:(k:Int)≤m.1.getD i 0):1≤ZbR m i k∧ZbR m i k≤ZO m (i+1)∧ZbR m i k≤12∧1+ZO m i≤ZbR m i k:=by
 have h0:=ZL4 hm (Nat.le_of_lt hi)
 have h1:=(ZgA hm (i+1) (by omega)).2
 have h2:=ZfR (m:=m) hi
 unfold ZbR
 omega
theorem ZIG {m:Zo} (hm:Zy m=true) {i k:Nat} (hi:i<m.1.length) (hk:(k:Int)≤m.1.getD i 0):ZZ (ZbR m i k)=true∧vof (ZbR m i k)=ZbR m i k∧ZZ (0 - ZbR m i k)=true∧vof (0 - ZbR m i k)=ZbR m i k:=by
 have h:=Zdn hm hi hk
 refine⟨Zz.2 ⟨by omega,by omega,by omega⟩,by unfold vof;omega,Zz.2 ⟨by omega,by omega,by omega⟩,by unfold vof;omega⟩
theorem ZmY {m:Zo} {v:List Bool} (hm:Zy m=true) {i k:Nat} (hi:i<m.1.length) (hk:(k:Int)≤m.1.getD i 0):ZS v (ZbR m i k)=trV m v i k:=by
 have h:=Zdn hm hi hk
 have hv:=(ZIG hm hi hk).2.1
 unfold ZS trV
 rw[hv,Xad (show 0<ZbR m i k by omega),show (ZbR m i k - 1).toNat=((k:Int)+ZO m i).toNat by unfold ZbR;omega]
 cases v.getD ((k:Int)+ZO m i).toNat false<;>rfl
theorem ZKC {m:Zo} {v:List Bool} (hm:Zy m=true) {i k:Nat} (hi:i<m.1.length) (hk:(k:Int)≤m.1.getD i 0):ZS v (0 - ZbR m i k) = !trV m v i k:=by
 have h:=Zdn hm hi hk
 rw[Zpt (by omega),ZmY hm hi hk]
theorem ZvE {m:Zo} (hm:Zy m=true) {i k i' k':Nat} (hi:i<m.1.length) (hk:(k:Int)≤m.1.getD i 0) (hi':i'<m.1.length) (hk':(k':Int)≤m.1.getD i' 0) (h:ZbR m i k=ZbR m i' k'):i=i'∧k=k':=by
 have h1:=Zdn hm hi hk
 have h2:=Zdn hm hi' hk'
 have mono:∀a b,a<b→b≤m.1.length→ZO m (a+1)≤ZO m b:=fun a b hab hb=>by
  have:=Zue hm (a+1) (b - (a+1)) (by omega)
  rwa [show a+1+(b - (a+1))=b by omega]at this
 rcases Nat.lt_trichotomy i i' with q|q|q
 ·have:=mono i i' q (by omega)
  omega
 ·subst q
  unfold ZbR at h
  exact⟨rfl,by omega⟩
 ·have:=mono i' i q (by omega)
  omega
def ZjK (vs:List Int):List (Int×Int)×Int:=(Z4 (Zbe vs),(vs.length:Int) - 1)
def ZjH (vs:List Int):List (Int×Int)×Int:=(Z4 (Zbo vs),1)
theorem ZDT {v:List Bool}:∀vs:List Int,(∀x∈vs,x≠0)→(Zbe vs).countP (ZS v)+vs.countP (ZS v)=vs.length
 |[],_=>rfl
 |x::vs,h=>by
  have ih:=ZDT (v:=v) vs (fun y hy=>h y (Xao _ hy))
  have hx:=h x Xas
  show ((0 - x)::Zbe vs).countP (ZS v)+(x::vs).countP (ZS v)=_
  rw[List.countP_cons,List.countP_cons,Zpt hx,Xaq]
  cases ZS v x with
  |true=>simp;omega
  |false=>simp;omega
theorem ZBP {v:List Bool} {vs:List Int} (h:∀x∈vs,x≠0):ZY v (ZjK vs)=decide (vs.countP (ZS v)≤1):=by
 have h1:=ZDT (v:=v) vs h
 have h2:ZcF v (Z4 (Zbe vs))=((Zbe vs).countP (ZS v):Nat):=by
  unfold ZcF
  rw[ZA0]
  omega
 unfold ZY ZjK
 dsimp only
 rw[h2,decide_eq_decide]
 omega
theorem ZBo {v:List Bool} {vs:List Int} (h:ZcV vs=true):ZY v (ZjH vs)=vs.any (ZS v):=by
 unfold ZjH
 rw[ZDY,ZH6 (Zhx h)]
theorem Zoy {α:Type} {p:α→Bool} {l:List α} (hn:l.Nodup):l.countP p≤1↔∀x∈l,∀y∈l,p x=true→p y=true→x=y:=by
 induction l with
 |nil=>exact⟨fun _ x hx=>absurd hx Xay,fun _=>Nat.zero_le _⟩
 |cons a l ih=>
  rw[Xba]at hn
  rw[List.countP_cons]
  constructor
  ·intro h x hx y hy px py
   by_cases pa:p a=true
   ·rw[if_pos pa]at h
    have hz:l.countP p=0:=by omega
    have hno:=List.countP_eq_zero.1 hz
    rcases XaA.1 hx with rfl|hx
    ·rcases XaA.1 hy with rfl|hy
     ·rfl
     ·exact absurd py (hno y hy)
    ·exact absurd px (hno x hx)
   ·rw[if_neg pa]at h
    rcases XaA.1 hx with rfl|hx
    ·exact absurd px pa
    ·rcases XaA.1 hy with rfl|hy
     ·exact absurd py pa
     ·exact(ih hn.2).1 (by omega) x hx y hy px py
  ·intro h
   by_cases pa:p a=true
   ·rw[if_pos pa]
    have:l.countP p=0:=List.countP_eq_zero.2 (fun y hy py=>by
     have:=h a Xas y (Xao _ hy) pa py
     rw[this]at hn
     exact hn.1 hy)
    omega
   ·rw[if_neg pa]
    have:=(ih hn.2).2 (fun x hx y hy=>h x (Xao _ hx) y (Xao _ hy))
    omega
def Zej (m:Zo) (i:Nat):Nat:=(m.1.getD i 0+1).toNat
def ZdG (m:Zo) (i:Nat):List Int:=(List.range (Zej m i)).map (ZbR m i)
def Znh (m:Zo) (i:Nat):List (List (Int×Int)×Int):=[ZjH (ZdG m i),ZjK (ZdG m i)]
theorem ZfC {m:Zo} (hm:Zy m=true) {i k:Nat} (hi:i<m.1.length):k<Zej m i↔(k:Int)≤m.1.getD i 0:=by
 have:=ZeY hm hi
 unfold Zej
 omega
theorem ZwV {m:Zo} (hm:Zy m=true) {i:Nat} (hi:i<m.1.length):ZcV (ZdG m i)=true∧(ZdG m i).Nodup∧(∀x∈ZdG m i,x≠0)∧1≤(ZdG m i).length∧(ZdG m i).length≤4:=by
 have hs:=ZeY hm hi
 have hroom:∀x∈ZdG m i,1≤x∧x≤12:=fun x hx=>by
  obtain⟨k,hk,rfl⟩:=XaF.1 hx
  have:=Zdn hm hi ((ZfC hm hi).1 (Xax.1 hk))
  omega
 refine⟨?_,?_,fun x hx=>by have:=hroom x hx;omega,?_,?_⟩
 ·unfold ZcV
  rw[Xae,Xar,Xar]
  refine⟨fun x hx=>Zz.2 (by have:=hroom x hx;omega),fun x hx=>?_⟩
  rw[XaX,XaN]
  intro y hy e
  have:=hroom x hx
  have:=hroom y hy
  have:=beq_iff_eq.1 e
  omega
 ·unfold ZdG
  refine ZrR (fun a _ b _ e=>?_) List.nodup_range
  unfold ZbR at e
  omega
 ·unfold ZdG Zej
  rw[Xak,XaI]
  omega
 ·unfold ZdG Zej
  rw[Xak,XaI]
  omega
theorem ZFC {m:Zo} {v:List Bool} (hm:Zy m=true) {i:Nat} (hi:i<m.1.length):(∀c∈Znh m i,ZY v c=true)↔∃k:Nat,(k:Int)≤m.1.getD i 0∧∀k':Nat,(k':Int)≤m.1.getD i 0→trV m v i k'=decide (k'=k):=by
 obtain⟨v1,v2,v3,_⟩:=ZwV hm hi
 have hmem:∀k:Nat,(k:Int)≤m.1.getD i 0→ZbR m i k∈ZdG m i:=fun k hk=>XaF.2 ⟨k,Xax.2 ((ZfC hm hi).2 hk),rfl⟩
 have hcl:ZY v (ZjH (ZdG m i))=(ZdG m i).any (ZS v):=ZBo v1
 have hmo:ZY v (ZjK (ZdG m i))=decide ((ZdG m i).countP (ZS v)≤1):=ZBP v3
 constructor
 ·intro h
  have h1:=h _ Xas
  have h2:=h _ (Xao _ Xas)
  rw[hcl,Xbo]at h1
  rw[hmo,Xaf,Zoy v2]at h2
  obtain⟨x,hx,px⟩:=h1
  obtain⟨k,hk,rfl⟩:=XaF.1 hx
  have hk:=(ZfC hm hi).1 (Xax.1 hk)
  refine⟨k,hk,fun k' hk'=>?_⟩
  by_cases e:k'=k
  ·subst e
   rw[Xad rfl,←ZmY hm hi hk]
   exact px
  ·rw[decide_eq_false e,←ZmY hm hi hk']
   cases q:ZS v (ZbR m i k')with
   |false=>rfl
   |true=>
    have:=h2 _ (hmem k' hk') _ (hmem k hk) q px
    exact absurd (ZvE hm hi hk' hi hk this).2 e
 ·rintro⟨k,hk,h⟩ c hc
  have hk1:ZS v (ZbR m i k)=true:=by rw[ZmY hm hi hk,h k hk,Xad rfl]
  rcases XaA.1 hc with rfl|hc
  ·rw[hcl,Xbo]
   exact⟨_,hmem k hk,hk1⟩
  ·rw[Xah]at hc
   subst hc
   rw[hmo,Xaf,Zoy v2]
   intro x hx y hy px py
   obtain⟨a,ha,rfl⟩:=XaF.1 hx
   obtain⟨b,hb,rfl⟩:=XaF.1 hy
   have ha:=(ZfC hm hi).1 (Xax.1 ha)
   have hb:=(ZfC hm hi).1 (Xax.1 hb)
   rw[ZmY hm hi ha,h a ha,Xaf]at px
   rw[ZmY hm hi hb,h b hb,Xaf]at py
   rw[px,py]
theorem ZKj {m:Zo} {v:List Bool} {x:List Int} (hm:Zy m=true) (h:Dec m v x):∀i,i<m.1.length→∀c∈Znh m i,ZY v c=true:=fun i hi=>by
 obtain⟨h1,h2⟩:=h
 obtain⟨x1,x2⟩:=Zcu h1
 have hx:=x2 i (by omega)
 refine(ZFC hm hi).2 ⟨(x.getD i 0).toNat,by omega,fun k' hk'=>?_⟩
 rw[h2 i hi k' hk',decide_eq_decide]
 omega
theorem ZKe {m:Zo} {v:List Bool} (hm:Zy m=true) (h:∀i,i<m.1.length→∀c∈Znh m i,ZY v c=true):∃x,Dec m v x:=by
 have hk:∀i,i<m.1.length→∃k:Nat,(k:Int)≤m.1.getD i 0∧∀k':Nat,(k':Int)≤m.1.getD i 0→trV m v i k'=decide (k'=k):=fun i hi=>(ZFC hm hi).1 (h i hi)
 let g:Nat→Nat:=fun i=>if hi:i<m.1.length then Classical.choose (hk i hi)else 0
 have hg:∀i,i<m.1.length→(g i:Int)≤m.1.getD i 0∧∀k':Nat,(k':Int)≤m.1.getD i 0→trV m v i k'=decide (k'=g i):=fun i hi=>by
  have e:g i=Classical.choose (hk i hi):=dif_pos hi
  rw[e]
  exact Classical.choose_spec (hk i hi)
 refine⟨(List.range m.1.length).map (fun i=>(g i:Int)),?_,fun i hi k hk'=>?_⟩
 ·unfold ZJ cellAt
  simp only[Xae,Xaf,Xak,XaI,Xar,Xax,true_and]
  intro i hi
  rw[ZmR (d:=0) (h:=by rw[XaI];exact hi)]
  have e:(List.range m.1.length).getD i 0=i:=by rw[Xaa,List.getElem?_range hi];rfl
  rw[e]
  exact⟨by omega,(hg i hi).1⟩
 ·rw[(hg i hi).2 k hk',ZmR (d:=0) (h:=by rw[XaI];exact hi)]
  have e:(List.range m.1.length).getD i 0=i:=by rw[Xaa,List.getElem?_range hi];rfl
  rw[e,decide_eq_decide]
  omega
theorem ZM1 {m:Zo} {x:List Int} (hm:Zy m=true) (hx:ZJ m x=true):Dec m (Zr9 m x x.length) x:=by
 obtain⟨x1,x2⟩:=Zcu hx
 refine⟨hx,fun i hi k hk=>?_⟩
 unfold trV
 exact ZFL hm hx x.length (Nat.le_refl _) i (by omega) k hk
end Go.AE.Y
namespace Go.AE.Y
open Go Go.AE
abbrev Zv:=List (List (Int×Int)×Int)
def OkP (p:List Int):Prop:=p.length=12∧∀j,p.getD j 0=0∨p.getD j 0=1∨p.getD j 0 = -1
def agP (p:List Int) (v:List Bool):Prop:=∀j,p.getD j 0≠0→v.getD j false=decide (0<p.getD j 0)
def unZ (l:Int) (p:List Int):Int:=if l<0 then 0 - p.getD (0 - l - 1).toNat 0 else p.getD (l - 1).toNat 0
def Zei (L:Zv) (v:List Bool):Prop:=∀c∈L,ZY v c=true
def Zbv (L:Zv):Prop:=∀c∈L,ZG c=true∧c.1.length≤1048576
theorem ZoA {l:Int} {p:List Int} (hl:ZZ l=true) (hp:OkP p):ZpZ l p=some (unZ l p):=by
 have h:=Zz.1 hl
 obtain⟨h12,hv⟩:=hp
 unfold ZpZ unZ
 by_cases q:l<0
 ·have:=hv (0 - l - 1).toNat
  rw[Zc q,if_pos q,Zf (by omega) (by omega),Zf (by omega) (by omega),Zb ⟨by omega,by omega⟩,Zf (by omega) (by omega)]
 ·rw[Zd q,if_neg q,Zf (by omega) (by omega),Zb ⟨by omega,by omega⟩]
theorem ZIE {l:Int} {p:List Int} {v:List Bool} (hl:ZZ l=true) (hp:OkP p) (ha:agP p v):(unZ l p<0→ZS v l=false)∧(0<unZ l p→ZS v l=true):=by
 have h:=Zz.1 hl
 unfold unZ ZS
 by_cases q:l<0
 ·rw[if_pos q,show vof l=0 - l by unfold vof;omega,decide_eq_false (show ¬0<l by omega)]
  have h1:=ha (0 - l - 1).toNat
  have h2:=hp.2 (0 - l - 1).toNat
  constructor
  ·intro h3
   rw[h1 (by omega),Xad (by omega)]
   rfl
  ·intro h3
   rw[h1 (by omega),decide_eq_false (by omega)]
   rfl
 ·rw[if_neg q,show vof l=l by unfold vof;omega,Xad (show 0<l by omega)]
  have h1:=ha (l - 1).toNat
  constructor
  ·intro h3
   rw[h1 (by omega),decide_eq_false (by omega)]
   rfl
  ·intro h3
   rw[h1 (by omega),Xad (by omega)]
   rfl
def ZbU (c:List (Int×Int)) (p:List Int):Nat→Int
 |0=>0
 |n+1=>ZbU c p n+(if 0≤unZ (c.getD n (0,0)).2 p then(c.getD n (0,0)).1 else 0)
def ZqV (c:List (Int×Int)) (v:List Bool):Nat→Int
 |0=>0
 |n+1=>ZqV c v n+(if ZS v (c.getD n (0,0)).2=true then(c.getD n (0,0)).1 else 0)
theorem ZIC (c:List (Int×Int)) (v:List Bool):∀n,n≤c.length→ZcF v (c.take n)=ZqV c v n
 |0,_=>rfl
 |n+1,h=>by
  have ih:=ZIC c v n (by omega)
  unfold ZcF at ih ⊢
  rw[Xbk,Xac (show n<c.length by omega),Xa6,ih]
  have e2:ZqV c v (n+1)=ZqV c v n+(if ZS v (c.getD n (0,0)).2=true then(c.getD n (0,0)).1 else 0):=rfl
  have e:c.getD n (0,0)=c[n]:=by rw[Xaa,Xac (show n<c.length by omega)];rfl
  rw[e2,e]
  show (bif ZS v c[n].2 then ZqV c v n+c[n].1 else ZqV c v n)=_
  cases ZS v c[n].2 with
  |true=>rw[ctt,if_pos rfl]
  |false=>rw[cff,if_neg (by decide)];omega
theorem ZdM {c:List (Int×Int)×Int} (h:ZG c=true):(0≤c.2∧c.2≤20000)∧∀i,i<c.1.length→ZZ (c.1.getD i (0,0)).2=true∧1≤(c.1.getD i (0,0)).1∧(c.1.getD i (0,0)).1≤1000:=by
 have h2:=ZJt h
 unfold ZG at h
 simp only[Xae,Xaf]at h
 exact⟨h.2,fun i hi=>⟨Zz.2 (h2 i hi).1,(h2 i hi).2⟩⟩
theorem ZwM {c:List (Int×Int)×Int} (h:ZG c=true) (p:List Int):∀n:Nat,n≤c.1.length→0≤ZbU c.1 p n∧ZbU c.1 p n≤1000*n
 |0,_=>⟨Xat _,Xat _⟩
 |n+1,hn=>by
  have ih:=ZwM h p n (by omega)
  have:=(ZdM h).2 n (by omega)
  unfold ZbU
  split<;>omega
theorem ZgD {c:List (Int×Int)×Int} {p:List Int} (hc:ZG c=true) (hl:c.1.length≤1048576) (hp:OkP p):ZeV c p=some (ZbU c.1 p c.1.length - c.2):=by
 obtain⟨c1,c2⟩:=ZdM hc
 unfold ZeV
 rw[Zf (by omega) (by omega)]
 refine ZK (f:=Zfb c p) (fun s:Int×Int=>∃n:Nat,s.2=n∧n≤c.1.length∧s.1=ZbU c.1 p n - c.2) (fun s=>c.1.length - s.2.toNat) (fun _=>ZbU c.1 p c.1.length - c.2) ?_ _ ⟨0,rfl,Nat.zero_le _,by show 0 - c.2=0 - c.2;rfl⟩
 rintro⟨o,s⟩ ⟨n,hs,hn,ho⟩
 dsimp only at hs ho ⊢
 subst hs
 subst ho
 have hb:=ZwM hc p n hn
 unfold Zfb
 dsimp only
 rcases Xag n c.1.length with h1|h1
 ·left
  obtain⟨l1,l2,l3⟩:=c2 n h1
  rw[Zc (by omega),Zb ⟨by omega,by omega⟩,Xab,ZoA l1 hp,Ze]
  by_cases q:0≤unZ (c.1.getD n (0,0)).2 p
  ·rw[Zc q,Zf (by omega) (by omega),Zf (by omega) (by omega)]
   refine⟨_,rfl,⟨n+1,by simp,by omega,?_⟩,by (try dsimp only)<;>omega,rfl⟩
   dsimp only
   conv=>rhs;unfold ZbU
   rw[if_pos q]
   omega
  ·rw[Zd q,Zf (by omega) (by omega)]
   refine⟨_,rfl,⟨n+1,by simp,by omega,?_⟩,by (try dsimp only)<;>omega,rfl⟩
   dsimp only
   conv=>rhs;unfold ZbU
   rw[if_neg q]
   omega
 ·right
  have:n=c.1.length:=by omega
  rw[Zd (by omega),this]
theorem Zzx {c:List (Int×Int)×Int} {p:List Int} {v:List Bool} (hc:ZG c=true) (hp:OkP p) (ha:agP p v):∀n,n≤c.1.length→ZqV c.1 v n≤ZbU c.1 p n∧∀i,i<n→0≤unZ (c.1.getD i (0,0)).2 p→ZS v (c.1.getD i (0,0)).2=false→ZqV c.1 v n+(c.1.getD i (0,0)).1≤ZbU c.1 p n
 |0,_=>⟨Xat _,fun i hi=>by omega⟩
 |n+1,hn=>by
  obtain⟨i1,i2⟩:=Zzx hc hp ha n (by omega)
  obtain⟨l1,l2,l3⟩:=(ZdM hc).2 n (by omega)
  obtain⟨u1,u2⟩:=ZIE l1 hp ha
  have e1:ZbU c.1 p (n+1)=ZbU c.1 p n+(if 0≤unZ (c.1.getD n (0,0)).2 p then(c.1.getD n (0,0)).1 else 0):=rfl
  have e2:ZqV c.1 v (n+1)=ZqV c.1 v n+(if ZS v (c.1.getD n (0,0)).2=true then(c.1.getD n (0,0)).1 else 0):=rfl
  have hle:(if ZS v (c.1.getD n (0,0)).2=true then(c.1.getD n (0,0)).1 else 0)≤(if 0≤unZ (c.1.getD n (0,0)).2 p then(c.1.getD n (0,0)).1 else 0):=by
   by_cases q:0≤unZ (c.1.getD n (0,0)).2 p
   ·rw[if_pos q]
    split<;>omega
   ·rw[if_neg q,u1 (by omega),if_neg (by decide)]
    omega
  refine⟨by omega,fun i hi h1 h2=>?_⟩
  rcases Xag i n with h3|h3
  ·have:=i2 i h3 h1 h2
   omega
  ·have:i=n:=by omega
   subst this
   rw[e1,e2,if_pos h1,h2,if_neg (by decide)]
   omega
theorem Zuk (v:List Bool) (c:List (Int×Int)×Int):ZY v c=true↔c.2≤ZqV c.1 v c.1.length:=by
 unfold ZY
 rw[Xaf,←ZIC c.1 v c.1.length (Nat.le_refl _),XaC]
theorem Zy5 {c:List (Int×Int)×Int} {p:List Int} {v:List Bool} (hc:ZG c=true) (hp:OkP p) (ha:agP p v) (h:ZbU c.1 p c.1.length - c.2<0):¬ZY v c=true:=by
 rw[Zuk]
 have:=(Zzx hc hp ha c.1.length (Nat.le_refl _)).1
 omega
theorem ZEe {c:List (Int×Int)×Int} {p:List Int} {v:List Bool} (hc:ZG c=true) (hp:OkP p) (ha:agP p v) (ht:∀j,j<12→p.getD j 0≠0) (h:0≤ZbU c.1 p c.1.length - c.2):ZY v c=true:=by
 rw[Zuk]
 have key:∀n,n≤c.1.length→ZqV c.1 v n=ZbU c.1 p n:=by
  intro n
  induction n with
  |zero=>intro _;rfl
  |succ n ih=>
   intro hn
   obtain⟨l1,l2,l3⟩:=(ZdM hc).2 n (by omega)
   obtain⟨u1,u2⟩:=ZIE l1 hp ha
   have hl:=Zz.1 l1
   have hne:unZ (c.1.getD n (0,0)).2 p≠0:=by
    unfold unZ
    split
    ·have:=ht (0 - (c.1.getD n (0,0)).2 - 1).toNat (by omega)
     omega
    ·exact ht _ (by omega)
   unfold ZqV ZbU
   rw[ih (by omega)]
   by_cases q:0≤unZ (c.1.getD n (0,0)).2 p
   ·rw[if_pos q,u2 (by omega),if_pos rfl]
   ·rw[if_neg q,u1 (by omega),if_neg (by decide)]
 rw[key _ (Nat.le_refl _)]
 omega
theorem Zuq {c:List (Int×Int)×Int} {p:List Int} (hc:ZG c=true) (hl:c.1.length≤1048576) (hp:OkP p):∃o,Zcg c p=some o∧o.length≤1048576∧∀l∈o,ZZ l=true∧unZ l p=0∧∀v,agP p v→ZY v c=true→ZS v l=true:=by
 obtain⟨c1,c2⟩:=ZdM hc
 unfold Zcg
 rw[ZgD hc hl hp,Ze]
 refine Zb9 (f:=Zce c p (ZbU c.1 p c.1.length - c.2)) (fun s:Int×List Int=>∃n:Nat,s.1=n∧n≤c.1.length∧s.2.length≤n∧∀l∈s.2,ZZ l=true∧unZ l p=0∧∀v,agP p v→ZY v c=true→ZS v l=true) (fun s=>c.1.length - s.1.toNat) (fun o=>o.length≤1048576∧∀l∈o,ZZ l=true∧unZ l p=0∧∀v,agP p v→ZY v c=true→ZS v l=true) ?_ _ ⟨0,rfl,Nat.zero_le _,Nat.le_refl _,fun l h=>absurd h Xay⟩
 rintro⟨s,o⟩ ⟨n,hs,hn,ho,hall⟩
 dsimp only at hs ho hall ⊢
 subst hs
 unfold Zce
 dsimp only
 rcases Xag n c.1.length with h1|h1
 ·left
  obtain⟨l1,l2,l3⟩:=c2 n h1
  rw[Zc (by omega),Zb ⟨by omega,by omega⟩,Xab,ZoA l1 hp,Ze]
  by_cases q:unZ (c.1.getD n (0,0)).2 p=0
  ·rw[Zx q]
   by_cases q2:ZbU c.1 p c.1.length - c.2<(c.1.getD n (0,0)).1
   ·rw[Zc q2,Zb (by simp[Zl];omega),Zf (by omega) (by omega)]
    refine⟨_,rfl,⟨n+1,by simp,by omega,by simp;omega,fun l h=>?_⟩,by (try dsimp only)<;>omega⟩
    rcases List.mem_append.1 h with h|h
    ·exact hall l h
    ·rw[Xah]at h
     subst h
     refine⟨l1,q,fun v ha he=>?_⟩
     cases hb:ZS v (c.1.getD n (0,0)).2 with
     |true=>rfl
     |false=>
      have:=(Zzx hc hp ha c.1.length (Nat.le_refl _)).2 n h1 (by omega) hb
      have:=(Zuk v c).1 he
      omega
   ·rw[Zd q2,Zf (by omega) (by omega)]
    exact⟨_,rfl,⟨n+1,by simp,by omega,by (try dsimp only)<;>omega,hall⟩,by (try dsimp only)<;>omega⟩
  ·rw[Zu q,Zf (by omega) (by omega)]
   exact⟨_,rfl,⟨n+1,by simp,by omega,by (try dsimp only)<;>omega,hall⟩,by (try dsimp only)<;>omega⟩
 ·right
  rw[Zd (by omega)]
  exact⟨_,rfl,by omega,hall⟩
def ZdO (l:Int) (p:List Int):List Int:=if 0<l then p.set (l - 1).toNat 1 else p.set (0 - l - 1).toNat (-1)
def zcN (p:List Int):Nat→Nat
 |0=>0
 |n+1=>zcN p n+(if p.getD n 0=0 then 1 else 0)
theorem ZDN {p:List Int} {j:Nat} {x:Int} (hj:j<p.length) (hx:x≠0):∀n,zcN (p.set j x) n+(if j<n∧p.getD j 0=0 then 1 else 0)=zcN p n
 |0=>by simp[zcN]
 |n+1=>by
  have ih:=ZDN hj hx n
  have e1:zcN (p.set j x) (n+1)=zcN (p.set j x) n+(if (p.set j x).getD n 0=0 then 1 else 0):=rfl
  have e2:zcN p (n+1)=zcN p n+(if p.getD n 0=0 then 1 else 0):=rfl
  rw[e1,e2]
  by_cases q:j=n
  ·subst q
   have hA:(if (p.set j x).getD j 0=0 then 1 else 0)=0:=if_neg (by rw[ZcT hj];exact hx)
   have hB:(if j<j∧p.getD j 0=0 then 1 else 0)=0:=if_neg (fun h=>absurd h.1 (by omega))
   rw[hB]at ih
   by_cases q2:p.getD j 0=0
   ·have hC:(if j<j+1∧p.getD j 0=0 then 1 else 0)=1:=if_pos ⟨by omega,q2⟩
    rw[hA,hC,if_pos q2]
    omega
   ·have hC:(if j<j+1∧p.getD j 0=0 then 1 else 0)=0:=if_neg (fun h=>q2 h.2)
    rw[hA,hC,if_neg q2]
    omega
  ·rw[ZV q]
   by_cases q2:j<n∧p.getD j 0=0
   ·have hC:(if j<n+1∧p.getD j 0=0 then 1 else 0)=1:=if_pos ⟨by omega,q2.2⟩
    rw[if_pos q2]at ih
    rw[hC]
    omega
   ·have hC:(if j<n+1∧p.getD j 0=0 then 1 else 0)=0:=if_neg (fun h=>q2 ⟨by omega,h.2⟩)
    rw[if_neg q2]at ih
    rw[hC]
    omega
theorem ZqR {l:Int} {p:List Int} (hl:ZZ l=true) (hp:OkP p):OkP (ZdO l p)∧(∀v,agP p v→ZS v l=true→agP (ZdO l p) v)∧zcN (ZdO l p) 12≤zcN p 12∧(unZ l p=0→zcN (ZdO l p) 12+1=zcN p 12)∧(∀j,(ZdO l p).getD j 0=0→p.getD j 0=0)∧∀j,(ZdO l p).getD j 0=if (j:Int)+1=vof l then(if 0<l then 1 else -1)else p.getD j 0:=by
 have h:=Zz.1 hl
 obtain⟨h12,hv⟩:=hp
 unfold ZdO unZ
 by_cases q:0<l
 ·rw[if_pos q,if_neg (show ¬l<0 by omega)]
  have hj:(l - 1).toNat<p.length:=by omega
  have hz:=ZDN (p:=p) (x:=1) hj (by decide) 12
  have hg:∀j,(p.set (l - 1).toNat 1).getD j 0=if (j:Int)+1=vof l then 1 else p.getD j 0:=fun j=>by
   have:vof l=l:=by unfold vof;omega
   rw[this]
   by_cases e:(l - 1).toNat=j
   ·rw[←e,ZcT hj,if_pos (by omega)]
   ·rw[ZV e,if_neg (by omega)]
  refine⟨⟨by rw[Xam];exact h12,fun j=>?_⟩,fun v ha hb j hne=>?_,?_,fun h0=>?_,fun j h0=>?_,fun j=>by rw[if_pos q];exact hg j⟩
  ·rw[hg]
   split
   ·exact Or.inr (Or.inl rfl)
   ·exact hv j
  ·rw[hg]at hne ⊢
   split
   ·rename_i e
    rw[if_pos e]at hne
    unfold ZS at hb
    rw[beq_iff_eq,Xad q,show (vof l - 1).toNat=j by omega]at hb
    rw[hb]
    rfl
   ·rename_i e
    rw[if_neg e]at hne
    exact ha j hne
  ·split at hz<;>omega
  ·rw[if_pos ⟨by omega,h0⟩]at hz
   exact hz
  ·rw[hg]at h0
   split at h0
   ·omega
   ·exact h0
 ·rw[if_neg q,if_pos (show l<0 by omega)]
  have hj:(0 - l - 1).toNat<p.length:=by omega
  have hz:=ZDN (p:=p) (x:=-1) hj (by decide) 12
  have hg:∀j,(p.set (0 - l - 1).toNat (-1)).getD j 0=if (j:Int)+1=vof l then -1 else p.getD j 0:=fun j=>by
   have:vof l=0 - l:=by unfold vof;omega
   rw[this]
   by_cases e:(0 - l - 1).toNat=j
   ·rw[←e,ZcT hj,if_pos (by omega)]
   ·rw[ZV e,if_neg (by omega)]
  refine⟨⟨by rw[Xam];exact h12,fun j=>?_⟩,fun v ha hb j hne=>?_,?_,fun h0=>?_,fun j h0=>?_,fun j=>by rw[if_neg q];exact hg j⟩
  ·rw[hg]
   split
   ·exact Or.inr (Or.inr rfl)
   ·exact hv j
  ·rw[hg]at hne ⊢
   split
   ·rename_i e
    rw[if_pos e]at hne
    unfold ZS at hb
    rw[beq_iff_eq,decide_eq_false q,show (vof l - 1).toNat=j by omega]at hb
    rw[hb]
    rfl
   ·rename_i e
    rw[if_neg e]at hne
    exact ha j hne
  ·split at hz<;>omega
  ·rw[if_pos ⟨by omega,by omega⟩]at hz
   exact hz
  ·rw[hg]at h0
   split at h0
   ·omega
   ·exact h0
end Go.AE.Y
namespace Go.AE.Y
open Go Go.AE
set_option maxHeartbeats 400000
abbrev Zbx:=List (Int×Int)×Int
def ZqN (c:Zbx):ZnN:=(true,c.2,c.1)
def noC:ZnN:=(false,0,[])
def ZyI (c:Zbx) (k:Int):Zbx:=(c.1.map (fun t=>(t.1*k,t.2)),c.2*k)
def upI (n k:Int):Int:=(n+k - 1) / k
def Zx8 (c:Zbx) (k:Int):Zbx:=(c.1.map (fun t=>(upI t.1 k,t.2)),upI c.2 k)
def ZyY (c:Zbx):Zbx:=(if 0<c.2 then c.1.map (fun t=>(min t.1 c.2,t.2))else[],c.2)
def ZkJ (c:List (Int×Int)) (x:Int):Int:=((c.filter (fun t=>decide (vof t.2=x))).map (fun t=>t.1)).sum
def ZCm (c:Zbx) (x:Int):Zbx:=(c.1.filter (fun t=>!decide (vof t.2=x)),max 0 (c.2 - ZkJ c.1 x))
def ZvY (a b:Zbx):ZnN:=bif ZG a&&ZG b then Zc2 (Zc7 (a.1++b.1) (a.2+b.2)).2 (Zc7 (a.1++b.1) (a.2+b.2)).1 else noC
def ZgY (c:Zbx):ZnN:=bif ZG c then ZqN c else noC
def Zwx (c:Zbx) (k:Int):ZnN:=bif ZG c&&(decide (1≤k)&&decide (k≤1000))then ZgY (ZyI c k)else noC
def Zwb (c:Zbx) (k:Int):ZnN:=bif ZG c&&(decide (1≤k)&&decide (k≤1000))then ZgY (Zx8 c k)else noC
def ZDd (c:Zbx):ZnN:=bif ZG c then ZqN (ZyY c)else noC
def Zzy (c:Zbx) (x:Int):ZnN:=bif ZG c&&(decide (1≤x)&&decide (x≤12))then ZqN (ZCm c x)else noC
def axB (l:Int):ZnN:=bif ZZ l then ZqN ([(1,l)],0)else noC
def ofR (r:ZnN):Zbx:=(r.2.2,r.2.1)
theorem ZqE {c:Zbx} (h:ZG c=true):∀t∈c.1,okS t∧1≤t.1:=fun t ht=>by
 obtain⟨i,hi,rfl⟩:=Xan.1 ht
 obtain⟨l1,l2,l3⟩:=(ZdM h).2 i hi
 have e:c.1.getD i (0,0)=c.1[i]:=by rw[Xaa,Xac hi];rfl
 rw[e]at l1 l2 l3
 exact⟨⟨⟨by omega,l3⟩,l1⟩,l2⟩
theorem ZKL {a b:Zbx} (ha:ZG a=true) (hb:ZG b=true):∀t∈a.1++b.1,okS t:=fun t ht=>by
 rcases List.mem_append.1 ht with h|h
 ·exact(ZqE ha t h).1
 ·exact(ZqE hb t h).1
theorem ZwE {net:List Int} {b:Int} (h:(Zc2 net b).1=true):ofR (Zc2 net b)=(ZcW net 12,max 0 (Zbt net b 12))∧ZG (ofR (Zc2 net b))=true:=by
 unfold Zc2 at h ⊢
 cases q:ZG (ZcW net 12,max 0 (Zbt net b 12))with
 |true=>rw[ctt];exact⟨rfl,q⟩
 |false=>rw[q,cff]at h;cases h
theorem ZEm {c:Zbx} (h:(ZgY c).1=true):ofR (ZgY c)=c∧ZG (ofR (ZgY c))=true:=by
 unfold ZgY at h ⊢
 cases q:ZG c with
 |true=>rw[ctt];exact⟨rfl,q⟩
 |false=>rw[q,cff]at h;cases h
theorem Zfo (v:List Bool) (t:Int×Int) (l:List (Int×Int)):ZcF v (t::l)=(bif ZS v t.2 then t.1 else 0)+ZcF v l:=by
 have:=ZqU v [t] l
 rw[ZwQ]at this
 exact this
theorem ZwP (v:List Bool):ZcF v []=0:=rfl
theorem ZqG {v:List Bool} {c:Zbx}:ZY v c=true↔c.2≤ZcF v c.1:=decide_eq_true_iff
theorem ZuW {v:List Bool}:∀{l:List (Int×Int)},(∀t∈l,1≤t.1)→0≤ZcF v l
 |[],_=>Xat _
 |t::l,h=>by
  rw[Zfo]
  have:=ZuW (v:=v) (l:=l) (fun x hx=>h x (Xao _ hx))
  have:=h t Xas
  cases ZS v t.2 with
  |true=>rw[ctt];omega
  |false=>rw[cff];omega
theorem ZKH {c:Zbx} {k:Int} {v:List Bool} (hk:1≤k) (h:ZY v c=true):ZY v (ZyI c k)=true:=by
 rw[ZqG]at h ⊢
 have e:∀l:List (Int×Int),ZcF v (l.map (fun t=>(t.1*k,t.2)))=ZcF v l*k:=by
  intro l
  induction l with
  |nil=>rw[List.map_nil,ZwP,Int.zero_mul]
  |cons t l ih=>
   rw[XaQ,Zfo,Zfo,ih,Int.add_mul]
   cases ZS v t.2 with
   |true=>rw[ctt,ctt]
   |false=>rw[cff,cff,Int.zero_mul]
 show c.2*k≤ZcF v (c.1.map (fun t=>(t.1*k,t.2)))
 rw[e]
 exact Int.mul_le_mul_of_nonneg_right h (by omega)
theorem ZNO {n m k:Int} (hk:1≤k) (h:n≤m*k):upI n k≤m:=by
 unfold upI
 have:(n+k - 1) / k<m+1:=Int.ediv_lt_of_lt_mul (by omega) (by rw[Int.add_mul];omega)
 omega
theorem ZND {n k:Int} (hk:1≤k):n≤upI n k*k:=by
 unfold upI
 have h1:=Int.emod_add_mul_ediv (n+k - 1) k
 have h2:=XbG (n+k - 1) (show 0<k by omega)
 rw[Int.mul_comm]at h1
 omega
theorem ZKn {c:Zbx} {k:Int} {v:List Bool} (hk:1≤k) (h:ZY v c=true):ZY v (Zx8 c k)=true:=by
 rw[ZqG]at h ⊢
 have e:∀l:List (Int×Int),ZcF v l≤ZcF v (l.map (fun t=>(upI t.1 k,t.2)))*k:=by
  intro l
  induction l with
  |nil=>rw[List.map_nil,ZwP,Int.zero_mul];exact Xat _
  |cons t l ih=>
   rw[XaQ,Zfo,Zfo,Int.add_mul]
   have:=ZND (n:=t.1) hk
   dsimp only
   cases ZS v t.2 with
   |true=>rw[ctt,ctt];omega
   |false=>rw[cff,cff,Int.zero_mul];omega
 have h2:=e c.1
 show upI c.2 k≤ZcF v (c.1.map (fun t=>(upI t.1 k,t.2)))
 exact ZNO hk (by omega)
theorem ZIx {v:List Bool} {b:Int} (hb:0<b):∀l:List (Int×Int),(∀t∈l,1≤t.1)→min b (ZcF v l)≤ZcF v (l.map (fun t=>(min t.1 b,t.2)))
 |[],_=>by rw[List.map_nil,ZwP];omega
 |t::l,h=>by
  have ih:=ZIx (v:=v) hb l (fun x hx=>h x (Xao _ hx))
  have hp:=ZuW (v:=v) (l:=l) (fun x hx=>h x (Xao _ hx))
  have:=h t Xas
  rw[XaQ,Zfo,Zfo]
  dsimp only
  cases ZS v t.2 with
  |true=>rw[ctt,ctt];omega
  |false=>rw[cff,cff];omega
theorem ZKR {c:Zbx} {v:List Bool} (hc:ZG c=true) (h:ZY v c=true):ZY v (ZyY c)=true:=by
 rw[ZqG]at h ⊢
 unfold ZyY
 dsimp only
 by_cases q:0<c.2
 ·rw[if_pos q]
  have:=ZIx (v:=v) q c.1 (fun t ht=>(ZqE hc t ht).2)
  omega
 ·rw[if_neg q,ZwP]
  omega
theorem ZG7 {v:List Bool} {x:Int}:∀l:List (Int×Int),(∀t∈l,1≤t.1)→ZcF v l≤ZcF v (l.filter (fun t=>!decide (vof t.2=x)))+ZkJ l x∧0≤ZcF v (l.filter (fun t=>!decide (vof t.2=x)))
 |[],_=>by unfold ZkJ;exact⟨Xat _,Xat _⟩
 |t::l,h=>by
  obtain⟨i1,i2⟩:=ZG7 (v:=v) (x:=x) l (fun y hy=>h y (Xao _ hy))
  have:=h t Xas
  unfold ZkJ at i1 ⊢
  by_cases q:vof t.2=x
  ·rw[Xa7 (by rw[Xad q];decide),Xa8 (p:=fun t:Int×Int=>decide (vof t.2=x)) (Xad q),XaQ,XbN,Zfo]
   refine⟨?_,i2⟩
   cases ZS v t.2 with
   |true=>rw[ctt];omega
   |false=>rw[cff];omega
  ·rw[Xa8 (by rw[decide_eq_false q];rfl),Xa7 (p:=fun t:Int×Int=>decide (vof t.2=x)) (by rw[Xaf];exact q),Zfo,Zfo]
   cases ZS v t.2 with
   |true=>rw[ctt];omega
   |false=>rw[cff];omega
theorem ZJ3 {c:Zbx} {x:Int} {v:List Bool} (hc:ZG c=true) (h:ZY v c=true):ZY v (ZCm c x)=true:=by
 rw[ZqG]at h ⊢
 obtain⟨w1,w2⟩:=ZG7 (v:=v) (x:=x) c.1 (fun t ht=>(ZqE hc t ht).2)
 show max 0 (c.2 - ZkJ c.1 x)≤ZcF v (c.1.filter (fun t=>!decide (vof t.2=x)))
 omega
theorem ZKa {a b:Zbx} {v:List Bool} (ha:ZG a=true) (hb:ZG b=true) (h1:ZY v a=true) (h2:ZY v b=true) (hr:(ZvY a b).1=true):ZY v (ofR (ZvY a b))=true:=by
 unfold ZvY at hr ⊢
 rw[ha,hb,Xaj,ctt]at hr ⊢
 rw[(ZwE hr).1,ZEa (ZKL ha hb),Xaf,ZqU]
 rw[ZqG]at h1 h2
 omega
theorem ZL2 {l:Int} {v:List Bool}:ZY v ([(1,l)],0)=true:=by
 rw[ZqG]
 show (0:Int)≤ZcF v [(1,l)]
 rw[ZwQ]
 cases ZS v l with
 |true=>rw[ctt];exact Int.one_nonneg
 |false=>rw[cff];exact Xat _
end Go.AE.Y
namespace Go.AE.Y
open Go Go.AE
set_option maxHeartbeats 400000
def Zpy (L:Zv) (p:List Int):Prop:=∀c∈L,0≤ZbU c.1 p c.1.length - c.2
theorem ZGC {c:List (Int×Int)×Int} {o5 r9:List Int} (hp:OkP o5) (hr:r9.length≤1048576) (h9:∀l∈r9,ZZ l=true∧unZ l o5=0∧∀v,agP o5 v→ZY v c=true→ZS v l=true) (m4:Bool) {i3:Int} (hi:0≤i3∧i3≤2000000) :
  ∃md out,loop (ZcI i3 r9) (m4,(0:Int),o5)=some (.inl (md,i3+1,out))∧OkP out∧(∀v,agP o5 v→ZY v c=true→agP out v)∧(∀j,out.getD j 0=0→o5.getD j 0=0)∧((md=m4∧out=o5)∨(md=true∧zcN out 12<zcN o5 12)):=by
 have key:=Zb9 (f:=ZcI i3 r9) (fun s:Bool×Int×List Int=>∃n:Nat,s.2.1=n∧n≤r9.length∧OkP s.2.2∧(∀v,agP o5 v→ZY v c=true→agP s.2.2 v)∧(∀j,s.2.2.getD j 0=0→o5.getD j 0=0)∧((n=0∧s.1=m4∧s.2.2=o5)∨(s.1=true∧zcN s.2.2 12<zcN o5 12))) (fun s=>r9.length - s.2.1.toNat)
  (fun r=>∃md out,r = .inl (md,i3+1,out)∧OkP out∧(∀v,agP o5 v→ZY v c=true→agP out v)∧(∀j,out.getD j 0=0→o5.getD j 0=0)∧((md=m4∧out=o5)∨(md=true∧zcN out 12<zcN o5 12))) ?_ (m4,(0:Int),o5) ⟨0,rfl,Nat.zero_le _,hp,fun v h _=>h,fun j h=>h,Or.inl ⟨rfl,rfl,rfl⟩⟩
 ·obtain⟨r,e,md,out,rfl,h⟩:=key
  exact⟨md,out,e,h⟩
 rintro⟨md,s,o⟩ ⟨n,hs,hn,ho,ha,hz,hc⟩
 dsimp only at hs ho ha hz hc ⊢
 subst hs
 unfold ZcI
 dsimp only
 rcases Xag n r9.length with h1|h1
 ·left
  obtain⟨l1,l2,l3⟩:=h9 _ (ZA (l:=r9) (i:=n) (d:=0) h1)
  have hl:=Zz.1 l1
  obtain⟨s1,s2,s3,s4,s5,_⟩:=ZqR l1 ho
  have ho12:=ho.1
  have hz0:zcN (ZdO (r9.getD n 0) o) 12<zcN o5 12:=by
   rcases hc with⟨h0,_,h2⟩|⟨_,h2⟩
   ·subst h2
    have:=s4 l2
    omega
   ·omega
  have inv:∃n':Nat,((n:Int)+1)=n'∧n'≤r9.length∧OkP (ZdO (r9.getD n 0) o)∧(∀v,agP o5 v→ZY v c=true→agP (ZdO (r9.getD n 0) o) v)∧(∀j,(ZdO (r9.getD n 0) o).getD j 0=0→o5.getD j 0=0)∧((n'=0∧true=m4∧ZdO (r9.getD n 0) o=o5)∨(true=true∧zcN (ZdO (r9.getD n 0) o) 12<zcN o5 12)):=
   ⟨n+1,by simp,by omega,s1,fun v h1 h2=>s2 v (ha v h1 h2) (l3 v h1 h2),fun j h=>hz j (s5 j h),Or.inr ⟨rfl,hz0⟩⟩
  rw[Zc (by omega),Zb ⟨by omega,by omega⟩,Xab]
  refine⟨(true,(n:Int)+1,ZdO (r9.getD n 0) o),?_,inv,by (try dsimp only)<;>omega⟩
  unfold ZdO
  by_cases q:0<r9.getD n 0
  ·rw[Zc q,if_pos q,Zf (by omega) (by omega),Zb ⟨by omega,by omega⟩,Zf (by omega) (by omega)]
  ·rw[Zd q,if_neg q,Zf (by omega) (by omega),Zf (by omega) (by omega),Zb ⟨by omega,by omega⟩,Zf (by omega) (by omega)]
 ·right
  rw[Zd (by omega),Zf (by omega) (by omega)]
  refine⟨_,rfl,md,o,rfl,ho,ha,hz,?_⟩
  rcases hc with⟨_,h2⟩|h2
  ·exact Or.inl h2
  ·exact Or.inr h2
def Two (L:Zv) (o3 out:List Int):Prop:=OkP out∧(∀v,agP o3 v→Zei L v→agP out v)∧∀j,out.getD j 0=0→o3.getD j 0=0
theorem ZGB {L:Zv} {o3:List Int} (hL:Zbv L) (hl:L.length≤1048576) (hp:OkP o3) :
  ∃r,loop (ZbP L) (false,(0:Int),o3)=some r∧((∃md out,r = .inl (md,out)∧Two L o3 out∧((md=false∧out=o3∧Zpy L o3)∨(md=true∧zcN out 12<zcN o3 12)))∨(∃i out,r = .inr (i,out)∧0≤i∧Two L o3 out∧∀v,agP o3 v→¬Zei L v)):=by
 refine Zb9 (f:=ZbP L) (fun s:Bool×Int×List Int=>∃n:Nat,s.2.1=n∧n≤L.length∧Two L o3 s.2.2∧((s.1=false∧s.2.2=o3∧∀k,k<n→0≤ZbU (L.getD k ([],0)).1 o3 (L.getD k ([],0)).1.length - (L.getD k ([],0)).2)∨(s.1=true∧zcN s.2.2 12<zcN o3 12))) (fun s=>L.length - s.2.1.toNat) _ ?_ _ ⟨0,rfl,Nat.zero_le _,⟨hp,fun v h _=>h,fun j h=>h⟩,Or.inl ⟨rfl,rfl,fun k hk=>by omega⟩⟩
 rintro⟨md,s,o⟩ ⟨n,hs,hn,⟨t1,t2,t3⟩,hc⟩
 dsimp only at hs t1 t2 t3 hc ⊢
 subst hs
 unfold ZbP
 dsimp only
 rcases Xag n L.length with h1|h1
 ·have hmem:=ZA (l:=L) (i:=n) (d:=([],0)) h1
  obtain⟨g1,g2⟩:=hL _ hmem
  rw[Zc (by omega),Zb ⟨by omega,by omega⟩,Xab,ZgD g1 g2 t1,Ze]
  by_cases q:ZbU (L.getD n ([],0)).1 o (L.getD n ([],0)).1.length - (L.getD n ([],0)).2<0
  ·right
   rw[Zc q]
   exact⟨_,rfl,Or.inr ⟨n,o,rfl,by omega,⟨t1,t2,t3⟩,fun v ha hs=>Zy5 g1 t1 (t2 v ha hs) q (hs _ hmem)⟩⟩
  ·left
   obtain⟨r9,e9,k1,k2⟩:=Zuq g1 g2 t1
   obtain⟨md',out,e3,u1,u2,u3,u4⟩:=ZGC t1 k1 k2 md (i3:=(n:Int)) ⟨by omega,by omega⟩
   rw[Zd q,e9,Ze,e3]
   refine⟨_,rfl,⟨n+1,by simp,by omega,⟨u1,fun v ha hs=>u2 v (t2 v ha hs) (hs _ hmem),fun j h=>t3 j (u3 j h)⟩,?_⟩,by (try dsimp only)<;>omega⟩
   dsimp only
   rcases u4 with⟨rfl,rfl⟩|⟨rfl,hz⟩
   ·rcases hc with⟨c1,c2,c3⟩|c
    ·refine Or.inl ⟨c1,c2,fun k hk=>?_⟩
     rcases Xag k n with h2|h2
     ·exact c3 k h2
     ·rw[show k=n by omega,←c2];omega
    ·exact Or.inr c
   ·refine Or.inr ⟨rfl,?_⟩
    rcases hc with⟨c1,c2,c3⟩|c
    ·rw[←c2];exact hz
    ·have:=c.2;omega
 ·right
  have hnn:n=L.length:=by omega
  rw[Zd (by omega)]
  refine⟨_,rfl,Or.inl ⟨md,o,rfl,⟨t1,t2,t3⟩,?_⟩⟩
  rcases hc with⟨c1,c2,c3⟩|c
  ·refine Or.inl ⟨c1,c2,fun x hx=>?_⟩
   obtain⟨k,hk,rfl⟩:=Xan.1 hx
   have:=c3 k (by omega)
   rwa [Xaa,Xac hk]at this
  ·exact Or.inr c
theorem Zmy {s:List Int} (h:s.length≤1048576):Zbu s=some s:=by
 unfold Zbu
 refine ZyK (fun e=>by rw[e]) ?_
 rw[Zb (by simp only[Xap,Zl];omega),Xau]
theorem Zfm {L:Zv} {p:List Int} (hL:Zbv L) (hl:L.length≤1048576) (hp:OkP p) :
  ∃r,ZbO L p=some r∧Two L p r.2∧((r.1 = -1∧Zpy L r.2)∨(0≤r.1∧∀v,agP p v→¬Zei L v)):=by
 unfold ZbO
 rw[Zmy (by have:=hp.1;omega),Ze]
 refine Zb9 (f:=ZcH L) (fun s:Bool×List Int=>Two L p s.2∧(s.1=false→Zpy L s.2)) (fun s=>bif s.1 then 2*zcN s.2 12+1 else 0) (fun r=>Two L p r.2∧((r.1 = -1∧Zpy L r.2)∨(0≤r.1∧∀v,agP p v→¬Zei L v))) ?_ _ ⟨⟨hp,fun v h _=>h,fun j h=>h⟩,fun h=>by cases h⟩
 rintro⟨md,o⟩ ⟨⟨t1,t2,t3⟩,hk⟩
 dsimp only at t1 t2 t3 hk ⊢
 unfold ZcH
 dsimp only
 cases md with
 |false=>
  right
  rw[cff]
  exact⟨_,rfl,⟨t1,t2,t3⟩,Or.inl ⟨rfl,hk rfl⟩⟩
 |true=>
  rw[ctt]
  obtain⟨r,e,h|h⟩:=ZGB hL hl t1
  ·obtain⟨md',out,rfl,⟨u1,u2,u3⟩,hc⟩:=h
   left
   rw[e]
   refine⟨_,rfl,⟨⟨u1,fun v ha hs=>u2 v (t2 v ha hs) hs,fun j h=>t3 j (u3 j h)⟩,?_⟩,?_⟩
   ·dsimp only
    intro hf
    rcases hc with⟨_,c2,c3⟩|⟨c1,_⟩
    ·rw[c2];exact c3
    ·rw[c1]at hf;cases hf
   ·dsimp only
    rw[ctt]
    rcases hc with⟨c1,_,_⟩|⟨c1,c2⟩
    ·rw[c1,cff];omega
    ·rw[c1,ctt];omega
  ·obtain⟨i,out,rfl,h0,⟨u1,u2,u3⟩,hc⟩:=h
   right
   rw[e]
   exact⟨_,rfl,⟨u1,fun v ha hs=>u2 v (t2 v ha hs) hs,fun j h=>t3 j (u3 j h)⟩,Or.inr ⟨h0,fun v ha hs=>hc v (t2 v ha hs) hs⟩⟩
theorem ZoV {p:List Int} (hp:OkP p):∃r,ZgE p=some r∧((r=(0,true,p.map (fun n=>decide (0<n)))∧∀j,j<12→p.getD j 0≠0)∨(∃k:Nat,k<12∧p.getD k 0=0∧r=((k:Int)+1,false,[]))):=by
 have h12:=hp.1
 unfold ZgE
 refine Zb9 (f:=ZhT p) (fun s:Int×List Bool=>∃n:Nat,s.1=n∧n≤12∧s.2=(p.take n).map (fun n=>decide (0<n))∧∀j,j<n→p.getD j 0≠0) (fun s=>12 - s.1.toNat) _ ?_ _ ⟨0,rfl,by omega,by rw[XaR];rfl,fun j hj=>by omega⟩
 rintro⟨s,o⟩ ⟨n,hs,hn,ho,hz⟩
 dsimp only at hs ho hz ⊢
 subst hs
 subst ho
 unfold ZhT
 dsimp only
 rcases Xag n 12 with h1|h1
 ·rw[Zc (by omega),Zb ⟨by omega,by omega⟩,Xab]
  by_cases q:p.getD n 0=0
  ·right
   rw[Zx q,Zf (by omega) (by omega)]
   exact⟨_,rfl,Or.inr ⟨n,h1,q,rfl⟩⟩
  ·left
   rw[Zu q,Zb (by simp[Zl];omega),Zf (by omega) (by omega)]
   refine⟨_,rfl,⟨n+1,by simp,by omega,?_,fun j hj=>?_⟩,by (try dsimp only)<;>omega⟩
   ·dsimp only
    rw[Xbk,Xac (show n<p.length by omega),Xa1,Xaa,Xac (show n<p.length by omega)]
    rfl
   ·rcases Xag j n with h2|h2
    ·exact hz j h2
    ·rw[show j=n by omega];exact q
 ·right
  have hnn:n=12:=by omega
  unfold ZkY
  rw[Zd (by omega)]
  exact⟨_,rfl,Or.inl ⟨by rw[hnn,←h12,XaC],fun j hj=>hz j (by omega)⟩⟩
def Zck (D:List Int):Prop:=(∀x∈D,ZZ x=true)∧∀i j,i<D.length→j<D.length→vof (D.getD i 0)=vof (D.getD j 0)→i=j
def agD (D:List Int) (v:List Bool):Prop:=∀x∈D,ZS v x=true
def Zd7 (D:List Int):Nat→List Int
 |0=>List.replicate 12 0
 |n+1=>ZdO (D.getD n 0) (Zd7 D n)
theorem Zzt (j:Nat):(List.replicate 12 (0:Int)).getD j 0=0:=by
 rw[Xaa]
 rcases Xag j 12 with h|h
 ·rw[XaO h];rfl
 ·rw[Xaw (by rw[XaG];exact h)];rfl
theorem Zj0 {D:List Int} (hD:Zck D):∀n,n≤D.length→OkP (Zd7 D n)∧(∀v,agD D v→agP (Zd7 D n) v)∧(∀j,(Zd7 D n).getD j 0=0→∀i,i<n→vof (D.getD i 0)≠(j:Int)+1)∧(∀j,(Zd7 D n).getD j 0≠0→∃i,i<n∧vof (D.getD i 0)=(j:Int)+1)∧zcN (Zd7 D n) 12+n=12
 |0,_=>⟨⟨rfl,fun j=>Or.inl (Zzt j)⟩,fun v _ j hne=>absurd (Zzt j) hne,fun j _ i hi=>(by omega),fun j hne=>absurd (Zzt j) hne,(by show zcN (List.replicate 12 0) 12+0=12;decide)⟩
 |n+1,h=>by
  obtain⟨i1,i2,i3,i4,i5⟩:=Zj0 hD n (by omega)
  have hmem:=ZA (l:=D) (i:=n) (d:=0) (by omega)
  have hl:=hD.1 _ hmem
  have hlit:=Zz.1 hl
  obtain⟨s1,s2,s3,s4,s5,s6⟩:=ZqR hl i1
  have hvr:1≤vof (D.getD n 0)∧vof (D.getD n 0)≤12:=by unfold vof;omega
  have hun:unZ (D.getD n 0) (Zd7 D n)=0:=by
   have hz:(Zd7 D n).getD (vof (D.getD n 0) - 1).toNat 0=0:=by
    by_cases q:(Zd7 D n).getD (vof (D.getD n 0) - 1).toNat 0=0
    ·exact q
    ·obtain⟨i,hi,e⟩:=i4 _ q
     have:=hD.2 i n (by omega) (by omega) (by rw[e];omega)
     omega
   unfold unZ
   unfold vof at hz
   split
   ·rw[show (0 - D.getD n 0 - 1)=max (D.getD n 0) (-(D.getD n 0)) - 1 by omega,hz];rfl
   ·rw[show (D.getD n 0 - 1)=max (D.getD n 0) (-(D.getD n 0)) - 1 by omega,hz]
  refine⟨s1,fun v ha=>s2 v (i2 v ha) (ha _ hmem),fun j h0 i hi=>?_,fun j hne=>?_,?_⟩
  ·have h0':(ZdO (D.getD n 0) (Zd7 D n)).getD j 0=0:=h0
   rw[s6]at h0'
   by_cases q:(j:Int)+1=vof (D.getD n 0)
   ·rw[if_pos q]at h0'
    split at h0'<;>omega
   ·rw[if_neg q]at h0'
    rcases Xag i n with h2|h2
    ·exact i3 j h0' i h2
    ·rw[show i=n by omega];omega
  ·have hne':(ZdO (D.getD n 0) (Zd7 D n)).getD j 0≠0:=hne
   rw[s6]at hne'
   by_cases q:(j:Int)+1=vof (D.getD n 0)
   ·exact⟨n,by omega,by omega⟩
   ·rw[if_neg q]at hne'
    obtain⟨i,hi,e⟩:=i4 j hne'
    exact⟨i,by omega,e⟩
  ·have:=s4 hun
   show zcN (ZdO (D.getD n 0) (Zd7 D n)) 12+(n+1)=12
   omega
theorem Zgm {D:List Int} (hD:Zck D):D.length≤12:=by
 have:=(Zj0 hD D.length (Nat.le_refl _)).2.2.2.2
 omega
theorem ZqF {D:List Int} {l:Int} (hD:Zck D) (hl:ZZ l=true) (hn:∀i,i<D.length→vof (D.getD i 0)≠vof l):Zck (D++[l]):=by
 have hg:∀i,i<D.length→(D++[l]).getD i 0=D.getD i 0:=fun i hi=>by rw[Xaa,XaU hi,←Xaa]
 have hg':(D++[l]).getD D.length 0=l:=by rw[Xaa,XaT (Nat.le_refl _),Nat.sub_self];rfl
 refine⟨fun x hx=>?_,fun i j hi hj e=>?_⟩
 ·rcases List.mem_append.1 hx with hx|hx
  ·exact hD.1 x hx
  ·rw[Xah]at hx;rw[hx];exact hl
 ·rw[Xal,Xav]at hi hj
  rcases Xag i D.length with h1|h1<;>rcases Xag j D.length with h2|h2
  ·rw[hg i h1,hg j h2]at e
   exact hD.2 i j h1 h2 e
  ·rw[hg i h1,show j=D.length by omega,hg']at e
   exact absurd e (hn i h1)
  ·rw[hg j h2,show i=D.length by omega,hg']at e
   exact absurd e.symm (hn j h2)
  ·omega
theorem ZlI {D:List Int} (hD:Zck D):ZcV (Zbe D)=true:=by
 unfold ZcV Zbe
 simp only[Xae,Xar,XaX,XaN,beq_iff_eq]
 refine⟨fun x hx=>?_,fun x hx y hy e=>?_⟩
 ·obtain⟨z,hz,rfl⟩:=XaF.1 hx
  rw[ZKy]
  exact hD.1 z hz
 ·obtain⟨z,hz,rfl⟩:=XaF.1 hx
  obtain⟨w,hw,rfl⟩:=XaF.1 hy
  obtain⟨i,hi,rfl⟩:=Xan.1 hz
  obtain⟨j,hj,rfl⟩:=Xan.1 hw
  have e1:D.getD i 0=D[i]:=by rw[Xaa,Xac hi];rfl
  have e2:D.getD j 0=D[j]:=by rw[Xaa,Xac hj];rfl
  have:=hD.2 i j hi hj (by rw[e1,e2];unfold vof;omega)
  subst this
  have:=Zz.1 (hD.1 _ hz)
  omega
abbrev VR:=Bool×Int×Bool×List Bool×Zv×List ZE
structure Ext (L:Zv) (S:List ZE) (L':Zv) (S':List ZE):Prop where
 good:Zbv L'
 len:L'.length+S.length=L.length+S'.length
 up:S.length≤S'.length
 top:S'.length≤1000
 sound:∀v,Zei L v→Zei L' v
 back:∀v,Zei L' v→Zei L v
structure ZfQ (D:List Int) (L:Zv) (S:List ZE) (fuel:Int) (r:VR):Prop where
 fu:0≤r.2.1∧r.2.1≤fuel
 ext:Ext L S r.2.2.2.2.1 r.2.2.2.2.2
 sat:r.1=true→r.2.2.2.1.length=12∧Zei L r.2.2.2.1
 no:r.1=false→r.2.2.1=false→∀v,Zei L v→¬agD D v
theorem Ext.refl {L:Zv} {S:List ZE} (h:Zbv L) (hs:S.length≤1000):Ext L S L S:=⟨h,by omega,Nat.le_refl _,hs,fun _ h=>h,fun _ h=>h⟩
theorem Ext.trans {L L' L'':Zv} {S S' S'':List ZE} (a:Ext L S L' S') (b:Ext L' S' L'' S''):Ext L S L'' S'':=
 ⟨b.good,by have:=a.len;have:=b.len;omega,XbO a.up b.up,b.top,fun v h=>b.sound v (a.sound v h),fun v h=>a.back v (b.back v h)⟩
theorem ZIe {D:List Int} {L:Zv} {S:List ZE} (hD:Zck D) (hL:Zbv L) (hl:L.length≤2000) (hS:S.length<1000) (hno:∀v,Zei L v→¬agD D v) (f:Int) (m:Bool) :
  ∃r,ZcA D f m L S=some r∧Ext L S r.1 r.2:=by
 have hd:=Zgm hD
 have hneg:∀x∈D,x≠0:=fun x hx=>(Zz.1 (hD.1 x hx)).1
 have hlo:=ZlI hD
 have hc:ZiN (Zbe D)=(true,1,Z4 (Zbo (Zbe D))):=by
  unfold ZiN
  rw[hlo,Xad (show (Zbe D).length≤40 by unfold Zbe;rw[Xak];omega)]
  rfl
 have hcon:ZG (Z4 (Zbo (Zbe D)),1)=true:=Zuh (fun x hx=>(ZfV hlo).1 x ((Zhx hlo x).1 hx)) (Zpu hlo)
 have hev:∀v,ZY v (Z4 (Zbo (Zbe D)),1) = !(D.all (ZS v)):=fun v=>by rw[ZDY,ZH6 (Zhx hlo),ZH7 hneg]
 have hlf:=ZmZ (Zbe D)
 have hol:(Z4 (Zbo (Zbe D))).length≤12:=by unfold Z4;rw[Xak];exact hlf
 refine⟨(L++[(Z4 (Zbo (Zbe D)),1)],S++[((7:Int),((0:Int),((0:Int),(Z4 (Zbo (Zbe D)),(1:Int)))))]),?_,?_⟩
 ·unfold ZcA
  refine(ZbZ (f:=ZbF D L S) D 0 (fun x=>0 - x) [] (fun _=>(L++[(Z4 (Zbo (Zbe D)),1)],S++[((7:Int),((0:Int),((0:Int),(Z4 (Zbo (Zbe D)),(1:Int)))))])) (fun i out hi ho=>?_) ?_)
  ·have:=Zz.1 (hD.1 _ (ZA (l:=D) (i:=i) (d:=0) hi))
   unfold ZbF
   dsimp only
   rw[Zc (by omega),Zb ⟨by omega,by omega⟩,Xab,Zf (by omega) (by omega),Zb (by simp only[Zl,Xaq,Xap];simp at ho;omega),Zf (by omega) (by omega)]
  ·unfold ZbF ZeC ZeD
   dsimp only
   rw[Zd (by omega),Xau,show D.map (fun x=>0 - x)=Zbe D from rfl,ZkO _ (by unfold Zbe;rw[Xak];omega),Ze,hc]
   dsimp only
   rw[Zb (by simp[Zl];omega),ZBY _ (by (try dsimp only)<;>omega),Ze,Zb (by simp[Zl];omega)]
   rfl
 ·refine⟨fun c hcm=>?_,by simp;omega,by simp,by simp;omega,fun v h c hcm=>?_,fun v h c hcm=>h c (Xa4 _ hcm)⟩
  ·rcases List.mem_append.1 hcm with h|h
   ·exact hL c h
   ·rw[Xah]at h
    subst h
    exact⟨hcon,by (try dsimp only)<;>omega⟩
  ·rcases List.mem_append.1 hcm with h2|h2
   ·exact h c h2
   ·rw[Xah]at h2
    subst h2
    rw[hev]
    cases hb:D.all (ZS v)with
    |false=>rfl
    |true=>exact absurd (Xar.1 hb) (hno v h)
theorem ZCl {D:List Int} {L:Zv} {S:List ZE} {fuel:Int} {rec_:List Int→Int→Bool→Zv→List ZE→Option VR}
  (hrec:∀(l:Int) (L':Zv) (S':List ZE) (f':Int),Zck (D++[l])→Zbv L'→L'.length≤400+S'.length→S'.length≤1000→(0≤f'∧f'≤2000)→∃r,rec_ (D++[l]) f' false L' S'=some r∧ZfQ (D++[l]) L' S' f' r)
  (hD:Zck D) (hL:Zbv L) (hl:L.length≤400+S.length) (hS:S.length≤1000) (hf:0≤fuel∧fuel≤2000):∃r,ZM rec_ D fuel false L S=some r∧ZfQ D L S fuel r:=by
 have hd:=Zgm hD
 have much:ZfQ D L S fuel (false,fuel,true,([]:List Bool),L,S):=⟨⟨hf.1,Xat _⟩,Ext.refl hL hS,fun h=>(by cases h),fun _ h=>(by cases h)⟩
 unfold ZM
 by_cases q1:fuel=0
 ·exact⟨_,by rw[Zx q1],much⟩
 rw[Zu q1]
 by_cases q2:1000≤(S.length:Int)
 ·exact⟨_,by rw[Zc q2],much⟩
 rw[Zd q2,Zf (by omega) (by omega),Zb ⟨by omega,by simp only[Zl];omega,rfl⟩]
 obtain⟨p1,p2,p3,p4,p5⟩:=Zj0 hD D.length (Nat.le_refl _)
 have tail:∃r,ZW D fuel false L S rec_ (Zd7 D D.length)=some r∧ZfQ D L S fuel r:=by
  unfold ZW
  obtain⟨⟨i,out⟩,e1,⟨t1,t2,t3⟩,hc⟩:=Zfm hL (by omega) p1
  dsimp only at t1 t2 t3 hc
  rw[e1,Ze]
  dsimp only
  have failed:∀(f:Int) (L':Zv) (S':List ZE),(0≤f∧f≤fuel)→Ext L S L' S'→S'.length<1000→(∀v,Zei L v→¬agD D v)→∃r,Zbg D (f,false,L',S')=some r∧ZfQ D L S fuel r:=fun f L' S' hf' hx hs' hno=>by
   obtain⟨⟨L2,S2⟩,e,hx2⟩:=ZIe hD hx.good (by have:=hx.len;omega) hs' (fun v hv=>hno v (hx.back v hv)) f false
   unfold Zbg
   dsimp only
   rw[e,Ze]
   exact⟨_,rfl,⟨hf',hx.trans hx2,fun h=>(by cases h),fun _ _=>hno⟩⟩
  rcases hc with⟨rfl,hk⟩|⟨h0,hk⟩
  ·rw[Zc (by omega)]
   obtain⟨r4,e4,h|h⟩:=ZoV t1
   ·obtain⟨rfl,ht⟩:=h
    rw[e4,Ze]
    dsimp only
    rw[ctt]
    refine⟨_,rfl,⟨⟨by (try dsimp only)<;>omega,by (try dsimp only)<;>omega⟩,Ext.refl hL hS,fun _=>⟨by show (out.map _).length=12;rw[Xak];exact t1.1,fun c hcm=>?_⟩,fun h=>(by cases h)⟩⟩
    have ha:agP out (out.map (fun n=>decide (0<n))):=fun j hne=>by
     rcases Xag j out.length with h1|h1
     ·rw[Xaa,Xbl,Xac h1,Xaa,Xac h1]
      rfl
     ·rw[Xaa,Xaw h1]at hne
      exact absurd rfl hne
    exact ZEe (hL c hcm).1 t1 ha ht (hk c hcm)
   ·obtain⟨k,hk12,hk0,rfl⟩:=h
    rw[e4,Ze]
    dsimp only
    rw[cff,Zf (by omega) (by omega)]
    have hvar:∀l:Int,vof l=(k:Int)+1→∀i,i<D.length→vof (D.getD i 0)≠vof l:=fun l hl i hi=>by
     rw[hl]
     exact p3 k (t3 k hk0) i hi
    refine Zb9 (f:=Zbz D ((k:Int)+1,false,[]) rec_) (fun s:Int×Int×Bool×Zv×List ZE=>∃n:Nat,s.1=n∧n≤2∧(0≤s.2.1∧s.2.1≤fuel)∧s.2.2.1=false∧Ext L S s.2.2.2.1 s.2.2.2.2∧(1≤n→∀v,Zei L v→agD D v→ZS v ((k:Int)+1)=false)∧(2≤n→∀v,Zei L v→agD D v→ZS v (0 - ((k:Int)+1))=false)) (fun s=>2 - s.1.toNat) (ZfQ D L S fuel) ?_ _ ⟨0,rfl,by omega,⟨by (try dsimp only)<;>omega,by (try dsimp only)<;>omega⟩,rfl,Ext.refl hL hS,fun h=>by omega,fun h=>by omega⟩
    rintro⟨s,f,m,L',S'⟩ ⟨n,hs,hn,hf',hm,hx,g1,g2⟩
    dsimp only at hs hf' hm hx g1 g2 ⊢
    subst hs
    subst hm
    unfold Zbz
    dsimp only
    rcases Xag n 2 with h1|h1
    ·have hlit:∃l,[((k:Int)+1),(0 - ((k:Int)+1))].getD n 0=l∧vof l=(k:Int)+1∧ZZ l=true∧((n=0∧l=(k:Int)+1)∨(n=1∧l=0 - ((k:Int)+1))):=by
      have:n=0∨n=1:=by omega
      rcases this with rfl|rfl
      ·exact⟨(k:Int)+1,rfl,by unfold vof;omega,Zz.2 ⟨by omega,by omega,by omega⟩,Or.inl ⟨rfl,rfl⟩⟩
      ·exact⟨0 - ((k:Int)+1),rfl,by unfold vof;omega,Zz.2 ⟨by omega,by omega,by omega⟩,Or.inr ⟨rfl,rfl⟩⟩
     obtain⟨l,el,hv,hli,hnl⟩:=hlit
     have hlen:=hx.len
     have htop:=hx.top
     obtain⟨r8,e8,⟨f1,x1,sa1,no1⟩⟩:=hrec l L' S' f (ZqF hD hli (hvar l hv)) hx.good (by omega) htop ⟨by omega,by omega⟩
     rw[Zc (by simp;omega),Zb ⟨by omega,by simp;omega⟩,Xab,el,Zmy (by omega),Ze,Zb (by simp[Zl];omega),e8,Ze]
     cases hok:r8.1 with
     |true=>
      right
      rw[ctt]
      refine⟨_,rfl,⟨⟨by (try dsimp only)<;>omega,by (try dsimp only)<;>omega⟩,hx.trans x1,fun _=>⟨(sa1 hok).1,fun c hcm=>?_⟩,fun h=>(by cases h)⟩⟩
      exact hx.back _ (sa1 hok).2 c hcm
     |false=>
      rw[cff]
      cases hmu:r8.2.2.1 with
      |true=>
       right
       rw[ctt]
       exact⟨_,rfl,⟨⟨by (try dsimp only)<;>omega,by (try dsimp only)<;>omega⟩,hx.trans x1,fun h=>(by cases h),fun _ h=>(by cases h)⟩⟩
      |false=>
       left
       have hno:∀v,Zei L v→agD D v→ZS v l=false:=fun v h1 h2=>by
        cases hb:ZS v l with
        |false=>rfl
        |true=>
         exfalso
         refine no1 hok hmu v (hx.sound v h1) (fun x hxm=>?_)
         rcases List.mem_append.1 hxm with h|h
         ·exact h2 x h
         ·rw[Xah]at h;rw[h];exact hb
       rw[cff,Zf (by omega) (by omega)]
       refine⟨_,rfl,⟨n+1,by simp,by omega,⟨by (try dsimp only)<;>omega,by (try dsimp only)<;>omega⟩,rfl,hx.trans x1,fun _=>?_,fun h2=>?_⟩,by (try dsimp only)<;>omega⟩
       ·rcases hnl with⟨rfl,rfl⟩|⟨rfl,rfl⟩
        ·exact hno
        ·exact g1 (by omega)
       ·rcases hnl with⟨rfl,rfl⟩|⟨rfl,rfl⟩
        ·omega
        ·exact hno
    ·right
     have hn2:n=2:=by omega
     rw[Zd (by simp;omega)]
     unfold Zdl
     dsimp only
     have hno:∀v,Zei L v→¬agD D v:=fun v h1 h2=>by
      have a1:=g1 (by omega) v h1 h2
      have a2:=g2 (by omega) v h1 h2
      rw[Zpt (by omega),a1]at a2
      cases a2
     by_cases q3:1000≤(S'.length:Int)
     ·rw[Zc q3]
      exact⟨_,rfl,⟨⟨by (try dsimp only)<;>omega,by (try dsimp only)<;>omega⟩,hx,fun h=>(by cases h),fun _ h=>(by cases h)⟩⟩
     ·rw[Zd q3]
      obtain⟨r,e,hr⟩:=failed f L' S' hf' hx (by omega) hno
      rw[e]
      exact⟨_,rfl,hr⟩
  ·rw[Zd (by omega)]
   exact failed _ L S ⟨by omega,by omega⟩ (Ext.refl hL hS) (by omega) (fun v h1 h2=>hk v (p2 v h2) h1)
 obtain⟨r,er,hr⟩:=tail
 refine⟨r,?_,hr⟩
 refine ZK (f:=Zbh D fuel false L S rec_) (fun s:Int×List Int=>∃n:Nat,s.1=n∧n≤D.length∧s.2=Zd7 D n) (fun s=>D.length - s.1.toNat) (fun _=>r) ?_ _ ⟨0,rfl,Nat.zero_le _,rfl⟩
 rintro⟨s,o⟩ ⟨n,hs,hn,ho⟩
 dsimp only at hs ho ⊢
 subst hs
 subst ho
 unfold Zbh
 dsimp only
 rcases Xag n D.length with h1|h1
 ·left
  have hlit:=Zz.1 (hD.1 _ (ZA (l:=D) (i:=n) (d:=0) h1))
  have h12:=(Zj0 hD n hn).1.1
  have hvv:vof (D.getD n 0)=if 0<D.getD n 0 then D.getD n 0 else 0 - D.getD n 0:=by unfold vof;split<;>omega
  refine⟨((n:Int)+1,Zd7 D (n+1)),?_,⟨n+1,by simp,by omega,rfl⟩,by (try dsimp only)<;>omega,rfl⟩
  rw[Zc (by omega),Zb ⟨by omega,by omega⟩,Xab,Zef (by omega),Ze]
  have e:Zd7 D (n+1)=ZdO (D.getD n 0) (Zd7 D n):=rfl
  rw[e]
  unfold ZdO
  by_cases q:0<D.getD n 0
  ·rw[if_pos q]at hvv
   rw[hvv,if_pos q,Zf (by omega) (by omega),Zb ⟨by omega,by omega⟩,Zd (by omega),Zf (by omega) (by omega)]
  ·rw[if_neg q]at hvv
   rw[hvv,if_neg q,Zf (by omega) (by omega),Zb ⟨by omega,by omega⟩,Zc (by omega),Zf (by omega) (by omega),Zf (by omega) (by omega),Zb ⟨by omega,by rw[Xam];omega⟩,Zf (by omega) (by omega),List.set_set]
 ·right
  have:n=D.length:=by omega
  subst this
  rw[Zd (by omega),er]
  rfl
theorem ZA5:∀(n:Nat) (D:List Int) (L:Zv) (S:List ZE) (fuel:Int),Zck D→Zbv L→L.length≤400+S.length→S.length≤1000→(0≤fuel∧fuel≤2000)→13≤n+D.length→∃r,ZC n D fuel false L S=some r∧ZfQ D L S fuel r
 |0,D,L,S,fuel,hD,_,_,_,_,hn=>by have:=Zgm hD;omega
 |n+1,D,L,S,fuel,hD,hL,hl,hS,hf,hn=>by
  show ∃r,ZM (ZC n) D fuel false L S=some r∧_
  exact ZCl (fun l L' S' f' h1 h2 h3 h4 h5=>ZA5 n (D++[l]) L' S' f' h1 h2 h3 h4 h5 (by rw[Xal,Xav];omega)) hD hL hl hS hf
end Go.AE.Y
namespace Go.AE.Y
open Go Go.AE
theorem ZtI {S R:Type} (I:S→Prop) {f g:S→Option (S⊕R)} (h:∀s,I s→f s=g s) (hI:∀s s',I s→g s=some (.inl s')→I s'):∀(n:Nat) (s:S),I s→ZcJ f n s=ZcJ g n s
 |0,_,_=>rfl
 |n+1,s,hs=>by
  unfold ZcJ
  rw[h s hs]
  cases hg:g s with
  |none=>rfl
  |some a=>
   cases a with
   |inr r=>rfl
   |inl s'=>exact ZtI I h hI n s' (hI s s' hs hg)
theorem Zwu {S R:Type} (I:S→Prop) {f g:S→Option (S⊕R)} (h:∀s,I s→f s=g s) (hI:∀s s',I s→g s=some (.inl s')→I s') {s:S} (hs:I s):loop f s=loop g s:=by
 cases hg:loop g s with
 |some r=>
  obtain⟨n,hn⟩:=Zhz hg
  exact Zvn (n:=n) (by rw[ZtI I h hI n s hs,hn])
 |none=>
  cases hf:loop f s with
  |none=>rfl
  |some r=>
   obtain⟨n,hn⟩:=Zhz hf
   rw[ZtI I h hI n s hs]at hn
   rw[Zvn hn]at hg
   exact absurd hg (by simp)
theorem ZB2 {S R T Q:Type} (Rel:S→T→Prop) (K:R→Q→Prop) {f:S→Option (S⊕R)} {g:T→Option (T⊕Q)}
  (step:∀s t,Rel s t→∀a b,f s=some a→g t=some b→(∃s' t',a = .inl s'∧b = .inl t'∧Rel s' t')∨(∃r q,a = .inr r∧b = .inr q∧K r q)) :
  ∀(n m:Nat) (s:S) (t:T) (r:R) (q:Q),Rel s t→ZcJ f n s=some r→ZcJ g m t=some q→K r q
 |0,_,_,_,_,_,_,h1,_=>by unfold ZcJ at h1;exact absurd h1 (by simp)
 |n+1,0,_,_,_,_,_,_,h2=>by unfold ZcJ at h2;exact absurd h2 (by simp)
 |n+1,m+1,s,t,r,q,hr,h1,h2=>by
  unfold ZcJ at h1 h2
  cases hf:f s with
  |none=>rw[hf]at h1;exact absurd h1 (by simp)
  |some a=>
   cases hg:g t with
   |none=>rw[hg]at h2;exact absurd h2 (by simp)
   |some b=>
    rw[hf]at h1
    rw[hg]at h2
    rcases step s t hr a b hf hg with⟨s',t',e1,e2,h3⟩|⟨r',q',e1,e2,h3⟩
    ·subst e1
     subst e2
     exact ZB2 Rel K step n m s' t' r q h3 h1 h2
    ·subst e1
     subst e2
     have h4:r'=r:=by simpa using h1
     have h5:q'=q:=by simpa using h2
     rw[←h4,←h5]
     exact h3
theorem ZAI {S R T Q:Type} (Rel:S→T→Prop) (K:R→Q→Prop) {f:S→Option (S⊕R)} {g:T→Option (T⊕Q)}
  (step:∀s t,Rel s t→∀a b,f s=some a→g t=some b→(∃s' t',a = .inl s'∧b = .inl t'∧Rel s' t')∨(∃r q,a = .inr r∧b = .inr q∧K r q))
  {s:S} {t:T} {r:R} {q:Q} (hr:Rel s t) (h1:loop f s=some r) (h2:loop g t=some q):K r q:=by
 obtain⟨n,hn⟩:=Zhz h1
 obtain⟨m,hm⟩:=Zhz h2
 exact ZB2 Rel K step n m s t r q hr hn hm
end Go.AE.Y
namespace Go.AE.Y
open Go Go.AE
set_option maxHeartbeats 400000
theorem Zwv {S R:Type} {f:S→Option (S⊕R)} (Inv:S→Prop) (Q:R→Prop)
  (step:∀s,Inv s→∀a,f s=some a→(∃s',a = .inl s'∧Inv s')∨(∃r,a = .inr r∧Q r)) {s:S} {r:R} (hs:Inv s) (h:loop f s=some r):Q r:=by
 obtain⟨n,hn⟩:=Zhz h
 have key:∀n s,Inv s→ZcJ f n s=some r→Q r:=by
  intro n
  induction n with
  |zero=>intro s _ h1;unfold ZcJ at h1;exact absurd h1 (by simp)
  |succ n ih=>
   intro s hs h1
   unfold ZcJ at h1
   cases hf:f s with
   |none=>rw[hf]at h1;exact absurd h1 (by simp)
   |some a=>
    rw[hf]at h1
    rcases step s hs a hf with⟨s',e,h2⟩|⟨r',e,h2⟩
    ·subst e
     exact ih s' h2 h1
    ·subst e
     have h3:r'=r:=by simpa using h1
     rw[←h3]
     exact h2
 exact key n s hs hn
def subP (p q:List Int):Prop:=∀j,p.getD j 0≠0→q.getD j 0=p.getD j 0
theorem subP.refl (p:List Int):subP p p:=fun _ _=>rfl
theorem subP.trans {p q r:List Int} (a:subP p q) (b:subP q r):subP p r:=fun j h=>by
 have h1:=a j h
 rw[←h1]at h ⊢
 exact b j h
def Zyd (c:List (Int×Int)×Int) (q:List Int):Prop:=0≤ZbU c.1 q c.1.length - c.2∧∀i,i<c.1.length→unZ (c.1.getD i (0,0)).2 q=0→(c.1.getD i (0,0)).1≤ZbU c.1 q c.1.length - c.2
def ZCX (L:Zv) (q:List Int):Prop:=∀c∈L,Zyd c q
def ZuM (c:List (Int×Int)×Int) (p:List Int) (t:Int×Int):Bool:=decide (unZ t.2 p=0)&&decide (ZbU c.1 p c.1.length - c.2<t.1)
def Zsa (c:List (Int×Int)×Int) (p:List Int):List Int:=(c.1.filter (ZuM c p)).map (fun t=>t.2)
theorem ZBz {c:List (Int×Int)×Int} {p:List Int} (hc:ZG c=true) (hl:c.1.length≤1048576) (hp:OkP p):Zcg c p=some (Zsa c p):=by
 obtain⟨c1,c2⟩:=ZdM hc
 unfold Zcg
 rw[ZgD hc hl hp,Ze]
 refine ZK (f:=Zce c p (ZbU c.1 p c.1.length - c.2)) (fun s:Int×List Int=>∃n:Nat,s.1=n∧n≤c.1.length∧s.2.length≤n∧s.2=((c.1.take n).filter (ZuM c p)).map (fun t=>t.2)) (fun s=>c.1.length - s.1.toNat) (fun _=>Zsa c p) ?_ _ ⟨0,rfl,Nat.zero_le _,Nat.le_refl _,rfl⟩
 rintro⟨s,o⟩ ⟨n,hs,hn,ho,hall⟩
 dsimp only at hs ho hall ⊢
 subst hs
 unfold Zce
 dsimp only
 rcases Xag n c.1.length with h1|h1
 ·left
  obtain⟨l1,l2,l3⟩:=c2 n h1
  rw[Zc (by omega),Zb ⟨by omega,by omega⟩,Xab,ZoA l1 hp,Ze]
  have hsn:((c.1.take (n+1)).filter (ZuM c p)).map (fun t=>t.2)=o++(bif ZuM c p (c.1.getD n (0,0))then[(c.1.getD n (0,0)).2]else[]):=by
   rw[ZeE (0,0) h1,List.filter_append,Xa1,hall]
   congr 1
   cases hq:ZuM c p (c.1.getD n (0,0))with
   |true=>rw[Xa8 hq,ctt];rfl
   |false=>rw[Xa7 (by rw[hq];decide),cff];rfl
  by_cases q:unZ (c.1.getD n (0,0)).2 p=0
  ·rw[Zx q]
   by_cases q2:ZbU c.1 p c.1.length - c.2<(c.1.getD n (0,0)).1
   ·rw[Zc q2,Zb (by simp[Zl];omega),Zf (by omega) (by omega)]
    refine⟨_,rfl,⟨n+1,by simp,by omega,by simp;omega,?_⟩,by (try dsimp only)<;>omega,rfl⟩
    rw[hsn]
    unfold ZuM
    rw[Xad q,Xad q2]
    rfl
   ·rw[Zd q2,Zf (by omega) (by omega)]
    refine⟨_,rfl,⟨n+1,by simp,by omega,by (try dsimp only)<;>omega,?_⟩,by (try dsimp only)<;>omega,rfl⟩
    rw[hsn]
    unfold ZuM
    rw[decide_eq_false q2,XaW,cff,Xaz]
  ·rw[Zu q,Zf (by omega) (by omega)]
   refine⟨_,rfl,⟨n+1,by simp,by omega,by (try dsimp only)<;>omega,?_⟩,by (try dsimp only)<;>omega,rfl⟩
   rw[hsn]
   unfold ZuM
   rw[decide_eq_false q,Xai,cff,Xaz]
 ·right
  have:n=c.1.length:=by omega
  subst this
  rw[Zd (by omega),hall,XaC]
  rfl
theorem ZF0 {c:List (Int×Int)×Int} {p:List Int} {l:Int} (h:l∈Zsa c p):∃i,i<c.1.length∧(c.1.getD i (0,0)).2=l∧unZ l p=0∧ZbU c.1 p c.1.length - c.2<(c.1.getD i (0,0)).1:=by
 unfold Zsa at h
 obtain⟨t,ht,rfl⟩:=XaF.1 h
 obtain⟨h1,h2⟩:=XaM.1 ht
 obtain⟨i,hi,rfl⟩:=Xan.1 h1
 have e:c.1.getD i (0,0)=c.1[i]:=by rw[Xaa,Xac hi];rfl
 unfold ZuM at h2
 rw[Xae,Xaf,Xaf]at h2
 exact⟨i,hi,by rw[e],h2.1,by rw[e];exact h2.2⟩
theorem ZMg {c:List (Int×Int)×Int} {p:List Int} (h:Zsa c p=[]) (h0:0≤ZbU c.1 p c.1.length - c.2):Zyd c p:=by
 refine⟨h0,fun i hi hu=>?_⟩
 rcases Int.lt_or_le (ZbU c.1 p c.1.length - c.2) (c.1.getD i (0,0)).1 with q|q
 ·exfalso
  have hm:=ZA (l:=c.1) (i:=i) (d:=(0,0)) hi
  have:(c.1.getD i (0,0)).2∈Zsa c p:=XaF.2 ⟨_,XaM.2 ⟨hm,by unfold ZuM;rw[Xad hu,Xad q];rfl⟩,rfl⟩
  rw[h]at this
  exact absurd this Xay
 ·exact q
def Zoo (r:List Int) (o:List Int):List Int:=r.foldl (fun o l=>ZdO l o) o
theorem ZHR (r:List Int) (l:Int) (o:List Int):Zoo (r++[l]) o=ZdO l (Zoo r o):=by
 unfold Zoo
 rw[Xa6]
 rfl
theorem ZEd {r:List Int}:∀{o:List Int},(∀l∈r,ZZ l=true)→OkP o→OkP (Zoo r o):=by
 induction r with
 |nil=>intro o _ h;exact h
 |cons l r ih=>intro o hl h;exact ih (fun x hx=>hl x (Xao _ hx)) (ZqR (hl l Xas) h).1
theorem ZDt {l:Int} (h:l<0):vof l=0 - l:=by unfold vof;omega
theorem ZDu {l:Int} (h:¬l<0):vof l=l:=by unfold vof;omega
theorem ZG4 {l:Int} {p:List Int} (_hl:ZZ l=true):unZ l p=0↔p.getD (vof l - 1).toNat 0=0:=by
 unfold unZ
 by_cases q:l<0
 ·rw[if_pos q,ZDt q]
  omega
 ·rw[if_neg q,ZDu q]
theorem ZHQ {r:List Int} {p:List Int}:∀{o:List Int},(∀l∈r,ZZ l=true∧unZ l p=0)→OkP o→subP p o→subP p (Zoo r o):=by
 induction r with
 |nil=>intro o _ _ h;exact h
 |cons l r ih=>
  intro o hl ho h
  have h0:=hl l Xas
  obtain⟨s1,_,_,_,_,s6⟩:=ZqR h0.1 ho
  refine ih (fun x hx=>hl x (Xao _ hx)) s1 (fun j hj=>?_)
  rw[s6,if_neg (fun e=>?_),h j hj]
  have:=(ZG4 h0.1).1 h0.2
  rw[show (vof l - 1).toNat=j by omega]at this
  exact hj this
theorem Zy1 {r:List Int} {q:List Int}:∀{o:List Int},(∀l∈r,ZZ l=true∧0<unZ l q)→OkP o→OkP q→subP o q→subP (Zoo r o) q:=by
 induction r with
 |nil=>intro o _ _ _ h;exact h
 |cons l r ih=>
  intro o hl ho hq h
  have h0:=hl l Xas
  have hlit:=Zz.1 h0.1
  obtain⟨s1,_,_,_,_,s6⟩:=ZqR h0.1 ho
  refine ih (fun x hx=>hl x (Xao _ hx)) s1 hq (fun j hj=>?_)
  rw[s6]at hj ⊢
  by_cases e:(j:Int)+1=vof l
  ·rw[if_pos e]
   have h2:=h0.2
   unfold unZ at h2
   have h3:=hq.2 j
   by_cases q1:0<l
   ·rw[if_pos q1]
    rw[if_neg (show ¬l<0 by omega)]at h2
    rw[ZDu (show ¬l<0 by omega)]at e
    rw[show (l - 1).toNat=j by omega]at h2
    omega
   ·rw[if_neg q1]
    rw[if_pos (show l<0 by omega)]at h2
    rw[ZDt (show l<0 by omega)]at e
    rw[show (0 - l - 1).toNat=j by omega]at h2
    omega
  ·rw[if_neg e]at hj ⊢
   exact h j hj
theorem ZMr {o r:List Int} (hp:OkP o) (hr:r.length≤1048576) (hl:∀l∈r,ZZ l=true) (m:Bool) {i:Int} (hi:0≤i∧i≤2000000) :
  loop (ZcI i r) (m,(0:Int),o)=some (.inl (m||decide (r≠[]),i+1,Zoo r o)):=by
 refine ZK (f:=ZcI i r) (fun s:Bool×Int×List Int=>∃n:Nat,s.2.1=n∧n≤r.length∧OkP s.2.2∧s.2.2=Zoo (r.take n) o∧s.1=(m||decide (0<n))) (fun s=>r.length - s.2.1.toNat) (fun _=>(.inl (m||decide (r≠[]),i+1,Zoo r o))) ?_ _ ⟨0,rfl,Nat.zero_le _,hp,rfl,by simp⟩
 rintro⟨md,s,x⟩ ⟨n,hs,hn,ho,hx,hm⟩
 dsimp only at hs ho hx hm ⊢
 subst hs
 unfold ZcI
 dsimp only
 rcases Xag n r.length with h1|h1
 ·left
  have l1:=hl _ (ZA (l:=r) (i:=n) (d:=0) h1)
  have hlit:=Zz.1 l1
  have ho12:=ho.1
  rw[Zc (by omega),Zb ⟨by omega,by omega⟩,Xab]
  refine⟨(true,(n:Int)+1,ZdO (r.getD n 0) x),?_,⟨n+1,by simp,by omega,(ZqR l1 ho).1,?_,by simp⟩,by (try dsimp only)<;>omega,rfl⟩
  ·unfold ZdO
   by_cases q:0<r.getD n 0
   ·rw[Zc q,if_pos q,Zf (by omega) (by omega),Zb ⟨by omega,by omega⟩,Zf (by omega) (by omega)]
   ·rw[Zd q,if_neg q,Zf (by omega) (by omega),Zf (by omega) (by omega),Zb ⟨by omega,by omega⟩,Zf (by omega) (by omega)]
  ·dsimp only
   rw[ZeE 0 h1,ZHR,←hx]
 ·right
  have hnn:n=r.length:=by omega
  rw[Zd (by omega),Zf (by omega) (by omega),hx,hm,hnn,XaC]
  congr 4
  rw[show decide (0<r.length)=decide (r≠[]) from decide_eq_decide.2 (by rw[List.length_pos_iff])]
theorem ZNi {l:Int} {p q:List Int} (hl:ZZ l=true) (h:subP p q) (h0:unZ l p≠0):unZ l q=unZ l p:=by
 have h1:p.getD (vof l - 1).toNat 0≠0:=fun e=>h0 ((ZG4 hl).2 e)
 have h2:=h _ h1
 have h3:=Zz.1 hl
 unfold unZ
 by_cases q1:l<0
 ·rw[ZDt q1]at h2
  rw[if_pos q1,if_pos q1,h2]
 ·rw[ZDu q1]at h2
  rw[if_neg q1,if_neg q1,h2]
theorem ZGL {c:List (Int×Int)×Int} {p q:List Int} (hc:ZG c=true) (h:subP p q):∀n,n≤c.1.length→ZbU c.1 q n≤ZbU c.1 p n∧∀i,i<n→0≤unZ (c.1.getD i (0,0)).2 p→unZ (c.1.getD i (0,0)).2 q<0→ZbU c.1 q n+(c.1.getD i (0,0)).1≤ZbU c.1 p n
 |0,_=>⟨Xat _,fun i hi=>by omega⟩
 |n+1,hn=>by
  obtain⟨ih1,ih2⟩:=ZGL hc h n (by omega)
  obtain⟨l1,l2,l3⟩:=(ZdM hc).2 n (by omega)
  have e:∀p,ZbU c.1 p (n+1)=ZbU c.1 p n+(if 0≤unZ (c.1.getD n (0,0)).2 p then(c.1.getD n (0,0)).1 else 0):=fun _=>rfl
  rw[e p,e q]
  have hs:¬0≤unZ (c.1.getD n (0,0)).2 p→¬0≤unZ (c.1.getD n (0,0)).2 q:=fun h1=>by
   rw[ZNi l1 h (by omega)]
   exact h1
  refine⟨?_,fun i hi h1 h2=>?_⟩
  ·by_cases q1:0≤unZ (c.1.getD n (0,0)).2 p
   ·rw[if_pos q1]
    split<;>omega
   ·rw[if_neg q1,if_neg (hs q1)]
    omega
  ·rcases Xag i n with h3|h3
   ·have:=ih2 i h3 h1 h2
    by_cases q1:0≤unZ (c.1.getD n (0,0)).2 p
    ·rw[if_pos q1]
     split<;>omega
    ·rw[if_neg q1,if_neg (hs q1)]
     omega
   ·have:i=n:=by omega
    subst this
    rw[if_pos h1,if_neg (by omega)]
    omega
theorem ZKv {c:List (Int×Int)×Int} {p q:List Int} (hc:ZG c=true) (h:subP p q) (hf:Zyd c q):0≤ZbU c.1 p c.1.length - c.2∧∀l∈Zsa c p,ZZ l=true∧0<unZ l q:=by
 obtain⟨m1,m2⟩:=ZGL hc h c.1.length (Nat.le_refl _)
 refine⟨by have:=hf.1;omega,fun l hl=>?_⟩
 obtain⟨i,hi,rfl,hu,hs⟩:=ZF0 hl
 obtain⟨l1,l2,l3⟩:=(ZdM hc).2 i hi
 refine⟨l1,?_⟩
 rcases Int.lt_trichotomy (unZ (c.1.getD i (0,0)).2 q) 0 with q1|q1|q1
 ·have:=m2 i hi (by omega) q1
  have:=hf.1
  omega
 ·have:=hf.2 i hi q1
  omega
 ·exact q1
theorem Zwj {c:List (Int×Int)×Int} {p:List Int} (hc:ZG c=true):∀l∈Zsa c p,ZZ l=true∧unZ l p=0:=fun l hl=>by
 obtain⟨i,hi,rfl,hu,_⟩:=ZF0 hl
 exact⟨((ZdM hc).2 i hi).1,hu⟩
theorem ZMf {c:List (Int×Int)×Int} {p:List Int}:(Zsa c p).length≤c.1.length:=by
 unfold Zsa
 rw[Xak]
 exact XbK _ _
theorem ZB0 {L:Zv} (hL:Zbv L) (hl:L.length≤1048576) {md:Bool} {n:Nat} {o:List Int} (ho:OkP o) (hn:n≤L.length) :
  ZbP L (md,(n:Int),o)=some (if n<L.length then(if ZbU (L.getD n ([],0)).1 o (L.getD n ([],0)).1.length - (L.getD n ([],0)).2<0 then .inr (.inr ((n:Int),o))else .inl (md||decide (Zsa (L.getD n ([],0)) o≠[]),(n:Int)+1,Zoo (Zsa (L.getD n ([],0)) o) o))else .inr (.inl (md,o))):=by
 unfold ZbP
 dsimp only
 by_cases h1:n<L.length
 ·have hmem:=ZA (l:=L) (i:=n) (d:=([],0)) h1
  obtain⟨g1,g2⟩:=hL _ hmem
  rw[Zc (by omega),Zb ⟨by omega,by omega⟩,Xab,ZgD g1 g2 ho,Ze,if_pos h1]
  by_cases q:ZbU (L.getD n ([],0)).1 o (L.getD n ([],0)).1.length - (L.getD n ([],0)).2<0
  ·rw[Zc q,if_pos q]
  ·rw[Zd q,if_neg q,ZBz g1 g2 ho,Ze,ZMr ho (XbO ZMf g2) (fun l h=>(Zwj g1 l h).1) md ⟨by omega,by omega⟩]
 ·rw[Zd (by omega),if_neg h1]
theorem ZMs {L:Zv} {p:List Int} {r:Int×List Int} (hL:Zbv L) (hl:L.length≤1048576) (hp:OkP p) (h:ZbO L p=some r) (h0:r.1<0):OkP r.2∧subP p r.2∧ZCX L r.2:=by
 unfold ZbO at h
 rw[Zmy (by have:=hp.1;omega),Ze]at h
 have key:=Zwv (f:=ZcH L) (fun s:Bool×List Int=>OkP s.2∧subP p s.2∧(s.1=false→ZCX L s.2)) (fun r=>r.1<0→OkP r.2∧subP p r.2∧ZCX L r.2) ?_ (s:=(true,p)) (r:=r) ⟨hp,subP.refl p,fun h=>by cases h⟩ h
 ·exact key h0
 rintro⟨md,o⟩ ⟨ho,hs,hk⟩ a ha
 dsimp only at ho hs hk
 unfold ZcH at ha
 dsimp only at ha
 cases md with
 |false=>
  rw[cff]at ha
  right
  injection ha with ha
  exact⟨_,ha.symm,fun _=>⟨ho,hs,hk rfl⟩⟩
 |true=>
  rw[ctt]at ha
  have ZBA:=Zwv (f:=ZbP L) (fun s:Bool×Int×List Int=>∃n:Nat,s.2.1=n∧n≤L.length∧OkP s.2.2∧subP o s.2.2∧(s.1=false→s.2.2=o∧∀k,k<n→Zyd (L.getD k ([],0)) o))
   (fun a=>(∃md out,a = .inl (md,out)∧OkP out∧subP o out∧(md=false→ZCX L out))∨(∃i out,a = .inr (i,out)∧0≤i)) ?_ (s:=(false,(0:Int),o)) (r:=a) ⟨0,rfl,Nat.zero_le _,ho,subP.refl o,fun _=>⟨rfl,fun k hk=>by omega⟩⟩ ha
  ·rcases ZBA with⟨md,out,rfl,q1,q2,q3⟩|⟨i,out,rfl,q1⟩
   ·exact Or.inl ⟨_,rfl,q1,hs.trans q2,q3⟩
   ·exact Or.inr ⟨_,rfl,fun h=>absurd h (by (try dsimp only)<;>omega)⟩
  rintro⟨md,s,x⟩ ⟨n,e,hn,hx,hsx,hkx⟩ a ha
  dsimp only at e hx hsx hkx
  subst e
  rw[ZB0 hL hl hx hn]at ha
  injection ha with ha
  by_cases h1:n<L.length
  ·rw[if_pos h1]at ha
   have hmem:=ZA (l:=L) (i:=n) (d:=([],0)) h1
   obtain⟨g1,g2⟩:=hL _ hmem
   by_cases q:ZbU (L.getD n ([],0)).1 x (L.getD n ([],0)).1.length - (L.getD n ([],0)).2<0
   ·rw[if_pos q]at ha
    exact Or.inr ⟨_,ha.symm,Or.inr ⟨_,_,rfl,by omega⟩⟩
   ·rw[if_neg q]at ha
    refine Or.inl ⟨_,ha.symm,n+1,by simp,by omega,ZEd (fun l h=>(Zwj g1 l h).1) hx,hsx.trans (ZHQ (Zwj g1) hx (subP.refl x)),fun hf=>?_⟩
    dsimp only at hf ⊢
    rw[Xbh,decide_eq_false_iff_not,Classical.not_not]at hf
    obtain⟨k1,k2⟩:=hkx hf.1
    rw[hf.2]
    refine⟨k1,fun k hk=>?_⟩
    rcases Xag k n with h2|h2
    ·exact k2 k h2
    ·have:k=n:=by omega
     subst this
     rw[←k1]
     exact ZMg hf.2 (by omega)
  ·rw[if_neg h1]at ha
   refine Or.inr ⟨_,ha.symm,Or.inl ⟨_,_,rfl,hx,hsx,fun hf=>?_⟩⟩
   obtain⟨k1,k2⟩:=hkx hf
   rw[k1]
   intro c hc
   obtain⟨k,hk,rfl⟩:=Xan.1 hc
   have:=k2 k (by omega)
   rwa [Xaa,Xac hk]at this
theorem ZJS {L:Zv} {p q:List Int} {r:Int×List Int} (hL:Zbv L) (hl:L.length≤1048576) (hp:OkP p) (hq:OkP q) (hf:ZCX L q) (hs:subP p q) (h:ZbO L p=some r):r.1<0:=by
 unfold ZbO at h
 rw[Zmy (by have:=hp.1;omega),Ze]at h
 refine Zwv (f:=ZcH L) (fun s:Bool×List Int=>OkP s.2∧subP s.2 q) (fun r=>r.1<0) ?_ (s:=(true,p)) (r:=r) ⟨hp,hs⟩ h
 rintro⟨md,o⟩ ⟨ho,hs⟩ a ha
 dsimp only at ho hs
 unfold ZcH at ha
 dsimp only at ha
 cases md with
 |false=>
  rw[cff]at ha
  right
  injection ha with ha
  exact⟨_,ha.symm,by show (-1:Int)<0;decide⟩
 |true=>
  rw[ctt]at ha
  have ZBA:=Zwv (f:=ZbP L) (fun s:Bool×Int×List Int=>∃n:Nat,s.2.1=n∧n≤L.length∧OkP s.2.2∧subP s.2.2 q)
   (fun a=>∃md out,a = .inl (md,out)∧OkP out∧subP out q) ?_ (s:=(false,(0:Int),o)) (r:=a) ⟨0,rfl,Nat.zero_le _,ho,hs⟩ ha
  ·obtain⟨md,out,rfl,q1,q2⟩:=ZBA
   exact Or.inl ⟨_,rfl,q1,q2⟩
  rintro⟨md,s,x⟩ ⟨n,e,hn,hx,hsx⟩ a ha
  dsimp only at e hx hsx
  subst e
  rw[ZB0 hL hl hx hn]at ha
  injection ha with ha
  by_cases h1:n<L.length
  ·rw[if_pos h1]at ha
   have hmem:=ZA (l:=L) (i:=n) (d:=([],0)) h1
   obtain⟨g1,g2⟩:=hL _ hmem
   obtain⟨i1,i2⟩:=ZKv g1 hsx (hf _ hmem)
   rw[if_neg (by omega)]at ha
   exact Or.inl ⟨_,ha.symm,n+1,by simp,by omega,ZEd (fun l h=>(Zwj g1 l h).1) hx,Zy1 i2 hx hq hsx⟩
  ·rw[if_neg h1]at ha
   exact Or.inr ⟨_,ha.symm,_,_,rfl,hx,hsx⟩
end Go.AE.Y
namespace Go.AE.Y
open Go Go.AE
set_option maxHeartbeats 400000
theorem Zsh {l:Int} {p:List Int} (hl:ZZ l=true) (hp:OkP p):Zm9 p l=some (unZ l p):=by
 have h:=Zz.1 hl
 obtain⟨h12,hv⟩:=hp
 unfold Zm9 unZ
 by_cases q:0<l
 ·rw[Zc q,if_neg (by omega),Zf (by omega) (by omega),Zb ⟨by omega,by omega⟩]
 ·have:=hv (0 - l - 1).toNat
  rw[Zd q,if_pos (by omega),Zf (by omega) (by omega),Zf (by omega) (by omega),Zb ⟨by omega,by omega⟩,Zf (by omega) (by omega)]
theorem Zo8 {l:Int} {p:List Int} (hl:ZZ l=true) (hp:OkP p):ZgH l p=some (ZdO l p):=by
 have h:=Zz.1 hl
 have h12:=hp.1
 unfold ZgH ZdO
 by_cases q:0<l
 ·rw[Zc q,if_pos q,Zf (by omega) (by omega),Zb ⟨by omega,by omega⟩]
 ·rw[Zd q,if_neg q,Zf (by omega) (by omega),Zf (by omega) (by omega),Zb ⟨by omega,by omega⟩]
theorem ZoI {c:List (Int×Int)×Int} {p:List Int} (hc:ZG c=true) (hl:c.1.length≤1048576) (hp:OkP p):Zm8 c p=some (ZbU c.1 p c.1.length - c.2):=by
 obtain⟨c1,c2⟩:=ZdM hc
 unfold Zm8
 rw[Zf (by omega) (by omega)]
 refine ZK (f:=Zmj c p) (fun s:Int×Int=>∃n:Nat,s.2=n∧n≤c.1.length∧s.1=ZbU c.1 p n - c.2) (fun s=>c.1.length - s.2.toNat) (fun _=>ZbU c.1 p c.1.length - c.2) ?_ _ ⟨0,rfl,Nat.zero_le _,by show 0 - c.2=0 - c.2;rfl⟩
 rintro⟨o,s⟩ ⟨n,hs,hn,ho⟩
 dsimp only at hs ho ⊢
 subst hs
 subst ho
 have hb:=ZwM hc p n hn
 unfold Zmj
 dsimp only
 rcases Xag n c.1.length with h1|h1
 ·left
  obtain⟨l1,l2,l3⟩:=c2 n h1
  rw[Zc (by omega),Zb ⟨by omega,by omega⟩,Xab,Zsh l1 hp,Ze]
  by_cases q:0≤unZ (c.1.getD n (0,0)).2 p
  ·rw[Zc q,Zb ⟨by omega,by omega⟩,Zf (by omega) (by omega),Zf (by omega) (by omega)]
   refine⟨_,rfl,⟨n+1,by simp,by omega,?_⟩,by (try dsimp only)<;>omega,rfl⟩
   dsimp only
   conv=>rhs;unfold ZbU
   rw[if_pos q]
   omega
  ·rw[Zd q,Zf (by omega) (by omega)]
   refine⟨_,rfl,⟨n+1,by simp,by omega,?_⟩,by (try dsimp only)<;>omega,rfl⟩
   dsimp only
   conv=>rhs;unfold ZbU
   rw[if_neg q]
   omega
 ·right
  have:n=c.1.length:=by omega
  rw[Zd (by omega),this]
theorem ZCa {c:List (Int×Int)×Int} {p:List Int} (hc:ZG c=true) (hl:c.1.length≤1048576) (hp:OkP p):∃o,ZhG c p=some o∧o.length≤1048576∧∀l∈o,ZZ l=true∧unZ l p=0∧∀v,agP p v→ZY v c=true→ZS v l=true:=by
 obtain⟨c1,c2⟩:=ZdM hc
 unfold ZhG
 rw[ZoI hc hl hp,Ze]
 refine Zb9 (f:=ZgX c p (ZbU c.1 p c.1.length - c.2)) (fun s:Int×List Int=>∃n:Nat,s.1=n∧n≤c.1.length∧s.2.length≤n∧∀l∈s.2,ZZ l=true∧unZ l p=0∧∀v,agP p v→ZY v c=true→ZS v l=true) (fun s=>c.1.length - s.1.toNat) (fun o=>o.length≤1048576∧∀l∈o,ZZ l=true∧unZ l p=0∧∀v,agP p v→ZY v c=true→ZS v l=true) ?_ _ ⟨0,rfl,Nat.zero_le _,Nat.le_refl _,fun l h=>absurd h Xay⟩
 rintro⟨s,o⟩ ⟨n,hs,hn,ho,hall⟩
 dsimp only at hs ho hall ⊢
 subst hs
 unfold ZgX
 dsimp only
 rcases Xag n c.1.length with h1|h1
 ·obtain⟨l1,l2,l3⟩:=c2 n h1
  by_cases q0:0≤ZbU c.1 p c.1.length - c.2
  case neg=>
   right
   rw[Zc (by omega),Zd q0]
   exact⟨_,rfl,by omega,hall⟩
  left
  rw[Zc (by omega),Zc q0,Zb ⟨by omega,by omega⟩,Xab,Zsh l1 hp,Ze]
  by_cases q:unZ (c.1.getD n (0,0)).2 p=0
  ·rw[Zx q,Zb ⟨by omega,by omega⟩]
   by_cases q2:ZbU c.1 p c.1.length - c.2<(c.1.getD n (0,0)).1
   ·rw[Zc q2,Zb ⟨by omega,by omega⟩,Zb (by simp[Zl];omega),Zf (by omega) (by omega)]
    refine⟨_,rfl,⟨n+1,by simp,by omega,by simp;omega,fun l h=>?_⟩,by (try dsimp only)<;>omega⟩
    rcases List.mem_append.1 h with h|h
    ·exact hall l h
    ·rw[Xah]at h
     subst h
     refine⟨l1,q,fun v ha he=>?_⟩
     cases hb:ZS v (c.1.getD n (0,0)).2 with
     |true=>rfl
     |false=>
      have:=(Zzx hc hp ha c.1.length (Nat.le_refl _)).2 n h1 (by omega) hb
      have:=(Zuk v c).1 he
      omega
   ·rw[Zd q2,Zf (by omega) (by omega)]
    exact⟨_,rfl,⟨n+1,by simp,by omega,by (try dsimp only)<;>omega,hall⟩,by (try dsimp only)<;>omega⟩
  ·rw[Zu q,Zf (by omega) (by omega)]
   exact⟨_,rfl,⟨n+1,by simp,by omega,by (try dsimp only)<;>omega,hall⟩,by (try dsimp only)<;>omega⟩
 ·right
  rw[Zd (by omega)]
  exact⟨_,rfl,by omega,hall⟩
theorem ZKZ {c:List (Int×Int)×Int} {o5 r9:List Int} (hp:OkP o5) (hr:r9.length≤1048576) (h9:∀l∈r9,ZZ l=true∧unZ l o5=0∧∀v,agP o5 v→ZY v c=true→ZS v l=true) (m4:Bool) {i3:Int} (hi:0≤i3∧i3≤2000000) :
  ∃md out,loop (ZdW i3 r9) (m4,(0:Int),o5)=some (.inl (md,i3+1,out))∧OkP out∧(∀v,agP o5 v→ZY v c=true→agP out v)∧(∀j,out.getD j 0=0→o5.getD j 0=0)∧((md=m4∧out=o5)∨(md=true∧zcN out 12<zcN o5 12)):=by
 have key:=Zb9 (f:=ZdW i3 r9) (fun s:Bool×Int×List Int=>∃n:Nat,s.2.1=n∧n≤r9.length∧OkP s.2.2∧(∀v,agP o5 v→ZY v c=true→agP s.2.2 v)∧(∀j,s.2.2.getD j 0=0→o5.getD j 0=0)∧((n=0∧s.1=m4∧s.2.2=o5)∨(s.1=true∧zcN s.2.2 12<zcN o5 12))) (fun s=>r9.length - s.2.1.toNat)
  (fun r=>∃md out,r = .inl (md,i3+1,out)∧OkP out∧(∀v,agP o5 v→ZY v c=true→agP out v)∧(∀j,out.getD j 0=0→o5.getD j 0=0)∧((md=m4∧out=o5)∨(md=true∧zcN out 12<zcN o5 12))) ?_ (m4,(0:Int),o5) ⟨0,rfl,Nat.zero_le _,hp,fun v h _=>h,fun j h=>h,Or.inl ⟨rfl,rfl,rfl⟩⟩
 ·obtain⟨r,e,md,out,rfl,h⟩:=key
  exact⟨md,out,e,h⟩
 rintro⟨md,s,o⟩ ⟨n,hs,hn,ho,ha,hz,hc⟩
 dsimp only at hs ho ha hz hc ⊢
 subst hs
 unfold ZdW
 dsimp only
 rcases Xag n r9.length with h1|h1
 ·left
  obtain⟨l1,l2,l3⟩:=h9 _ (ZA (l:=r9) (i:=n) (d:=0) h1)
  have hl:=Zz.1 l1
  obtain⟨s1,s2,s3,s4,s5,_⟩:=ZqR l1 ho
  have ho12:=ho.1
  have hz0:zcN (ZdO (r9.getD n 0) o) 12<zcN o5 12:=by
   rcases hc with⟨h0,_,h2⟩|⟨_,h2⟩
   ·subst h2
    have:=s4 l2
    omega
   ·omega
  have inv:∃n':Nat,((n:Int)+1)=n'∧n'≤r9.length∧OkP (ZdO (r9.getD n 0) o)∧(∀v,agP o5 v→ZY v c=true→agP (ZdO (r9.getD n 0) o) v)∧(∀j,(ZdO (r9.getD n 0) o).getD j 0=0→o5.getD j 0=0)∧((n'=0∧true=m4∧ZdO (r9.getD n 0) o=o5)∨(true=true∧zcN (ZdO (r9.getD n 0) o) 12<zcN o5 12)):=
   ⟨n+1,by simp,by omega,s1,fun v h1 h2=>s2 v (ha v h1 h2) (l3 v h1 h2),fun j h=>hz j (s5 j h),Or.inr ⟨rfl,hz0⟩⟩
  rw[Zc (by omega),Zb ⟨by omega,by omega⟩,Xab]
  refine⟨(true,(n:Int)+1,ZdO (r9.getD n 0) o),?_,inv,by (try dsimp only)<;>omega⟩
  rw[Zo8 l1 ho,Ze,Zf (by omega) (by omega)]
 ·right
  rw[Zd (by omega),Zf (by omega) (by omega)]
  refine⟨_,rfl,md,o,rfl,ho,ha,hz,?_⟩
  rcases hc with⟨_,h2⟩|h2
  ·exact Or.inl h2
  ·exact Or.inr h2
theorem ZKY {L:Zv} {o3:List Int} (hL:Zbv L) (hl:L.length≤1048576) (hp:OkP o3) :
  ∃r,loop (ZdV L) (false,(0:Int),o3)=some r∧((∃md out,r = .inl (md,out)∧Two L o3 out∧((md=false∧out=o3∧Zpy L o3)∨(md=true∧zcN out 12<zcN o3 12)))∨(∃i out,r = .inr (i,out)∧0≤i∧Two L o3 out∧∀v,agP o3 v→¬Zei L v)):=by
 refine Zb9 (f:=ZdV L) (fun s:Bool×Int×List Int=>∃n:Nat,s.2.1=n∧n≤L.length∧Two L o3 s.2.2∧((s.1=false∧s.2.2=o3∧∀k,k<n→0≤ZbU (L.getD k ([],0)).1 o3 (L.getD k ([],0)).1.length - (L.getD k ([],0)).2)∨(s.1=true∧zcN s.2.2 12<zcN o3 12))) (fun s=>L.length - s.2.1.toNat) _ ?_ _ ⟨0,rfl,Nat.zero_le _,⟨hp,fun v h _=>h,fun j h=>h⟩,Or.inl ⟨rfl,rfl,fun k hk=>by omega⟩⟩
 rintro⟨md,s,o⟩ ⟨n,hs,hn,⟨t1,t2,t3⟩,hc⟩
 dsimp only at hs t1 t2 t3 hc ⊢
 subst hs
 unfold ZdV
 dsimp only
 rcases Xag n L.length with h1|h1
 ·have hmem:=ZA (l:=L) (i:=n) (d:=([],0)) h1
  obtain⟨g1,g2⟩:=hL _ hmem
  rw[Zc (by omega),Zb ⟨by omega,by omega⟩,Xab,ZoI g1 g2 t1,Ze]
  by_cases q:ZbU (L.getD n ([],0)).1 o (L.getD n ([],0)).1.length - (L.getD n ([],0)).2<0
  ·right
   rw[Zc q]
   exact⟨_,rfl,Or.inr ⟨n,o,rfl,by omega,⟨t1,t2,t3⟩,fun v ha hs=>Zy5 g1 t1 (t2 v ha hs) q (hs _ hmem)⟩⟩
  ·left
   obtain⟨r9,e9,k1,k2⟩:=ZCa g1 g2 t1
   obtain⟨md',out,e3,u1,u2,u3,u4⟩:=ZKZ t1 k1 k2 md (i3:=(n:Int)) ⟨by omega,by omega⟩
   rw[Zd q,Zb ⟨by omega,by omega⟩,e9,Ze,e3]
   refine⟨_,rfl,⟨n+1,by simp,by omega,⟨u1,fun v ha hs=>u2 v (t2 v ha hs) (hs _ hmem),fun j h=>t3 j (u3 j h)⟩,?_⟩,by (try dsimp only)<;>omega⟩
   dsimp only
   rcases u4 with⟨rfl,rfl⟩|⟨rfl,hz⟩
   ·rcases hc with⟨c1,c2,c3⟩|c
    ·refine Or.inl ⟨c1,c2,fun k hk=>?_⟩
     rcases Xag k n with h2|h2
     ·exact c3 k h2
     ·rw[show k=n by omega,←c2];omega
    ·exact Or.inr c
   ·refine Or.inr ⟨rfl,?_⟩
    rcases hc with⟨c1,c2,c3⟩|c
    ·rw[←c2];exact hz
    ·have:=c.2;omega
 ·right
  have hnn:n=L.length:=by omega
  rw[Zd (by omega)]
  refine⟨_,rfl,Or.inl ⟨md,o,rfl,⟨t1,t2,t3⟩,?_⟩⟩
  rcases hc with⟨c1,c2,c3⟩|c
  ·refine Or.inl ⟨c1,c2,fun x hx=>?_⟩
   obtain⟨k,hk,rfl⟩:=Xan.1 hx
   have:=c3 k (by omega)
   rwa [Xaa,Xac hk]at this
  ·exact Or.inr c
theorem ZzZ {L:Zv} {p:List Int} (hL:Zbv L) (hl:L.length≤1048576) (hp:OkP p) :
  ∃r,ZeS L p=some r∧Two L p r.2∧((r.1 = -1∧Zpy L r.2)∨(0≤r.1∧∀v,agP p v→¬Zei L v)):=by
 unfold ZeS
 refine Zb9 (f:=ZfD L) (fun s:Bool×List Int=>Two L p s.2∧(s.1=false→Zpy L s.2)) (fun s=>bif s.1 then 2*zcN s.2 12+1 else 0) (fun r=>Two L p r.2∧((r.1 = -1∧Zpy L r.2)∨(0≤r.1∧∀v,agP p v→¬Zei L v))) ?_ _ ⟨⟨hp,fun v h _=>h,fun j h=>h⟩,fun h=>by cases h⟩
 rintro⟨md,o⟩ ⟨⟨t1,t2,t3⟩,hk⟩
 dsimp only at t1 t2 t3 hk ⊢
 unfold ZfD
 dsimp only
 cases md with
 |false=>
  right
  rw[cff]
  exact⟨_,rfl,⟨t1,t2,t3⟩,Or.inl ⟨rfl,hk rfl⟩⟩
 |true=>
  rw[ctt]
  obtain⟨r,e,h|h⟩:=ZKY hL hl t1
  ·obtain⟨md',out,rfl,⟨u1,u2,u3⟩,hc⟩:=h
   left
   rw[e]
   refine⟨_,rfl,⟨⟨u1,fun v ha hs=>u2 v (t2 v ha hs) hs,fun j h=>t3 j (u3 j h)⟩,?_⟩,?_⟩
   ·dsimp only
    intro hf
    rcases hc with⟨_,c2,c3⟩|⟨c1,_⟩
    ·rw[c2];exact c3
    ·rw[c1]at hf;cases hf
   ·dsimp only
    rw[ctt]
    rcases hc with⟨c1,_,_⟩|⟨c1,c2⟩
    ·rw[c1,cff];omega
    ·rw[c1,ctt];omega
  ·obtain⟨i,out,rfl,h0,⟨u1,u2,u3⟩,hc⟩:=h
   right
   rw[e]
   exact⟨_,rfl,⟨u1,fun v ha hs=>u2 v (t2 v ha hs) hs,fun j h=>t3 j (u3 j h)⟩,Or.inr ⟨h0,fun v ha hs=>hc v (t2 v ha hs) hs⟩⟩
theorem Zvx {p:List Int} (hp:OkP p):∃r,Zjr p=some r∧(r=0∨∃k:Nat,k<12∧p.getD k 0=0∧r=(k:Int)+1):=by
 have h12:=hp.1
 unfold Zjr
 refine Zb9 (f:=Zkl p) (fun s:Int=>∃n:Nat,s=n∧n≤12) (fun s=>12 - s.toNat) _ ?_ _ ⟨0,rfl,by omega⟩
 rintro s ⟨n,rfl,hn⟩
 unfold Zkl
 rcases Xag n 12 with h1|h1
 ·rw[Zc (by omega),Zb ⟨by omega,by omega⟩,Xab]
  by_cases q:p.getD n 0=0
  ·right
   rw[Zx q,Zf (by omega) (by omega)]
   exact⟨_,rfl,Or.inr ⟨n,h1,q,rfl⟩⟩
  ·left
   rw[Zu q,Zf (by omega) (by omega)]
   exact⟨_,rfl,⟨n+1,by simp,by omega⟩,by omega⟩
 ·right
  rw[Zd (by omega)]
  exact⟨_,rfl,Or.inl rfl⟩
abbrev SR:=Int×Int×List Bool×Zv×List ZE
def Zg7 (S:List ZE):Prop:=∀s∈S,s.2.2.2.1.length≤12
structure SeaOk (L:Zv) (S:List ZE) (fuel:Int) (L':Zv) (S':List ZE) (f':Int):Prop where
 fu:0≤f'∧f'≤fuel
 good:Zbv L'
 len:L'.length+S.length=L.length+S'.length
 top:S'.length≤1000
 few:Zg7 S'
theorem ZGf {D:List Int} {L:Zv} {S:List ZE} {f:Int} (hD:Zck D) (hL:Zbv L) (hl:L.length≤2000) (hS:S.length<1000) (hw:Zg7 S) (hf:0≤f) :
  ∃r,ZdE f D L S=some r∧SeaOk L S f r.2.1 r.2.2 r.1:=by
 have hd:=Zgm hD
 have hlo:=ZlI hD
 have hc:ZiN (Zbe D)=(true,1,Z4 (Zbo (Zbe D))):=by
  unfold ZiN
  rw[hlo,Xad (show (Zbe D).length≤40 by unfold Zbe;rw[Xak];omega)]
  rfl
 have hcon:ZG (Z4 (Zbo (Zbe D)),1)=true:=Zuh (fun x hx=>(ZfV hlo).1 x ((Zhx hlo x).1 hx)) (Zpu hlo)
 have hlf:=ZmZ (Zbe D)
 have hol:(Z4 (Zbo (Zbe D))).length≤12:=by unfold Z4;rw[Xak];exact hlf
 refine⟨(f,L++[(Z4 (Zbo (Zbe D)),1)],S++[((7:Int),((0:Int),((0:Int),(Z4 (Zbo (Zbe D)),(1:Int)))))]),?_,?_⟩
 ·unfold ZdE
  refine(ZbZ (f:=Zdb f D L S) D 0 (fun x=>0 - x) [] (fun _=>(f,L++[(Z4 (Zbo (Zbe D)),1)],S++[((7:Int),((0:Int),((0:Int),(Z4 (Zbo (Zbe D)),(1:Int)))))])) (fun i out hi ho=>?_) ?_)
  ·have:=Zz.1 (hD.1 _ (ZA (l:=D) (i:=i) (d:=0) hi))
   unfold Zdb
   dsimp only
   rw[Zc (by omega),Zb ⟨by omega,by omega⟩,Xab,Zf (by omega) (by omega),Zb (by simp only[Zl,Xaq,Xap];simp at ho;omega),Zf (by omega) (by omega)]
  ·unfold Zdb Zim
   dsimp only
   rw[Zd (by omega),Xau,show D.map (fun x=>0 - x)=Zbe D from rfl,Zk6 _ (by unfold Zbe;rw[Xak];omega),Ze,hc]
   dsimp only
   rw[Zb (by simp[Zl];omega),Zb (by simp[Zl];omega)]
   rfl
 ·refine⟨⟨hf,Xat _⟩,fun c hcm=>?_,by simp;omega,by simp;omega,fun s hs=>?_⟩
  ·rcases List.mem_append.1 hcm with h|h
   ·exact hL c h
   ·rw[Xah]at h
    subst h
    exact⟨hcon,by (try dsimp only)<;>omega⟩
  ·rcases List.mem_append.1 hs with h|h
   ·exact hw s h
   ·rw[Xah]at h
    subst h
    exact hol
theorem SeaOk.trans {L L' L'':Zv} {S S' S'':List ZE} {f f' f'':Int} (a:SeaOk L S f L' S' f') (b:SeaOk L' S' f' L'' S'' f''):SeaOk L S f L'' S'' f'':=
 ⟨⟨b.fu.1,by have:=a.fu;have:=b.fu;omega⟩,b.good,by have:=a.len;have:=b.len;omega,b.top,b.few⟩
theorem ZAc {D:List Int} {L:Zv} {S:List ZE} {fuel:Int} {rec_:Int→List Int→Zv→List ZE→Option SR}
  (hrec:∀(l:Int) (L':Zv) (S':List ZE) (f':Int),Zck (D++[l])→Zbv L'→L'.length≤400+S'.length→S'.length≤1000→Zg7 S'→(0≤f'∧f'≤2000)→∃r,rec_ f' (D++[l]) L' S'=some r∧SeaOk L' S' f' r.2.2.2.1 r.2.2.2.2 r.2.1)
  (hD:Zck D) (hL:Zbv L) (hl:L.length≤400+S.length) (hS:S.length≤1000) (hw:Zg7 S) (hf:0≤fuel∧fuel≤2000):∃r,ZbA rec_ fuel D L S=some r∧SeaOk L S fuel r.2.2.2.1 r.2.2.2.2 r.2.1:=by
 have hd:=Zgm hD
 have same:∀f,(0≤f∧f≤fuel)→SeaOk L S fuel L S f:=fun f h=>⟨h,hL,by omega,hS,hw⟩
 unfold ZbA
 by_cases q1:fuel=0
 ·exact⟨_,by rw[Zx q1],same fuel ⟨hf.1,Xat _⟩⟩
 rw[Zu q1]
 by_cases q2:1000≤(S.length:Int)
 ·exact⟨_,by rw[Zc q2],same fuel ⟨hf.1,Xat _⟩⟩
 rw[Zd q2,Zf (by omega) (by omega),Zb ⟨by omega,by simp only[Zl];omega,rfl⟩]
 obtain⟨p1,p2,p3,p4,p5⟩:=Zj0 hD D.length (Nat.le_refl _)
 have tail:∃r,Zct fuel D L S rec_ (Zd7 D D.length)=some r∧SeaOk L S fuel r.2.2.2.1 r.2.2.2.2 r.2.1:=by
  unfold Zct
  obtain⟨⟨i,out⟩,e1,⟨t1,t2,t3⟩,hc⟩:=ZzZ hL (by omega) p1
  dsimp only at t1 t2 t3 hc
  rw[e1,Ze]
  dsimp only
  rcases hc with⟨rfl,hk⟩|⟨h0,hk⟩
  ·obtain⟨r5,e5,h⟩:=Zvx t1
   rw[Zd (by omega),e5,Ze]
   by_cases q5:r5=0
   ·rw[Zx q5]
    have h12:=t1.1
    refine Zb9 (f:=ZcZ fuel L S (-1,out)) (fun s:Int×List Bool=>∃n:Nat,s.1=n∧n≤12∧s.2.length=n) (fun s=>12 - s.1.toNat) (fun r=>SeaOk L S fuel r.2.2.2.1 r.2.2.2.2 r.2.1) ?_ _ ⟨0,rfl,by omega,rfl⟩
    rintro⟨s,o⟩ ⟨n,hs,hn,ho⟩
    dsimp only at hs ho
    subst hs
    unfold ZcZ
    dsimp only
    rcases Xag n 12 with h1|h1
    ·left
     rw[Zc (by omega),Zb ⟨by omega,by omega⟩,Zb (by simp[Zl];omega),Zf (by omega) (by omega)]
     exact⟨_,rfl,⟨n+1,by simp,by omega,by simp;omega⟩,by (try dsimp only)<;>omega⟩
    ·right
     rw[Zd (by omega)]
     exact⟨_,rfl,same _ ⟨by (try dsimp only)<;>omega,by (try dsimp only)<;>omega⟩⟩
   ·obtain⟨k,hk12,hk0,rfl⟩:=h.resolve_left q5
    rw[Zu q5,Zf (by omega) (by omega)]
    have hvar:∀l:Int,vof l=(k:Int)+1→∀i,i<D.length→vof (D.getD i 0)≠vof l:=fun l hl i hi=>by
     rw[hl]
     exact p3 k (t3 k hk0) i hi
    refine Zb9 (f:=Zet D ((k:Int)+1) rec_) (fun s:Int×Int×Zv×List ZE=>∃n:Nat,s.1=n∧n≤2∧SeaOk L S fuel s.2.2.1 s.2.2.2 s.2.1) (fun s=>2 - s.1.toNat) (fun r=>SeaOk L S fuel r.2.2.2.1 r.2.2.2.2 r.2.1) ?_ _ ⟨0,rfl,by omega,same _ ⟨by (try dsimp only)<;>omega,by (try dsimp only)<;>omega⟩⟩
    rintro⟨s,f,L',S'⟩ ⟨n,hs,hn,hx⟩
    dsimp only at hs hx
    subst hs
    unfold Zet
    dsimp only
    have hlen:=hx.len
    have htop:=hx.top
    have hfu:=hx.fu
    rcases Xag n 2 with h1|h1
    ·have hlit:∃l,[((k:Int)+1),(0 - ((k:Int)+1))].getD n 0=l∧vof l=(k:Int)+1∧ZZ l=true:=by
      have:n=0∨n=1:=by omega
      rcases this with rfl|rfl
      ·exact⟨(k:Int)+1,rfl,by unfold vof;omega,Zz.2 ⟨by omega,by omega,by omega⟩⟩
      ·exact⟨0 - ((k:Int)+1),rfl,by unfold vof;omega,Zz.2 ⟨by omega,by omega,by omega⟩⟩
     obtain⟨l,el,hv,hli⟩:=hlit
     obtain⟨r8,e8,x8⟩:=hrec l L' S' f (ZqF hD hli (hvar l hv)) hx.good (by omega) htop hx.few ⟨by omega,by omega⟩
     rw[Zc (by simp;omega),Zb ⟨by omega,by simp;omega⟩,Zb (by simp[Zl];omega),Zb (by simp[Zl];omega),Xau,Xab,el,e8,Ze]
     unfold Zhm
     dsimp only
     by_cases q:r8.1=2
     ·left
      rw[Zdh q,Zf (by omega) (by omega)]
      exact⟨_,rfl,⟨n+1,by simp,by omega,hx.trans x8⟩,by (try dsimp only)<;>omega⟩
     ·right
      rw[Zd9 q]
      exact⟨_,rfl,hx.trans x8⟩
    ·right
     rw[Zd (by simp;omega)]
     unfold Zhl
     dsimp only
     by_cases q3:1000≤(S'.length:Int)
     ·rw[Zc q3]
      exact⟨_,rfl,hx⟩
     ·obtain⟨r,e,hr⟩:=ZGf (f:=f) hD hx.good (by omega) (by omega) hx.few hfu.1
      rw[Zd q3,e,Ze]
      exact⟨_,rfl,hx.trans hr⟩
  ·obtain⟨r,e,hr⟩:=ZGf (f:=fuel - 1) hD hL (by omega) (by omega) hw (by omega)
   rw[Zc h0,e,Ze]
   exact⟨_,rfl,(same (fuel - 1) ⟨by omega,by omega⟩).trans hr⟩
 obtain⟨r,er,hr⟩:=tail
 refine⟨r,?_,hr⟩
 refine ZK (f:=ZdF fuel D L S rec_) (fun s:Int×List Int=>∃n:Nat,s.1=n∧n≤D.length∧s.2=Zd7 D n) (fun s=>D.length - s.1.toNat) (fun _=>r) ?_ _ ⟨0,rfl,Nat.zero_le _,rfl⟩
 rintro⟨s,o⟩ ⟨n,hs,hn,ho⟩
 dsimp only at hs ho ⊢
 subst hs
 subst ho
 unfold ZdF
 dsimp only
 rcases Xag n D.length with h1|h1
 ·left
  have hli:=hD.1 _ (ZA (l:=D) (i:=n) (d:=0) h1)
  refine⟨((n:Int)+1,Zd7 D (n+1)),?_,⟨n+1,by simp,by omega,rfl⟩,by (try dsimp only)<;>omega,rfl⟩
  rw[Zc (by omega),Zb ⟨by omega,by omega⟩,Xab,Zo8 hli (Zj0 hD n hn).1,Ze,Zf (by omega) (by omega)]
  rfl
 ·right
  have:n=D.length:=by omega
  subst this
  rw[Zd (by omega),er]
  rfl
theorem ZyZ:∀(n:Nat) (D:List Int) (L:Zv) (S:List ZE) (fuel:Int),Zck D→Zbv L→L.length≤400+S.length→S.length≤1000→Zg7 S→(0≤fuel∧fuel≤2000)→13≤n+D.length→∃r,Z9 n fuel D L S=some r∧SeaOk L S fuel r.2.2.2.1 r.2.2.2.2 r.2.1
 |0,D,L,S,fuel,hD,_,_,_,_,_,hn=>by have:=Zgm hD;omega
 |n+1,D,L,S,fuel,hD,hL,hl,hS,hw,hf,hn=>by
  show ∃r,ZbA (Z9 n) fuel D L S=some r∧_
  exact ZAc (fun l L' S' f' h1 h2 h3 h4 h5 h6=>ZyZ n (D++[l]) L' S' f' h1 h2 h3 h4 h5 h6 (by rw[Xal,Xav];omega)) hD hL hl hS hw hf
theorem ZFV (D:List Int) (f:Int) (L:Zv):Zld f D L=ZbA (Z9 64) f D L []:=by
 unfold Zld ZbA
 have e1:Zl1 D=fun r5=>Zet D r5 (Z9 64):=rfl
 have e2:Zin f D L=Zct f D L [] (Z9 64):=by
  unfold Zin Zct
  rw[e1]
  rfl
 have e3:Zio f D L=ZdF f D L [] (Z9 64):=by
  unfold Zio ZdF
  rw[e2]
 rw[e3]
 rfl
end Go.AE.Y
namespace Go.AE.Y
open Go Go.AE
theorem Zz5 (r:List Int→Int→Bool→Zv→Option VR) (D:List Int) (f:Int) (m:Bool) (L:Zv):Zd6 r D f m L=ZM (ZC 64) D f m L []:=by
 unfold Zd6 ZM
 have e1:ZfO D=fun r4=>Zbz D r4 (ZC 64):=rfl
 have e2:Zeo D f m L=ZW D f m L [] (ZC 64):=by
  unfold Zeo ZW
  rw[e1]
  rfl
 have e3:Zep D f m L=Zbh D f m L [] (ZC 64):=by
  unfold Zep Zbh
  rw[e2]
 rw[e3]
 rfl
theorem Zpo (a:Zv) (h:a.length≤1048576):Zbi a=some a:=by
 unfold Zbi
 refine ZyK (fun e=>by rw[e]) ?_
 rw[Zb (by simp only[Xap,Zl];omega),Xau]
end Go.AE.Y
namespace Go.AE.Y
open Go Go.AE
set_option maxHeartbeats 400000
theorem Zvv {α β:Type} {p:Prop} [Decidable p] {m:Option α} {f:α→Option β}:(rq p m).bind f=rq p (m.bind f):=by
 unfold rq
 split<;>rfl
theorem ZyV {α:Type} {p:Prop} [Decidable p] {m:Option α} (h:¬p):rq p m=none:=if_neg h
theorem ZAS {α:Type} {p:Prop} [Decidable p] {m m':Option α} (h:p→m=m'):rq p m=rq p m':=by
 unfold rq
 split
 ·exact h ‹_›
 ·rfl
theorem ZGb {c:List (Int×Int)×Int} {p:List Int} (hc:ZG c=true) (hl:c.1.length≤1048576) (hp:OkP p) (h0:0≤ZbU c.1 p c.1.length - c.2):ZhG c p=Zcg c p:=by
 unfold ZhG Zcg
 rw[ZoI hc hl hp,ZgD hc hl hp,Ze,Ze]
 refine Zwu (fun _=>True) ?_ (fun _ _ _ _=>trivial) trivial
 rintro⟨i,o⟩ -
 unfold ZgX Zce
 dsimp only
 by_cases q:i<(c.1.length:Int)
 ·rw[Zc q,Zc q,Zc h0]
  refine ZAS fun hi=>?_
  have l1:=((ZdM hc).2 i.toNat (by omega)).1
  rw[Zsh l1 hp,ZoA l1 hp,Ze,Ze]
  by_cases z:unZ (c.1.getD i.toNat (0,0)).2 p=0
  ·rw[Zx z,Zx z,Zb hi]
   by_cases y:ZbU c.1 p c.1.length - c.2<(c.1.getD i.toNat (0,0)).1
   ·rw[Zc y,Zc y,Zb hi]
   ·rw[Zd y,Zd y]
  ·rw[Zu z,Zu z]
 ·rw[Zd q,Zd q]
theorem ZJR (i:Int) (r:List Int) (s:Bool×Int×List Int):ZdW i r s=ZcI i r s:=by
 obtain⟨m,k,o⟩:=s
 unfold ZdW ZcI ZgH
 dsimp only
 by_cases q:k<(r.length:Int)
 ·rw[Zc q,Zc q]
  refine ZAS fun hi=>?_
  by_cases z:0<r.getD k.toNat 0
  ·rw[Zc z,Zc z,Zvv,Zvv,Ze]
  ·rw[Zd z,Zd z,Zvv,Zvv,Zvv,Ze]
 ·rw[Zd q,Zd q]
theorem ZJQ {L:Zv} (hL:Zbv L) {s:Bool×Int×List Int} (hp:OkP s.2.2):ZdV L s=ZbP L s:=by
 obtain⟨m,i,o⟩:=s
 dsimp only at hp
 unfold ZdV ZbP
 dsimp only
 by_cases q:i<(L.length:Int)
 ·rw[Zc q,Zc q]
  refine ZAS fun hi=>?_
  obtain⟨g1,g2⟩:=hL _ (ZA (l:=L) (i:=i.toNat) (d:=([],0)) (by omega))
  rw[ZoI g1 g2 hp,ZgD g1 g2 hp,Ze,Ze]
  by_cases z:ZbU (L.getD i.toNat ([],0)).1 o (L.getD i.toNat ([],0)).1.length - (L.getD i.toNat ([],0)).2<0
  ·rw[Zc z,Zc z]
  ·rw[Zd z,Zd z,Zb hi,ZGb g1 g2 hp (by omega)]
   congr 1
   funext r
   exact congrArg (fun f=>loop f (m,(0:Int),o)) (funext fun s=>ZJR i r s)
 ·rw[Zd q,Zd q]
theorem ZJP {L:Zv} (hL:Zbv L) (hl:L.length≤1048576) {s s':Bool×Int×List Int} (hp:OkP s.2.2) (h:ZbP L s=some (.inl s')):OkP s'.2.2:=by
 obtain⟨m,i,o⟩:=s
 dsimp only at hp
 unfold ZbP at h
 dsimp only at h
 by_cases q:i<(L.length:Int)
 ·rw[Zc q]at h
  by_cases hi:0≤i∧i<(L.length:Int)
  ·rw[Zb hi]at h
   obtain⟨g1,g2⟩:=hL _ (ZA (l:=L) (i:=i.toNat) (d:=([],0)) (by omega))
   rw[ZgD g1 g2 hp,Ze]at h
   by_cases z:ZbU (L.getD i.toNat ([],0)).1 o (L.getD i.toNat ([],0)).1.length - (L.getD i.toNat ([],0)).2<0
   ·rw[Zc z]at h
    cases h
   ·obtain⟨r9,e9,k1,k2⟩:=Zuq g1 g2 hp
    obtain⟨md,out,e3,u1,_⟩:=ZGC hp k1 k2 m (i3:=i) ⟨by omega,by omega⟩
    rw[Zd z,e9,Ze,e3]at h
    cases h
    exact u1
  ·rw[ZyV hi]at h
   cases h
 ·rw[Zd q]at h
  cases h
theorem ZDb {L:Zv} {p:List Int} (hL:Zbv L) (hl:L.length≤1048576) (hp:OkP p):ZeS L p=ZbO L p:=by
 unfold ZeS ZbO
 rw[Zmy (by have:=hp.1;omega),Ze]
 refine Zwu (fun s:Bool×List Int=>OkP s.2) ?_ ?_ hp
 ·rintro⟨m,o⟩ ho
  dsimp only at ho
  unfold ZfD ZcH
  dsimp only
  cases m with
  |false=>rw[cff,cff]
  |true=>
   rw[ctt,ctt]
   exact Zwu (fun s:Bool×Int×List Int=>OkP s.2.2) (fun s hs=>ZJQ hL hs) (fun s s' hs h=>ZJP hL hl hs h) ho
 ·rintro⟨m,o⟩ s' ho h
  dsimp only at ho
  unfold ZcH at h
  dsimp only at h
  cases m with
  |false=>rw[cff]at h;cases h
  |true=>
   rw[ctt]at h
   obtain⟨r,e,h2|h2⟩:=ZGB hL hl ho
   ·obtain⟨md,out,rfl,⟨u1,_⟩,_⟩:=h2
    rw[e]at h
    cases h
    exact u1
   ·obtain⟨i,out,rfl,_⟩:=h2
    rw[e]at h
    cases h
end Go.AE.Y
namespace Go.AE.Y
open Go Go.AE
set_option maxHeartbeats 400000
def ZBL (D:List Int):Zv:=[(Z4 (Zbo (Zbe D)),1)]
def ZBK (D:List Int):List ZE:=[((7:Int),((0:Int),((0:Int),(Z4 (Zbo (Zbe D)),(1:Int)))))]
theorem ZyB {D:List Int} (hD:Zck D):ZiN (Zbe D)=(true,1,Z4 (Zbo (Zbe D))):=by
 have hd:=Zgm hD
 unfold ZiN
 rw[ZlI hD,Xad (show (Zbe D).length≤40 by unfold Zbe;rw[Xak];omega)]
 rfl
theorem ZCW {D:List Int} {L:Zv} {S:List ZE} (hD:Zck D) (hl:L.length≤2000) (hS:S.length<1000) (f:Int) (m:Bool) :
  ZcA D f m L S=some (L++ZBL D,S++ZBK D):=by
 have hd:=Zgm hD
 have hlf:=ZmZ (Zbe D)
 have hol:(Z4 (Zbo (Zbe D))).length≤12:=by unfold Z4;rw[Xak];exact hlf
 unfold ZcA
 refine(ZbZ (f:=ZbF D L S) D 0 (fun x=>0 - x) [] (fun _=>(L++ZBL D,S++ZBK D)) (fun i out hi ho=>?_) ?_)
 ·have:=Zz.1 (hD.1 _ (ZA (l:=D) (i:=i) (d:=0) hi))
  unfold ZbF
  dsimp only
  rw[Zc (by omega),Zb ⟨by omega,by omega⟩,Xab,Zf (by omega) (by omega),Zb (by simp only[Zl,Xaq,Xap];simp at ho;omega),Zf (by omega) (by omega)]
 ·unfold ZbF ZeC ZeD
  dsimp only
  rw[Zd (by omega),Xau,show D.map (fun x=>0 - x)=Zbe D from rfl,ZkO _ (by unfold Zbe;rw[Xak];omega),Ze,ZyB hD]
  dsimp only
  rw[Zb (by simp[Zl];omega),ZBY _ (by (try dsimp only)<;>omega),Ze,Zb (by simp[Zl];omega)]
  rfl
theorem ZGe {D:List Int} {L:Zv} {S:List ZE} (hD:Zck D) (hl:L.length≤2000) (hS:S.length<1000) (f:Int) :
  ZdE f D L S=some (f,L++ZBL D,S++ZBK D):=by
 have hd:=Zgm hD
 have hlf:=ZmZ (Zbe D)
 have hol:(Z4 (Zbo (Zbe D))).length≤12:=by unfold Z4;rw[Xak];exact hlf
 unfold ZdE
 refine(ZbZ (f:=Zdb f D L S) D 0 (fun x=>0 - x) [] (fun _=>(f,L++ZBL D,S++ZBK D)) (fun i out hi ho=>?_) ?_)
 ·have:=Zz.1 (hD.1 _ (ZA (l:=D) (i:=i) (d:=0) hi))
  unfold Zdb
  dsimp only
  rw[Zc (by omega),Zb ⟨by omega,by omega⟩,Xab,Zf (by omega) (by omega),Zb (by simp only[Zl,Xaq,Xap];simp at ho;omega),Zf (by omega) (by omega)]
 ·unfold Zdb Zim
  dsimp only
  rw[Zd (by omega),Xau,show D.map (fun x=>0 - x)=Zbe D from rfl,Zk6 _ (by unfold Zbe;rw[Xak];omega),Ze,ZyB hD]
  dsimp only
  rw[Zb (by simp[Zl];omega),Zb (by simp[Zl];omega)]
  rfl
theorem ZKs {p:List Int} {r:Int×Bool×List Bool} {q:Int} (h1:ZgE p=some r) (h2:Zjr p=some q):q=r.1:=by
 unfold ZgE at h1
 unfold Zjr at h2
 refine ZAI (fun (s:Int×List Bool) (t:Int)=>s.1=t) (fun r q=>q=r.1) ?_ rfl h1 h2
 rintro⟨i,o⟩ t rfl a b ha hb
 unfold ZhT at ha
 unfold Zkl at hb
 dsimp only at ha hb
 by_cases c1:i<(p.length:Int)
 ·rw[Zc c1]at ha hb
  by_cases c2:0≤i∧i<(p.length:Int)
  ·rw[Zb c2]at ha hb
   by_cases c3:p.getD i.toNat 0=0
   ·rw[Zx c3]at ha hb
    by_cases c4:i64 (i+1)
    ·rw[Zb c4]at ha hb
     cases ha
     cases hb
     exact Or.inr ⟨_,_,rfl,rfl,rfl⟩
    ·rw[ZyV c4]at hb
     cases hb
   ·rw[Zu c3]at ha hb
    by_cases c5:o.length+[(decide ((0:Int)<(p.getD i.toNat 0)))].length≤Zl
    ·rw[Zb c5]at ha
     by_cases c4:i64 (i+1)
     ·rw[Zb c4]at ha hb
      cases ha
      cases hb
      exact Or.inl ⟨_,_,rfl,rfl,rfl⟩
     ·rw[ZyV c4]at hb
      cases hb
    ·rw[ZyV c5]at ha
     cases ha
  ·rw[ZyV c2]at hb
   cases hb
 ·rw[Zd c1]at ha hb
  unfold ZkY at ha
  cases ha
  cases hb
  exact Or.inr ⟨_,_,rfl,rfl,rfl⟩
end Go.AE.Y
namespace Go.AE.Y
open Go Go.AE
set_option maxHeartbeats 400000
def Zqk (c:List (Int×Int)×Int):Int:=(c.1.map (fun t=>t.1)).sum
def Zkh (c:List (Int×Int)×Int):List (Int×Int)×Int:=(c.1.map (fun t=>(t.1,0 - t.2)),max 0 (Zqk c - c.2+1))
def ZBS (L:Zv):Prop:=∀q,OkP q→¬ZCX L q
def ZfA (D:List Int):List (Int×Int)×Int:=(Z4 (Zbo (Zbe D)),1)
def ZwK (c:List (Int×Int)×Int):ZE:=(7,(0,(0,c)))
theorem ZBJ {D:List Int} (hD:Zck D):ZG (ZfA D)=true:=Zuh (fun x hx=>(ZfV (ZlI hD)).1 x ((Zhx (ZlI hD) x).1 hx)) (Zpu (ZlI hD))
theorem ZJC (D:List Int):(ZfA D).1.length≤12:=by
 show (Z4 (Zbo (Zbe D))).length≤12
 unfold Z4
 rw[Xak]
 exact ZmZ (Zbe D)
theorem ZAL (q:List Int) (ls:List Int):∀n,n≤ls.length→ZbU (Z4 ls) q n=((ls.take n).countP (fun l=>decide (0≤unZ l q)):Nat)
 |0,_=>rfl
 |n+1,hn=>by
  have e:ZbU (Z4 ls) q (n+1)=ZbU (Z4 ls) q n+(if 0≤unZ ((Z4 ls).getD n (0,0)).2 q then((Z4 ls).getD n (0,0)).1 else 0):=rfl
  rw[e,ZAL q ls n (by omega),Zo1 (by omega),ZeE 0 (by omega),List.countP_append]
  dsimp only
  by_cases h:0≤unZ (ls.getD n 0) q
  ·rw[if_pos h,List.countP_singleton,if_pos (Xad h)]
   omega
  ·rw[if_neg h,List.countP_singleton,if_neg (by rw[Xaf];exact h)]
   omega
theorem ZGw (ls:List Int):(Z4 ls).length=ls.length:=Xak ..
theorem ZLZ {ls q:List Int} (h:Zyd (Z4 ls,(ls.length:Int)) q):∀l∈ls,0<unZ l q:=by
 obtain⟨h1,h2⟩:=h
 dsimp only at h1 h2
 rw[ZGw,ZAL q ls ls.length (Nat.le_refl _),XaC]at h1 h2
 have hle:=List.countP_le_length (p:=fun l=>decide (0≤unZ l q)) (l:=ls)
 have hall:∀l∈ls,0≤unZ l q:=fun l hl=>by
  have:=List.countP_eq_length.1 (show ls.countP (fun l=>decide (0≤unZ l q))=ls.length by omega) l hl
  exact of_decide_eq_true this
 intro l hl
 obtain⟨i,hi,rfl⟩:=Xan.1 hl
 have e:ls.getD i 0=ls[i]:=by rw[Xaa,Xac hi];rfl
 have:=hall _ hl
 rcases Int.lt_or_eq_of_le this with q1|q1
 ·exact q1
 ·have:=h2 i hi (by rw[Zo1 hi,e];exact q1.symm)
  rw[Zo1 hi]at this
  dsimp only at this
  omega
theorem ZHw {ls q:List Int} {x:Int} (hn:ls.Pairwise (fun x y=>vof x<vof y)) (h:Zyd (Z4 ls,1) q) (hx:∀l∈ls,l≠x→unZ l q<0):0<unZ x q:=by
 obtain⟨h1,h2⟩:=h
 dsimp only at h1 h2
 rw[ZGw,ZAL q ls ls.length (Nat.le_refl _),XaC]at h1 h2
 have hnd:ls.Nodup:=hn.imp (fun {a b} hab e=>by rw[e]at hab;omega)
 have hle:ls.countP (fun l=>decide (0≤unZ l q))≤ls.count x:=List.countP_mono_left (fun l hl hp=>by
  have hp:=of_decide_eq_true hp
  by_cases e:l=x
  ·rw[e];exact beq_self_eq_true x
  ·have:=hx l hl e
   omega)
 have h3:=List.nodup_iff_count.1 hnd x
 have hpos:0<ls.countP (fun l=>decide (0≤unZ l q)):=by omega
 obtain⟨l,hl,hp⟩:=List.countP_pos_iff.1 hpos
 have hp:=of_decide_eq_true hp
 have hlx:l=x:=by
  by_cases e:l=x
  ·exact e
  ·have:=hx l hl e
   omega
 subst hlx
 obtain⟨i,hi,rfl⟩:=Xan.1 hl
 have e:ls.getD i 0=ls[i]:=by rw[Xaa,Xac hi];rfl
 rcases Int.lt_or_eq_of_le hp with q1|q1
 ·exact q1
 ·have:=h2 i hi (by rw[Zo1 hi,e];exact q1.symm)
  rw[Zo1 hi]at this
  dsimp only at this
  omega
theorem ZIF {l:Int} {q:List Int} (h:l≠0):unZ (0 - l) q=0 - unZ l q:=by
 unfold unZ
 by_cases h1:l<0
 ·rw[if_pos h1,if_neg (show ¬0 - l<0 by omega)]
  omega
 ·rw[if_neg h1,if_pos (show 0 - l<0 by omega),show (0 - (0 - l) - 1:Int)=l - 1 by omega]
theorem ZEi (ls:List Int):Zqk (Z4 ls,1)=ls.length:=by
 unfold Zqk Z4
 induction ls with
 |nil=>rfl
 |cons x ls ih=>
  dsimp only at ih ⊢
  rw[XaQ,XaQ,XbN,ih,Xaq]
  omega
theorem ZJK (D:List Int):Zkh (ZfA D)=(Z4 ((Zbo (Zbe D)).map (fun l=>0 - l)),(((Zbo (Zbe D)).map (fun l=>0 - l)).length:Int)):=by
 have h:=ZEi (Zbo (Zbe D))
 unfold Zkh ZfA
 rw[h]
 dsimp only
 rw[Xak]
 have e1:(Z4 (Zbo (Zbe D))).map (fun t=>(t.1,0 - t.2))=Z4 ((Zbo (Zbe D)).map (fun l=>0 - l)):=by
  unfold Z4
  rw[XbH,XbH]
  rfl
 rw[e1,show max (0:Int) ((Zbo (Zbe D)).length - 1+1)=((Zbo (Zbe D)).length:Int) by omega]
theorem ZGn {D q:List Int} (hD:Zck D) (h:Zyd (Zkh (ZfA D)) q):∀d∈D,0<unZ d q:=by
 rw[ZJK]at h
 intro d hd
 have h1:=ZLZ h
 refine h1 d (XaF.2 ⟨0 - d,(Zhx (ZlI hD) _).2 (XaF.2 ⟨d,hd,rfl⟩),by omega⟩)
theorem ZBM {D q:List Int} {l:Int} (hD:Zck (D++[l])) (h:Zyd (ZfA (D++[l])) q) (hd:∀d∈D,0<unZ d q):0<unZ (0 - l) q:=by
 refine ZHw (Zpu (ZlI hD)) h (fun x hx hne=>?_)
 have hm:=(Zhx (ZlI hD) x).1 hx
 obtain⟨d,hdm,rfl⟩:=XaF.1 hm
 have hlit:=Zz.1 (hD.1 d hdm)
 rcases List.mem_append.1 hdm with h1|h1
 ·have:=hd d h1
  rw[ZIF hlit.1]
  omega
 ·rw[Xah]at h1
  rw[h1]at hne
  exact absurd rfl hne
theorem ZKp {D:List Int} {L:Zv} {v:Int} (hD:Zck D) (hv:Zck (D++[v])∧Zck (D++[0 - v])) (h1:ZfA (D++[v])∈L) (h2:ZfA (D++[0 - v])∈L):ZBS (L++[Zkh (ZfA D)]):=fun q hq hf=>by
 have hd:=ZGn hD (hf _ (Xa2 _ Xas))
 have hl:=Zz.1 (hv.1.1 v (Xa2 _ Xas))
 have a:=ZBM hv.1 (hf _ (Xa4 _ h1)) hd
 have b:=ZBM hv.2 (hf _ (Xa4 _ h2)) hd
 rw[show (0 - (0 - v):Int)=v by omega]at b
 rw[ZIF hl.1]at a
 omega
theorem ZDP {D q:List Int} (hD:Zck D) (hq:OkP q) (h:∀d∈D,0<unZ d q):∀n,n≤D.length→subP (Zd7 D n) q
 |0,_=>fun j hj=>absurd (Zzt j) hj
 |n+1,hn=>by
  have hm:=ZA (l:=D) (i:=n) (d:=0) (by omega)
  exact Zy1 (r:=[D.getD n 0]) (fun l hl=>by rw[Xah]at hl;rw[hl];exact⟨hD.1 _ hm,h _ hm⟩) (Zj0 hD n (by omega)).1 hq (ZDP hD hq h n (by omega))
theorem ZFN {D:List Int} {L:Zv} {i:Int} {out:List Int} (hD:Zck D) (hL:Zbv L) (hl:L.length≤1048576) (he:ZbO L (Zd7 D D.length)=some (i,out)) (hi:0≤i):ZBS (L++[Zkh (ZfA D)]):=fun q hq hf=>by
 have hd:=ZGn hD (hf _ (Xa2 _ Xas))
 have:=ZJS hL hl (Zj0 hD D.length (Nat.le_refl _)).1 hq (fun c hc=>hf c (Xa4 _ hc)) (ZDP hD hq hd D.length (Nat.le_refl _)) he
 dsimp only at this
 omega
inductive RupExt (L:Zv) (S:List ZE):Zv→List ZE→Prop where
 |refl:RupExt L S L S
 |snoc {L':Zv} {S':List ZE} {c:List (Int×Int)×Int}:RupExt L S L' S'→ZG c=true→c.1.length≤12→ZBS (L'++[Zkh c])→RupExt L S (L'++[c]) (S'++[ZwK c])
theorem RupExt.trans {L L' L'':Zv} {S S' S'':List ZE} (a:RupExt L S L' S') (b:RupExt L' S' L'' S''):RupExt L S L'' S'':=by
 induction b with
 |refl=>exact a
 |snoc _ h1 h2 h3 ih=>exact ih.snoc h1 h2 h3
theorem RupExt.sub {L L':Zv} {S S':List ZE} (a:RupExt L S L' S'):∀c∈L,c∈L':=by
 induction a with
 |refl=>exact fun c h=>h
 |snoc _ _ _ _ ih=>exact fun c h=>Xa4 _ (ih c h)
def Zto (D:List Int) (L:Zv) (S:List ZE) (r:VR):Prop:=RupExt L S r.2.2.2.2.1 r.2.2.2.2.2∧(r.1=false→r.2.2.1=false→ZfA D∈r.2.2.2.2.1)
theorem ZAg {D:List Int} {L:Zv} {S:List ZE} {fuel:Int} {rec_:List Int→Int→Bool→Zv→List ZE→Option VR}
  (hrec:∀(l:Int) (L':Zv) (S':List ZE) (f':Int),Zck (D++[l])→Zbv L'→L'.length≤400+S'.length→S'.length≤1000→(0≤f'∧f'≤2000)→∃r,rec_ (D++[l]) f' false L' S'=some r∧ZfQ (D++[l]) L' S' f' r∧Zto (D++[l]) L' S' r)
  (hD:Zck D) (hL:Zbv L) (hl:L.length≤400+S.length) (hS:S.length≤1000) (hf:0≤fuel∧fuel≤2000):∃r,ZM rec_ D fuel false L S=some r∧ZfQ D L S fuel r∧Zto D L S r:=by
 have hd:=Zgm hD
 have much:ZfQ D L S fuel (false,fuel,true,([]:List Bool),L,S):=⟨⟨hf.1,Xat _⟩,Ext.refl hL hS,fun h=>(by cases h),fun _ h=>(by cases h)⟩
 have muchR:Zto D L S (false,fuel,true,([]:List Bool),L,S):=⟨RupExt.refl,fun _ h=>(by cases h)⟩
 unfold ZM
 by_cases q1:fuel=0
 ·exact⟨_,by rw[Zx q1],much,muchR⟩
 rw[Zu q1]
 by_cases q2:1000≤(S.length:Int)
 ·exact⟨_,by rw[Zc q2],much,muchR⟩
 rw[Zd q2,Zf (by omega) (by omega),Zb ⟨by omega,by simp only[Zl];omega,rfl⟩]
 obtain⟨p1,p2,p3,p4,p5⟩:=Zj0 hD D.length (Nat.le_refl _)
 have tail:∃r,ZW D fuel false L S rec_ (Zd7 D D.length)=some r∧ZfQ D L S fuel r∧Zto D L S r:=by
  unfold ZW
  obtain⟨⟨i,out⟩,e1,⟨t1,t2,t3⟩,hc⟩:=Zfm hL (by omega) p1
  dsimp only at t1 t2 t3 hc
  rw[e1,Ze]
  dsimp only
  have failed:∀(f:Int) (L':Zv) (S':List ZE),(0≤f∧f≤fuel)→Ext L S L' S'→S'.length<1000→(∀v,Zei L v→¬agD D v)→RupExt L S L' S'→ZBS (L'++[Zkh (ZfA D)])→∃r,Zbg D (f,false,L',S')=some r∧ZfQ D L S fuel r∧Zto D L S r:=fun f L' S' hf' hx hs' hno hru hne=>by
   obtain⟨⟨L2,S2⟩,e,hx2⟩:=ZIe hD hx.good (by have:=hx.len;omega) hs' (fun v hv=>hno v (hx.back v hv)) f false
   have e0:=ZCW hD (by have:=hx.len;omega) hs' f false (L:=L')
   rw[e]at e0
   injection e0 with e0
   injection e0 with e1 e2
   unfold Zbg
   dsimp only
   rw[e,Ze]
   refine⟨_,rfl,⟨hf',hx.trans hx2,fun h=>(by cases h),fun _ _=>hno⟩,?_⟩
   rw[e1,e2]
   exact⟨hru.snoc (ZBJ hD) (ZJC D) hne,fun _ _=>Xa2 _ Xas⟩
  rcases hc with⟨rfl,hk⟩|⟨h0,hk⟩
  ·rw[Zc (by omega)]
   obtain⟨r4,e4,h|h⟩:=ZoV t1
   ·obtain⟨rfl,ht⟩:=h
    rw[e4,Ze]
    dsimp only
    rw[ctt]
    refine⟨_,rfl,⟨⟨by (try dsimp only)<;>omega,by (try dsimp only)<;>omega⟩,Ext.refl hL hS,fun _=>⟨by show (out.map _).length=12;rw[Xak];exact t1.1,fun c hcm=>?_⟩,fun h=>(by cases h)⟩,⟨RupExt.refl,fun h=>(by cases h)⟩⟩
    have ha:agP out (out.map (fun n=>decide (0<n))):=fun j hne=>by
     rcases Xag j out.length with h1|h1
     ·rw[Xaa,Xbl,Xac h1,Xaa,Xac h1]
      rfl
     ·rw[Xaa,Xaw h1]at hne
      exact absurd rfl hne
    exact ZEe (hL c hcm).1 t1 ha ht (hk c hcm)
   ·obtain⟨k,hk12,hk0,rfl⟩:=h
    rw[e4,Ze]
    dsimp only
    rw[cff,Zf (by omega) (by omega)]
    have hvar:∀l:Int,vof l=(k:Int)+1→∀i,i<D.length→vof (D.getD i 0)≠vof l:=fun l hl i hi=>by
     rw[hl]
     exact p3 k (t3 k hk0) i hi
    refine Zb9 (f:=Zbz D ((k:Int)+1,false,[]) rec_) (fun s:Int×Int×Bool×Zv×List ZE=>∃n:Nat,s.1=n∧n≤2∧(0≤s.2.1∧s.2.1≤fuel)∧s.2.2.1=false∧Ext L S s.2.2.2.1 s.2.2.2.2∧(1≤n→∀v,Zei L v→agD D v→ZS v ((k:Int)+1)=false)∧(2≤n→∀v,Zei L v→agD D v→ZS v (0 - ((k:Int)+1))=false)∧RupExt L S s.2.2.2.1 s.2.2.2.2∧(1≤n→ZfA (D++[((k:Int)+1)])∈s.2.2.2.1)∧(2≤n→ZfA (D++[0 - ((k:Int)+1)])∈s.2.2.2.1)) (fun s=>2 - s.1.toNat) (fun r=>ZfQ D L S fuel r∧Zto D L S r) ?_ _ ⟨0,rfl,by omega,⟨by (try dsimp only)<;>omega,by (try dsimp only)<;>omega⟩,rfl,Ext.refl hL hS,fun h=>by omega,fun h=>by omega,RupExt.refl,fun h=>by omega,fun h=>by omega⟩
    rintro⟨s,f,m,L',S'⟩ ⟨n,hs,hn,hf',hm,hx,g1,g2,hru,u1,u2⟩
    dsimp only at hs hf' hm hx g1 g2 hru u1 u2 ⊢
    subst hs
    subst hm
    unfold Zbz
    dsimp only
    rcases Xag n 2 with h1|h1
    ·have hlit:∃l,[((k:Int)+1),(0 - ((k:Int)+1))].getD n 0=l∧vof l=(k:Int)+1∧ZZ l=true∧((n=0∧l=(k:Int)+1)∨(n=1∧l=0 - ((k:Int)+1))):=by
      have:n=0∨n=1:=by omega
      rcases this with rfl|rfl
      ·exact⟨(k:Int)+1,rfl,by unfold vof;omega,Zz.2 ⟨by omega,by omega,by omega⟩,Or.inl ⟨rfl,rfl⟩⟩
      ·exact⟨0 - ((k:Int)+1),rfl,by unfold vof;omega,Zz.2 ⟨by omega,by omega,by omega⟩,Or.inr ⟨rfl,rfl⟩⟩
     obtain⟨l,el,hv,hli,hnl⟩:=hlit
     have hlen:=hx.len
     have htop:=hx.top
     obtain⟨r8,e8,⟨f1,x1,sa1,no1⟩,⟨v1,v2⟩⟩:=hrec l L' S' f (ZqF hD hli (hvar l hv)) hx.good (by omega) htop ⟨by omega,by omega⟩
     rw[Zc (by simp;omega),Zb ⟨by omega,by simp;omega⟩,Xab,el,Zmy (by omega),Ze,Zb (by simp[Zl];omega),e8,Ze]
     cases hok:r8.1 with
     |true=>
      right
      rw[ctt]
      refine⟨_,rfl,⟨⟨by (try dsimp only)<;>omega,by (try dsimp only)<;>omega⟩,hx.trans x1,fun _=>⟨(sa1 hok).1,fun c hcm=>?_⟩,fun h=>(by cases h)⟩,⟨hru.trans v1,fun h=>(by cases h)⟩⟩
      exact hx.back _ (sa1 hok).2 c hcm
     |false=>
      rw[cff]
      cases hmu:r8.2.2.1 with
      |true=>
       right
       rw[ctt]
       exact⟨_,rfl,⟨⟨by (try dsimp only)<;>omega,by (try dsimp only)<;>omega⟩,hx.trans x1,fun h=>(by cases h),fun _ h=>(by cases h)⟩,⟨hru.trans v1,fun _ h=>(by cases h)⟩⟩
      |false=>
       left
       have hno:∀v,Zei L v→agD D v→ZS v l=false:=fun v h1 h2=>by
        cases hb:ZS v l with
        |false=>rfl
        |true=>
         exfalso
         refine no1 hok hmu v (hx.sound v h1) (fun x hxm=>?_)
         rcases List.mem_append.1 hxm with h|h
         ·exact h2 x h
         ·rw[Xah]at h;rw[h];exact hb
       rw[cff,Zf (by omega) (by omega)]
       refine⟨_,rfl,⟨n+1,by simp,by omega,⟨by (try dsimp only)<;>omega,by (try dsimp only)<;>omega⟩,rfl,hx.trans x1,fun _=>?_,fun h2=>?_,hru.trans v1,fun _=>?_,fun h2=>?_⟩,by (try dsimp only)<;>omega⟩
       ·rcases hnl with⟨rfl,rfl⟩|⟨rfl,rfl⟩
        ·exact hno
        ·exact g1 (by omega)
       ·rcases hnl with⟨rfl,rfl⟩|⟨rfl,rfl⟩
        ·omega
        ·exact hno
       ·rcases hnl with⟨rfl,rfl⟩|⟨rfl,rfl⟩
        ·exact v2 hok hmu
        ·exact v1.sub _ (u1 (by omega))
       ·rcases hnl with⟨rfl,rfl⟩|⟨rfl,rfl⟩
        ·omega
        ·exact v2 hok hmu
    ·right
     have hn2:n=2:=by omega
     rw[Zd (by simp;omega)]
     unfold Zdl
     dsimp only
     have hno:∀v,Zei L v→¬agD D v:=fun v h1 h2=>by
      have a1:=g1 (by omega) v h1 h2
      have a2:=g2 (by omega) v h1 h2
      rw[Zpt (by omega),a1]at a2
      cases a2
     by_cases q3:1000≤(S'.length:Int)
     ·rw[Zc q3]
      exact⟨_,rfl,⟨⟨by (try dsimp only)<;>omega,by (try dsimp only)<;>omega⟩,hx,fun h=>(by cases h),fun _ h=>(by cases h)⟩,⟨hru,fun _ h=>(by cases h)⟩⟩
     ·rw[Zd q3]
      obtain⟨r,e,hr⟩:=failed f L' S' hf' hx (by omega) hno hru (ZKp hD ⟨ZqF hD (Zz.2 ⟨by omega,by omega,by omega⟩) (hvar _ (by unfold vof;omega)),ZqF hD (Zz.2 ⟨by omega,by omega,by omega⟩) (hvar _ (by unfold vof;omega))⟩ (u1 (by omega)) (u2 (by omega)))
      rw[e]
      exact⟨_,rfl,hr⟩
  ·rw[Zd (by omega)]
   exact failed _ L S ⟨by omega,by omega⟩ (Ext.refl hL hS) (by omega) (fun v h1 h2=>hk v (p2 v h2) h1) (RupExt.refl) (ZFN hD hL (by omega) e1 (by (try dsimp only)<;>omega))
 obtain⟨r,er,hr⟩:=tail
 refine⟨r,?_,hr⟩
 refine ZK (f:=Zbh D fuel false L S rec_) (fun s:Int×List Int=>∃n:Nat,s.1=n∧n≤D.length∧s.2=Zd7 D n) (fun s=>D.length - s.1.toNat) (fun _=>r) ?_ _ ⟨0,rfl,Nat.zero_le _,rfl⟩
 rintro⟨s,o⟩ ⟨n,hs,hn,ho⟩
 dsimp only at hs ho ⊢
 subst hs
 subst ho
 unfold Zbh
 dsimp only
 rcases Xag n D.length with h1|h1
 ·left
  have hlit:=Zz.1 (hD.1 _ (ZA (l:=D) (i:=n) (d:=0) h1))
  have h12:=(Zj0 hD n hn).1.1
  have hvv:vof (D.getD n 0)=if 0<D.getD n 0 then D.getD n 0 else 0 - D.getD n 0:=by unfold vof;split<;>omega
  refine⟨((n:Int)+1,Zd7 D (n+1)),?_,⟨n+1,by simp,by omega,rfl⟩,by (try dsimp only)<;>omega,rfl⟩
  rw[Zc (by omega),Zb ⟨by omega,by omega⟩,Xab,Zef (by omega),Ze]
  have e:Zd7 D (n+1)=ZdO (D.getD n 0) (Zd7 D n):=rfl
  rw[e]
  unfold ZdO
  by_cases q:0<D.getD n 0
  ·rw[if_pos q]at hvv
   rw[hvv,if_pos q,Zf (by omega) (by omega),Zb ⟨by omega,by omega⟩,Zd (by omega),Zf (by omega) (by omega)]
  ·rw[if_neg q]at hvv
   rw[hvv,if_neg q,Zf (by omega) (by omega),Zb ⟨by omega,by omega⟩,Zc (by omega),Zf (by omega) (by omega),Zf (by omega) (by omega),Zb ⟨by omega,by rw[Xam];omega⟩,Zf (by omega) (by omega),List.set_set]
 ·right
  have:n=D.length:=by omega
  subst this
  rw[Zd (by omega),er]
  rfl
theorem ZEn:∀(n:Nat) (D:List Int) (L:Zv) (S:List ZE) (fuel:Int),Zck D→Zbv L→L.length≤400+S.length→S.length≤1000→(0≤fuel∧fuel≤2000)→13≤n+D.length→∃r,ZC n D fuel false L S=some r∧ZfQ D L S fuel r∧Zto D L S r
 |0,D,L,S,fuel,hD,_,_,_,_,hn=>by have:=Zgm hD;omega
 |n+1,D,L,S,fuel,hD,hL,hl,hS,hf,hn=>by
  show ∃r,ZM (ZC n) D fuel false L S=some r∧_
  exact ZAg (fun l L' S' f' h1 h2 h3 h4 h5=>ZEn n (D++[l]) L' S' f' h1 h2 h3 h4 h5 (by rw[Xal,Xav];omega)) hD hL hl hS hf
end Go.AE.Y
namespace Go.AE.Y
open Go Go.AE
set_option maxHeartbeats 400000
theorem ZIp {v:List Bool}:∀l:List (Int×Int),(∀t∈l,t.2≠0)→ZcF v (l.map (fun t=>(t.1,0 - t.2)))+ZcF v l=(l.map (fun t=>t.1)).sum
 |[],_=>rfl
 |t::l,h=>by
  have ih:=ZIp (v:=v) l (fun x hx=>h x (Xao _ hx))
  have h0:=h t Xas
  rw[XaQ,XaQ,XbN,Zfo,Zfo]
  dsimp only
  rw[Zpt h0]
  cases ZS v t.2 with
  |true=>rw[ctt,Xbi,cff];omega
  |false=>rw[cff,Xbe,ctt];omega
theorem ZNt {c:Zbx} (h:ZG c=true):∀t∈c.1,t.2≠0:=fun t ht=>(Zz.1 (ZqE h t ht).1.2).1
theorem ZMk {c:Zbx} {v:List Bool} (h:ZG c=true):ZY v (Zkh c) = !ZY v c:=by
 have h1:=ZIp (v:=v) c.1 (ZNt h)
 have h2:0≤ZcF v (c.1.map (fun t=>(t.1,0 - t.2))):=ZuW (fun t ht=>by
  obtain⟨x,hx,rfl⟩:=XaF.1 ht
  exact(ZqE h x hx).2)
 unfold ZY Zkh Zqk
 dsimp only
 rw[Xbq,XaX,Xaf,decide_eq_false_iff_not]
 omega
theorem ZID {c:Zbx} (h:ZG c=true):0≤Zqk c∧Zqk c≤1000*c.1.length:=by
 have key:∀l:List (Int×Int),(∀t∈l,okS t∧1≤t.1)→0≤(l.map (fun t=>t.1)).sum∧(l.map (fun t=>t.1)).sum≤1000*l.length:=by
  intro l
  induction l with
  |nil=>intro _;exact⟨Xat _,Xat _⟩
  |cons t l ih=>
   intro ht
   obtain⟨h1,h2⟩:=ih (fun x hx=>ht x (Xao _ hx))
   obtain⟨⟨h3,_⟩,h4⟩:=ht t Xas
   rw[XaQ,XbN,Xaq]
   omega
 exact key c.1 (ZqE h)
theorem ZBp {c:Zbx} (h:ZG c=true):c.1.length≤12:=by
 have hc:=h
 unfold ZG at h
 simp only[Xae,Xaf,Xar,Xax]at h
 have key:∀i,i<c.1.length→(i:Int)+1≤vof (c.1.getD i (0,0)).2:=by
  intro i
  induction i with
  |zero=>
   intro hi
   have:=ZiR ((ZdM hc).2 0 hi).1
   omega
  |succ i ih=>
   intro hi
   have h1:=ih (by omega)
   have h2:=h.1 (i+1) hi
   unfold ZfH at h2
   simp only[Xae,XbV,Xaf,beq_iff_eq,XbU]at h2
   have h3:=h2.2.2
   omega
 rcases Xag 12 c.1.length with q|q
 ·have h1:=key 12 q
  have h2:=ZiR ((ZdM hc).2 12 q).1
  omega
 ·exact q
theorem ZIo {c:Zbx} (h:ZG c=true):ZG (Zkh c)=true:=by
 have ht:=ZID h
 have h12:=ZBp h
 have hb:=(ZdM h).1
 unfold ZG at h ⊢
 simp only[Xae,Xaf,Xar,Xax]at h ⊢
 refine⟨fun i hi=>?_,by show 0≤max 0 (Zqk c - c.2+1);omega,by show max 0 (Zqk c - c.2+1)≤20000;omega⟩
 have hi':i<c.1.length:=by
  have:(Zkh c).1.length=c.1.length:=Xak ..
  omega
 have e:∀j,j<c.1.length→(Zkh c).1.getD j (0,0)=((c.1.getD j (0,0)).1,0 - (c.1.getD j (0,0)).2):=fun j hj=>ZmR c.1 (fun t=>(t.1,0 - t.2)) j (0,0) (0,0) hj
 have h1:=h.1 i hi'
 unfold ZfH at h1 ⊢
 rw[e i hi']
 have hv:∀x:Int,vof (0 - x)=vof x:=fun x=>by unfold vof;omega
 have hl:∀x:Int,ZZ (0 - x)=ZZ x:=fun x=>by
  rw[Xbq,Zz,Zz]
  omega
 simp only[hv,hl]
 by_cases q:i=0
 ·subst q
  exact h1
 ·rw[e (i - 1) (by omega)]
  simp only[hv]
  exact h1
def ZCB:List Int:=List.replicate 12 0
theorem ZzL:OkP ZCB:=⟨rfl,fun j=>Or.inl (Zzt j)⟩
noncomputable def ZqQ (L:Zv) (c:Zbx):Bool:=decide (0≤((ZbO (L++[Zkh c]) ZCB).getD (-1,[])).1)
theorem ZAy {L:Zv} {c:Zbx} (hL:Zbv L) (hc:ZG c=true):Zbv (L++[Zkh c]):=fun x hx=>by
 rcases List.mem_append.1 hx with h|h
 ·exact hL x h
 ·rw[Xah]at h
  rw[h]
  have h12:=ZBp (ZIo hc)
  exact⟨ZIo hc,by omega⟩
theorem ZNK {L:Zv} {c:Zbx} (hL:Zbv L) (hl:L.length≤1000000) (hc:ZG c=true):∃out,ZbO (L++[Zkh c]) ZCB=some out∧ZqQ L c=decide (0≤out.1):=by
 obtain⟨r,e,_⟩:=Zfm (ZAy hL hc) (by rw[Xal,Xav];omega) ZzL
 refine⟨r,e,?_⟩
 unfold ZqQ
 rw[e]
 rfl
theorem ZKQ {L:Zv} {c:Zbx} {v:List Bool} (hL:Zbv L) (hl:L.length≤1000000) (hc:ZG c=true) (h:ZqQ L c=true) (hv:Zei L v):ZY v c=true:=by
 obtain⟨r,e,_,hr⟩:=Zfm (ZAy hL hc) (by rw[Xal,Xav];omega) ZzL
 unfold ZqQ at h
 rw[e]at h
 have h:0≤r.1:=of_decide_eq_true h
 rcases hr with hr|hr
 ·omega
 ·have hno:=hr.2 v (fun j hj=>absurd (Zzt j) hj)
  cases q:ZY v c with
  |true=>rfl
  |false=>
   exfalso
   refine hno (fun x hx=>?_)
   rcases List.mem_append.1 hx with h1|h1
   ·exact hv x h1
   ·rw[Xah]at h1
    rw[h1,ZMk hc,q]
    rfl
theorem ZGI {L:Zv} {c:Zbx} (hL:Zbv L) (hl:L.length≤1000000) (hc:ZG c=true) (h:ZBS (L++[Zkh c])):ZqQ L c=true:=by
 have hg:=ZAy hL hc
 have hlen:(L++[Zkh c]).length≤1048576:=by rw[Xal,Xav];omega
 obtain⟨r,e,_⟩:=Zfm hg hlen ZzL
 unfold ZqQ
 rw[e]
 refine Xad ?_
 show 0≤r.1
 rcases Int.lt_or_le r.1 0 with q|q
 ·obtain⟨f1,_,f3⟩:=ZMs hg hlen ZzL e q
  exact absurd f3 (h _ f1)
 ·exact q
end Go.AE.Y
namespace Go.AE.Y
open Go Go.AE
set_option maxHeartbeats 400000
abbrev DbT:=Zv×List Bool
def ZkK (d:DbT) (i:Int):Zbx:=d.1.getD i.toNat ([],0)
def Zif (d:DbT) (i:Int):Bool:=(decide (0≤i)&&decide (i<d.1.length)) && !(d.2.getD i.toNat false)
def ZoB (d:DbT):Nat→Zv
 |0=>[]
 |n+1=>ZoB d n++(bif d.2.getD n false then[]else[d.1.getD n ([],0)])
def Znr (d:DbT):Zv:=ZoB d d.1.length
def ZFd (s:ZE):Bool:=decide (s.2.2.2.1=[])&&decide (s.2.2.2.2=0)
def Zm2 (s:ZE):Bool:=if s.1=1∨s.1=2∨s.1=3∨s.1=5 then ZFd s else if s.1=4∨s.1=6∨s.1=8 then ZFd s&&decide (s.2.2.1=0)else if s.1=7 then decide (s.2.1=0)&&decide (s.2.2.1=0)else false
noncomputable def Zdz (d:DbT) (s:ZE):ZnN:=
 if s.1=6 then axB s.2.1
 else if s.1=7 then(bif ZG s.2.2.2&&ZqQ (Znr d) s.2.2.2 then ZqN s.2.2.2 else noC)
 else bif Zif d s.2.1 then
  (if s.1=1 then(bif Zif d s.2.2.1 then ZvY (ZkK d s.2.1) (ZkK d s.2.2.1)else noC)
  else if s.1=2 then Zwx (ZkK d s.2.1) s.2.2.1
  else if s.1=3 then Zwb (ZkK d s.2.1) s.2.2.1
  else if s.1=4 then ZDd (ZkK d s.2.1)
  else Zzy (ZkK d s.2.1) s.2.2.1)
 else noC
noncomputable def Ziw (d:DbT) (s:ZE):Option DbT:=
 bif Zm2 s then
  (if s.1=8 then(bif Zif d s.2.1 then some (d.1,d.2.set s.2.1.toNat true)else none)
  else(bif (Zdz d s).1 then some (d.1++[ofR (Zdz d s)],d.2++[false])else none))
 else none
noncomputable def ZhX:DbT→List ZE→Option DbT
 |d,[]=>some d
 |d,s::r=>(Ziw d s).bind fun d'=>ZhX d' r
def ZdP (l:Zv):DbT:=(l,List.replicate l.length false)
theorem ZyC (d:DbT):∀n,n≤d.1.length→∀c∈ZoB d n,∃i,i<n∧d.1.getD i ([],0)=c
 |0,_=>fun c hc=>absurd hc Xay
 |n+1,hn=>fun c hc=>by
  unfold ZoB at hc
  rcases List.mem_append.1 hc with h|h
  ·obtain⟨i,hi,e⟩:=ZyC d n (by omega) c h
   exact⟨i,by omega,e⟩
  ·cases hg:d.2.getD n false with
   |true=>rw[hg,ctt]at h;exact absurd h Xay
   |false=>rw[hg,cff,Xah]at h;exact⟨n,by omega,h.symm⟩
theorem Zuu (d:DbT):∀n,(ZoB d n).length≤n
 |0=>Nat.le_refl _
 |n+1=>by
  have:=Zuu d n
  unfold ZoB
  rw[Xal]
  cases d.2.getD n false with
  |true=>rw[ctt,Xap];omega
  |false=>rw[cff,Xav];omega
theorem ZD4 {d:DbT} (h:Zbv d.1):Zbv (Znr d):=fun c hc=>by
 obtain⟨i,hi,rfl⟩:=ZyC d d.1.length (Nat.le_refl _) c hc
 exact h _ (ZA hi)
theorem Zv7 {d:DbT} {i:Int} (h:Zif d i=true):0≤i∧i.toNat<d.1.length∧ZkK d i∈d.1:=by
 unfold Zif at h
 simp only[Xae,Xaf]at h
 have:i.toNat<d.1.length:=by omega
 exact⟨h.1.1,this,ZA this⟩
theorem ZNc {c:Zbx} {k:Int} (h:(Zwx c k).1=true):ZG c=true∧1≤k∧ofR (Zwx c k)=ZyI c k∧ZG (ofR (Zwx c k))=true:=by
 unfold Zwx at h ⊢
 cases q:ZG c&&(decide (1≤k)&&decide (k≤1000))with
 |false=>rw[q,cff]at h;cases h
 |true=>
  rw[q,ctt]at h
  rw[ctt]
  simp only[Xae,Xaf]at q
  exact⟨q.1,q.2.1,ZEm h⟩
theorem ZMZ {c:Zbx} {k:Int} (h:(Zwb c k).1=true):ZG c=true∧1≤k∧ofR (Zwb c k)=Zx8 c k∧ZG (ofR (Zwb c k))=true:=by
 unfold Zwb at h ⊢
 cases q:ZG c&&(decide (1≤k)&&decide (k≤1000))with
 |false=>rw[q,cff]at h;cases h
 |true=>
  rw[q,ctt]at h
  rw[ctt]
  simp only[Xae,Xaf]at q
  exact⟨q.1,q.2.1,ZEm h⟩
theorem ZL7 {c:Zbx}:ZG c=true↔(∀i,i<c.1.length→ZZ (c.1.getD i (0,0)).2=true∧1≤(c.1.getD i (0,0)).1∧(c.1.getD i (0,0)).1≤1000)∧(c.1.Pairwise (fun x y=>vof x.2<vof y.2))∧0≤c.2∧c.2≤20000:=by
 constructor
 ·intro h
  obtain⟨h1,h2⟩:=ZdM h
  refine⟨h2,?_,h1⟩
  unfold ZG at h
  simp only[Xae,Xaf,Xar,Xax]at h
  have step:∀i,i+1<c.1.length→vof (c.1.getD i (0,0)).2<vof (c.1.getD (i+1) (0,0)).2:=fun i hi=>by
   have h3:=h.1 (i+1) hi
   unfold ZfH at h3
   simp only[Xae,XbV,Xaf,beq_iff_eq,XbU]at h3
   have:=h3.2.2
   omega
  have far:∀k i,i+k+1<c.1.length→vof (c.1.getD i (0,0)).2<vof (c.1.getD (i+k+1) (0,0)).2:=by
   intro k
   induction k with
   |zero=>exact fun i hi=>step i hi
   |succ k ih=>
    intro i hi
    have a:=ih i (by omega)
    have b:=step (i+k+1) (by omega)
    rw[show i+(k+1)+1=i+k+1+1 by omega]
    omega
  rw[XaV]
  intro i j hi hj hij
  have:=far (j - i - 1) i (by omega)
  rw[show i+(j - i - 1)+1=j by omega]at this
  rwa [Xaa,Xaa,Xac hi,Xac hj]at this
 ·rintro⟨h1,h2,h3,h4⟩
  unfold ZG
  simp only[Xae,Xaf,Xar,Xax]
  refine⟨fun i hi=>?_,h3,h4⟩
  obtain⟨a,b,e⟩:=h1 i hi
  unfold ZfH
  simp only[Xae,XbV,Xaf,beq_iff_eq]
  refine⟨a,⟨b,e⟩,?_⟩
  by_cases q:i=0
  ·exact Or.inl q
  ·right
   have:=XaV.1 h2 (i - 1) i (by omega) hi (by omega)
   rwa [Xaa,Xaa,Xac hi,Xac (show i - 1<c.1.length by omega)]
theorem ZkL {c:Zbx}:ZG c=true↔(∀t∈c.1,ZZ t.2=true∧1≤t.1∧t.1≤1000)∧(c.1.Pairwise (fun x y=>vof x.2<vof y.2))∧0≤c.2∧c.2≤20000:=by
 rw[ZL7]
 refine and_congr_left (fun _=>⟨fun h t ht=>?_,fun h i hi=>h _ (ZA hi)⟩)
 obtain⟨i,hi,rfl⟩:=Xan.1 ht
 have:=h i hi
 rwa [Xaa,Xac hi]at this
theorem ZMy {c:Zbx} (h:ZG c=true):ZG (ZyY c)=true:=by
 obtain⟨h1,h2,h3,h4⟩:=ZkL.1 h
 rw[ZkL]
 unfold ZyY
 by_cases q:0<c.2
 ·rw[if_pos q]
  refine⟨fun t ht=>?_,List.pairwise_map.2 (h2.imp (fun hab=>hab)),h3,h4⟩
  obtain⟨x,hx,rfl⟩:=XaF.1 ht
  have:=h1 x hx
  dsimp only
  exact⟨this.1,by omega,by omega⟩
 ·rw[if_neg q]
  exact⟨fun t ht=>absurd ht Xay,List.Pairwise.nil,h3,h4⟩
theorem ZFG {l:List (Int×Int)} {x:Int} (h:∀t∈l,1≤t.1):0≤ZkJ l x:=by
 unfold ZkJ
 induction l with
 |nil=>exact Xat _
 |cons t l ih=>
  have i1:=ih (fun y hy=>h y (Xao _ hy))
  have:=h t Xas
  by_cases q:vof t.2=x
  ·rw[Xa8 (p:=fun t:Int×Int=>decide (vof t.2=x)) (Xad q),XaQ,XbN]
   omega
  ·rw[Xa7 (p:=fun t:Int×Int=>decide (vof t.2=x)) (by rw[Xaf];exact q)]
   exact i1
theorem ZLd {c:Zbx} {x:Int} (h:ZG c=true):ZG (ZCm c x)=true:=by
 obtain⟨h1,h2,h3,h4⟩:=ZkL.1 h
 have:=ZFG (x:=x) (fun t ht=>(h1 t ht).2.1)
 rw[ZkL]
 unfold ZCm
 exact⟨fun t ht=>h1 t (XaM.1 ht).1,h2.filter _,by dsimp only;omega,by dsimp only;omega⟩
theorem ZMX {l:Int} (h:ZZ l=true):ZG ([(1,l)],0)=true:=by
 rw[ZkL]
 refine⟨fun t ht=>?_,Xbg _ _,Xat _,by show (0:Int)≤20000;decide⟩
 rw[Xah]at ht
 subst ht
 exact⟨h,by show (1:Int)≤1;decide,by show (1:Int)≤1000;decide⟩
def ZB1 (s:ZE) (k:Nat):Prop:=if s.1=7 then True else if s.1=6 then False else(k:Int)=s.2.1∨(s.1=1∧(k:Int)=s.2.2.1)
theorem ZKl {d:DbT} {s:ZE} (hd:Zbv d.1) (hl:d.1.length≤1000000) (h:(Zdz d s).1=true):ZG (ofR (Zdz d s))=true∧∀v,(∀k,k<d.1.length→ZB1 s k→ZY v (d.1.getD k ([],0))=true)→ZY v (ofR (Zdz d s))=true:=by
 unfold Zdz at h ⊢
 by_cases k6:s.1=6
 ·rw[if_pos k6]at h ⊢
  unfold axB at h ⊢
  cases q:ZZ s.2.1 with
  |false=>rw[q,cff]at h;cases h
  |true=>rw[ctt];exact⟨ZMX q,fun v _=>ZL2⟩
 rw[if_neg k6]at h ⊢
 by_cases k7:s.1=7
 ·rw[if_pos k7]at h ⊢
  cases q:ZG s.2.2.2&&ZqQ (Znr d) s.2.2.2 with
  |false=>rw[q,cff]at h;cases h
  |true=>
   rw[ctt]
   rw[Xae]at q
   refine⟨q.1,fun v hv=>ZKQ (ZD4 hd) (by have:=Zuu d d.1.length;unfold Znr;omega) q.1 q.2 (fun c hc=>?_)⟩
   obtain⟨i,hi,rfl⟩:=ZyC d d.1.length (Nat.le_refl _) c hc
   exact hv i hi (by unfold ZB1;rw[if_pos k7];trivial)
 rw[if_neg k7]at h ⊢
 have hr:∀k,ZB1 s k↔((k:Int)=s.2.1∨(s.1=1∧(k:Int)=s.2.2.1)):=fun k=>by
  unfold ZB1
  rw[if_neg k7,if_neg k6]
 cases qa:Zif d s.2.1 with
 |false=>rw[qa,cff]at h;cases h
 |true=>
  rw[qa,ctt]at h
  rw[ctt]
  obtain⟨a0,a1,a2⟩:=Zv7 qa
  have ca:=(hd _ a2).1
  have ea:∀v,(∀k,k<d.1.length→ZB1 s k→ZY v (d.1.getD k ([],0))=true)→ZY v (ZkK d s.2.1)=true:=fun v hv=>hv s.2.1.toNat a1 ((hr _).2 (Or.inl (by omega)))
  by_cases k1:s.1=1
  ·rw[if_pos k1]at h ⊢
   cases qb:Zif d s.2.2.1 with
   |false=>rw[qb,cff]at h;cases h
   |true=>
    rw[qb,ctt]at h
    rw[ctt]
    obtain⟨b0,b1,b2⟩:=Zv7 qb
    have cb:=(hd _ b2).1
    refine⟨?_,fun v hv=>ZKa ca cb (ea v hv) (hv s.2.2.1.toNat b1 ((hr _).2 (Or.inr ⟨k1,by omega⟩))) h⟩
    unfold ZvY at h ⊢
    rw[ca,cb,Xaj,ctt]at h ⊢
    exact(ZwE h).2
  rw[if_neg k1]at h ⊢
  by_cases k2:s.1=2
  ·rw[if_pos k2]at h ⊢
   obtain⟨m1,m2,m3,m4⟩:=ZNc h
   exact⟨m4,fun v hv=>by rw[m3];exact ZKH m2 (ea v hv)⟩
  rw[if_neg k2]at h ⊢
  by_cases k3:s.1=3
  ·rw[if_pos k3]at h ⊢
   obtain⟨m1,m2,m3,m4⟩:=ZMZ h
   exact⟨m4,fun v hv=>by rw[m3];exact ZKn m2 (ea v hv)⟩
  rw[if_neg k3]at h ⊢
  by_cases k4:s.1=4
  ·rw[if_pos k4]
   unfold ZDd
   rw[ca,ctt]
   exact⟨ZMy ca,fun v hv=>ZKR ca (ea v hv)⟩
  rw[if_neg k4]at h ⊢
  unfold Zzy at h ⊢
  cases q:ZG (ZkK d s.2.1)&&(decide (1≤s.2.2.1)&&decide (s.2.2.1≤12))with
  |false=>rw[q,cff]at h;cases h
  |true=>rw[ctt];exact⟨ZLd ca,fun v hv=>ZJ3 ca (ea v hv)⟩
end Go.AE.Y
