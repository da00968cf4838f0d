/-
  Plain laws of the models, in one text. No conditions.
-/
import Derived.Test.YtaeeiddjpigemaaGreatAEx3
import Derived.Test.YtaeeiddjpigemaaGreatR8M
namespace Go.AE
theorem Zb {α:Type} {p:Prop} [Decidable p] {m:Option α} (h:p):rq p m=m:=if_pos h
theorem ZAU {α:Type} {p:Prop} {m m':Option α} {r:α} (h1:p→m=some r) (h2:m'=some r):nt p m m'=some r:=by
 unfold nt
 split
 ·rename_i hp
  rw[h1 hp,h2,if_pos rfl]
 ·exact h2
theorem ZL {S R:Type} {f:S→Option (S⊕R)} (Inv:S→Prop) (μ:S→Nat) (T:S→R)
  (step:∀s,Inv s→(∃s',f s=some (.inl s')∧Inv s'∧μ s' < μ s∧T s'=T s)∨f s=some (.inr (T s))):∀s,Inv s→loop f s=some (T s):=by
 have key:∀n s,μ s≤n→Inv s→loop f s=some (T s):=by
  intro n
  induction n with
  |zero=>
   intro s hn hs
   rw[ZcB]
   rcases step s hs with⟨s',h1,_,h3,_⟩|h1
   ·omega
   ·rw[h1];rfl
  |succ n ih=>
   intro s hn hs
   rw[ZcB]
   rcases step s hs with⟨s',h1,h2,h3,h4⟩|h1
   ·rw[h1,←h4];exact ih s' (by omega) h2
   ·rw[h1];rfl
 exact fun s=>key _ s (Nat.le_refl _)
theorem ZbX {S R:Type} {f:S→Option (S⊕R)} (Inv:S→Prop) (μ:S→Nat) (Q:R→Prop)
  (step:∀s,Inv s→(∃s',f s=some (.inl s')∧Inv s'∧μ s' < μ s)∨(∃r,f s=some (.inr r)∧Q r)):∀s,Inv s→∃r,loop f s=some r∧Q r:=by
 have key:∀n s,μ s≤n→Inv s→∃r,loop f s=some r∧Q r:=by
  intro n
  induction n with
  |zero=>
   intro s hn hs
   rw[ZcB]
   rcases step s hs with⟨s',h1,_,h3⟩|⟨r,h1,h2⟩
   ·omega
   ·rw[h1];exact⟨r,rfl,h2⟩
  |succ n ih=>
   intro s hn hs
   rw[ZcB]
   rcases step s hs with⟨s',h1,h2,h3⟩|⟨r,h1,h2⟩
   ·rw[h1];exact ih s' (by omega) h2
   ·rw[h1];exact⟨r,rfl,h2⟩
 exact fun s=>key _ s (Nat.le_refl _)
theorem ZdP {R:Type} {f:Int→Option (Int⊕R)} (n:Nat) (p:Nat→Bool) (bad:R) (fin:R)
  (h:∀i:Nat,i<n→(∀j,j<i→p j=true)→f i=some (bif p i then .inl ((i:Int)+1)else .inr bad)) (hn:f n=some (.inr fin)):loop f 0=some (bif (List.range n).all p then fin else bad):=by
 have key:∀k i:Nat,i+k=n→(∀j,j<i→p j=true)→loop f (i:Int)=some (bif (List.range' i k).all p then fin else bad):=by
  intro k
  induction k with
  |zero=>
   intro i hi _
   have:i=n:=by omega
   subst this
   rw[ZcB,hn]
   simp
  |succ k ih=>
   intro i hi hpre
   rw[ZcB,h i (by omega) hpre]
   cases hp:p i with
   |true=>
    have:=ih (i+1) (by omega) (fun j hj=>by
     rcases Xag j i with h1|h1
     ·exact hpre j h1
     ·have:j=i:=by omega
      subst this;exact hp)
    simp only[XaP,cond_true]
    rw[show ((i:Int)+1)=((i+1:Nat):Int) by omega,this]
    simp[List.range'_succ,hp]
   |false=>simp[List.range'_succ,hp]
 have:=key n 0 (by omega) (fun j hj=>by omega)
 simpa [List.range_eq_range']using this
theorem ZhH {α:Type} {f:Int→Option (Int⊕Int)} (l:List α) (d:α) (p:α→Bool) (h:∀i:Nat,i<l.length→f i=some (bif p (l.getD i d)then .inr (i:Int)else .inl ((i:Int)+1))) (hn:f l.length=some (.inr (-1))) :
  ∃r,loop f 0=some r∧decide (0≤r)=l.any p:=by
 have key:∀k i:Nat,i+k=l.length→∃r,loop f (i:Int)=some r∧decide (0≤r)=(l.drop i).any p:=by
  intro k
  induction k with
  |zero=>
   intro i hi
   have:i=l.length:=by omega
   subst this
   rw[ZcB,hn]
   exact⟨-1,rfl,by simp⟩
  |succ k ih=>
   intro i hi
   have hi':i<l.length:=by omega
   rw[ZcB,h i hi',Xbx hi',List.any_cons]
   have e:l.getD i d=l[i]:=by rw[Xaa,Xac hi'];rfl
   rw[e]
   cases hp:p l[i]with
   |true=>exact⟨i,rfl,by simp⟩
   |false=>
    obtain⟨r,h1,h2⟩:=ih (i+1) (by omega)
    refine⟨r,?_,by simpa using h2⟩
    simp only[cond_false,XaP]
    rw[show ((i:Int)+1)=((i+1:Nat):Int) by omega]
    exact h1
 exact key l.length 0 (by omega)
theorem ZnE {α β:Type} (l:List α) (f:α→β) (i:Nat) (d:α) (d':β) (h:i<l.length):(l.map f).getD i d'=f (l.getD i d):=by
 simp[Xaa,h]
theorem Zje {α:Type} (l:List α) (p:α→Bool) (d:α):(List.range l.length).all (fun i=>p (l.getD i d))=l.all p:=by
 rw[Xbp,Xar,Xar]
 constructor
 ·intro h x hx
  obtain⟨i,hi,rfl⟩:=Xat.1 hx
  have:=h i (Xaz.2 hi)
  simpa [Xaa,hi]using this
 ·intro h i hi
  have hi:=Xaz.1 hi
  have:=h _ (Xbs hi)
  simpa [Xaa,hi]using this
theorem Zf {α:Type} {n:Int} {m:Option α} (h1 : -9223372036854775808≤n) (h2:n≤9223372036854775807):rq (i64 n) m=m:=if_pos ⟨h1,h2⟩
theorem Zd {α:Type} {p:Prop} [Decidable p] {m m':α} (h:p):cond (decide p) m m'=m:=by rw[Xad h];rfl
theorem Zc {α:Type} {p:Prop} [Decidable p] {m m':α} (h:¬p):cond (decide p) m m'=m':=by rw[decide_eq_false h];rfl
theorem Zd2 {α:Type} {a b:Int} {m m':α} (h:a≠b):cond (a != b) m m'=m:=by rw[bne_iff_ne.2 h];rfl
theorem Zdu {α:Type} {a b:Int} {m m':α} (h:a=b):cond (a != b) m m'=m':=by subst h;simp
theorem Zu {α:Type} {a b:Int} {m m':α} (h:a=b):cond (a==b) m m'=m:=by subst h;simp
theorem Zo {α:Type} {a b:Int} {m m':α} (h:a≠b):cond (a==b) m m'=m':=by rw[beq_eq_false_iff_ne.2 h];rfl
theorem cnt {α:Type} {a b:α}:cond (!true) a b=b:=Eq.trans (congrArg (fun x=>cond x a b) (Xbm)) (Eq.trans rfl (id rfl))
theorem cnf {α:Type} {a b:α}:cond (!false) a b=a:=Eq.trans (congrArg (fun x=>cond x a b) (Xbc)) (Eq.trans rfl (id rfl))
theorem ctt {α:Type} {a b:α}:cond true a b=a:=Eq.trans rfl (id rfl)
theorem cff {α:Type} {a b:α}:cond false a b=b:=Eq.trans rfl (id rfl)
theorem Ze {α β:Type} {a:α} {f:α→Option β}:(some a).bind f=f a:=Eq.trans (XaP a f) (id rfl)
theorem ZQe {b:Bool}:(true&&b)=b:=Eq.trans (Xai b) (id rfl)
end Go.AE
namespace Go.AE.Y
open Go Go.AE
def Zbe (n:Int):Bool:=n != 0&&(decide (-12≤n)&&decide (n≤12))
theorem ZG {n:Int}:Zbe n=true↔n≠0 ∧ -12≤n∧n≤12:=by simp[Zbe]
theorem ZNf {n:Int}:Zbe (0 - n)=Zbe n:=by
 rw[Xbp,ZG,ZG];omega
theorem ZoI (n:Int):ZhJ n=some (Zbe n):=by
 unfold ZhJ ZbB Zbe
 cases (n != 0)<;>cases (decide (-12≤n))<;>rfl
theorem Ztw (n:Int):Zol n=some (Zbe n):=by
 unfold Zol Zbe
 cases (n != 0)<;>cases (decide (-12≤n))<;>rfl
def vof (n:Int):Int:=max n (-n)
theorem ZeQ {n:Int} (h : -13≤n∧n≤13):Zdk n=some (vof n):=by
 unfold Zdk vof
 simp(disch:=omega)only[Zf,Int.zero_sub]
theorem Ztv {n:Int} (h : -13≤n∧n≤13):ZlF n=some (vof n):=by
 unfold ZlF vof
 by_cases h1:n<0
 ·simp(disch:=omega)only[Zd,Zf]
  congr 1;omega
 ·simp(disch:=omega)only[Zc]
  congr 1;omega
theorem ZF {α:Type} {l:List α} {i:Nat} {d:α} (h:i<l.length):l.getD i d∈l:=by
 rw[Xaa,Xac h];exact Xbs h
end Go.AE.Y
namespace Go.AE.Y
open Go Go.AE
def ZT (v:List Bool) (l:Int):Bool:=v.getD (vof l - 1).toNat false==decide (0<l)
end Go.AE.Y
namespace Go.AE.Y
open Go Go.AE
def Zjy (a:List (List (Int×Int)×Int)):Prop:=a.length≤1048576∧∀x∈a,x.1.length≤1048576
def ZfP (c:List (Int×Int)) (i:Nat):Bool:=
 Zbe (c.getD i (0,0)).2&&((decide (1≤(c.getD i (0,0)).1)&&decide ((c.getD i (0,0)).1≤1000))&&(i==0||decide (vof (c.getD (i - 1) (0,0)).2<vof (c.getD i (0,0)).2)))
def ZA (c:List (Int×Int)×Int):Bool:=(List.range c.1.length).all (ZfP c.1)&&(decide (0≤c.2)&&decide (c.2≤20000))
theorem ZEA {c:List (Int×Int)} {i:Nat} (h:ZfP c i=true):Zbe (c.getD i (0,0)).2=true:=by
 unfold ZfP at h;simp only[Xaf]at h;exact h.1
theorem ZY (c:List (Int×Int)×Int) (h:c.1.length≤4000000000):ZV c=some (ZA c):=by
 unfold ZV ZA
 rw[ZdP c.1.length (ZfP c.1) false (decide (0≤c.2)&&decide (c.2≤20000))]
 ·cases (List.range c.1.length).all (ZfP c.1)
  ·rw[cond_false,Xae]
  ·rw[cond_true,Xai]
 ·intro i hi hpre
  unfold ZfD ZfP
  simp(disch:=omega)only[Zd,Zb,Ztw,XaP,Xab]
  cases hl:Zbe (c.1.getD i (0,0)).2 with
  |false=>simp
  |true=>
   have hl':=ZG.1 hl
   rw[cnt,ZQe]
   by_cases h1:(c.1.getD i (0,0)).1<1
   ·rw[Zd h1,decide_eq_false (show ¬1≤(c.1.getD i (0,0)).1 by omega)];simp
   ·rw[Zc h1,Xad (show 1≤(c.1.getD i (0,0)).1 by omega)]
    by_cases h2:1000<(c.1.getD i (0,0)).1
    ·rw[Zd h2,decide_eq_false (show ¬(c.1.getD i (0,0)).1≤1000 by omega)];simp
    ·rw[Zc h2,Xad (show (c.1.getD i (0,0)).1≤1000 by omega)]
     by_cases h0:i=0
     ·subst h0
      simp(disch:=omega)only[Zc,Zf]
      simp
     ·have hp1:=ZG.1 (ZEA (hpre (i - 1) (by omega)))
      have e1:((i:Int) - 1).toNat=i - 1:=by omega
      rw[show (i==0)=false by simpa using h0]
      simp(disch:=omega)only[Zd,Zf,Zb,e1,Ztv,XaP]
      by_cases hv:vof (c.1.getD (i - 1) (0,0)).2<vof (c.1.getD i (0,0)).2
      ·rw[Zc (by omega),Xad hv];simp
      ·rw[Zd (by omega),decide_eq_false hv];simp
 ·unfold ZfD
  simp(disch:=omega)only[Zc]
  by_cases h1:0≤c.2
  ·rw[Zd h1,Xad h1];simp
  ·rw[Zc h1,decide_eq_false h1];simp
theorem ZbK (n a b:Int):ZbB n a b=some (decide (a≤n)&&decide (n≤b)):=by
 unfold ZbB
 by_cases h:a≤n
 ·rw[Zd h,Xad h];simp
 ·rw[Zc h,decide_eq_false h];simp
theorem Zbh (c:List (Int×Int)×Int) (h:c.1.length≤4000000000):Z5 c=some (ZA c):=by
 unfold Z5
 refine ZL (fun s:Int×Int=>∃i:Nat,s.2=i∧i≤c.1.length∧s.1=(if i=0 then 0 else vof (c.1.getD (i - 1) (0,0)).2)∧∀j,j<i→ZfP c.1 j=true) (fun s=>c.1.length - s.2.toNat) (fun _=>ZA c) ?_ _ ⟨0,rfl,Nat.zero_le _,rfl,fun j hj=>by omega⟩
 rintro⟨b,s⟩ ⟨i,rfl,hi,hb,hpre⟩
 dsimp only at hb ⊢
 unfold Zi1
 rcases Xag i c.1.length with h1|h1
 ·have bad:ZfP c.1 i=false→ZA c=false:=fun hq=>by
   unfold ZA
   rw[List.all_eq_false.2 ⟨i,Xaz.2 h1,by rw[hq];simp⟩]
   rw[Xae]
  simp(disch:=omega)only[Zd,Zb,ZoI,Ze,Xab]
  cases hl:Zbe (c.1.getD i (0,0)).2 with
  |false=>
   right
   rw[bad (by unfold ZfP;rw[hl,Xae]),cnf]
  |true=>
   have hl':=ZG.1 hl
   have hv1:1≤vof (c.1.getD i (0,0)).2:=by unfold vof;omega
   rw[cnt]
   rw[ZeQ (by omega),Ze]
   by_cases hv:vof (c.1.getD i (0,0)).2≤b
   ·right
    rw[Zd hv,bad ?_]
    unfold ZfP
    by_cases h0:i=0
    ·subst h0;rw[if_pos rfl]at hb;omega
    ·rw[if_neg h0]at hb
     rw[show (i==0)=false by simpa using h0,decide_eq_false (show ¬vof (c.1.getD (i - 1) (0,0)).2<vof (c.1.getD i (0,0)).2 by omega)]
     simp
   ·rw[Zc hv,ZbK]
    rw[Ze]
    cases hw:(decide (1≤(c.1.getD i (0,0)).1)&&decide ((c.1.getD i (0,0)).1≤1000))with
    |false=>
     right
     rw[bad (by unfold ZfP;rw[hw];simp),cnf]
    |true=>
     left
     rw[cnt,Ze,Zf (by omega) (by omega)]
     refine⟨_,rfl,⟨i+1,by simp,by omega,by simp,fun j hj=>?_⟩,by dsimp only;omega,trivial⟩
     rcases Xag j i with h2|h2
     ·exact hpre j h2
     ·have:j=i:=by omega
      subst this
      unfold ZfP
      rw[hl,hw]
      by_cases h0:j=0
      ·rw[show (j==0)=true by simpa using h0];simp
      ·rw[if_neg h0]at hb
       rw[Xad (show vof (c.1.getD (j - 1) (0,0)).2<vof (c.1.getD j (0,0)).2 by omega)]
       simp
 ·right
  have:i=c.1.length:=by omega
  subst this
  dsimp only
  rw[Zc (by omega),ZbK,Ze]
  unfold ZA
  rw[Xar.2 (fun j hj=>hpre j (Xaz.1 hj)),Xai]
def ZeE (l:List (List (Int×Int)×Int)):Bool:=l.all ZA&&decide (l.length≤400)
theorem Zrc (l:List (List (Int×Int)×Int)) (h:Zjy l):Zg5 l=some (ZeE l):=by
 have h1:=h.1
 unfold Zg5 ZeE
 rw[ZdP l.length (fun i=>ZA (l.getD i ([],0))) false (decide (l.length≤400)),Zje l ZA ([],0)]
 ·cases l.all ZA<;>rfl
 ·intro i hi _
  have h2:=h.2 _ (ZF (d:=([],0)) hi)
  unfold Zhv
  simp(disch:=omega)only[Zd,Zb,Xab]
  rw[ZY _ (by omega)]
  simp(disch:=omega)only[XaP,Zf]
  cases ZA (l.getD i ([],0))<;>rfl
 ·unfold Zhv
  simp(disch:=omega)only[Zc]
  rw[decide_eq_decide.2 (show ((l.length:Int)≤400↔l.length≤400) by omega)]
theorem ZqV (l:List (List (Int×Int)×Int)) (h:Zjy l):Zg0 l=some (ZeE l):=by
 have h1:=h.1
 unfold Zg0 ZeE
 by_cases h4:l.length≤400
 ·rw[Zd (by omega),Xad h4]
  unfold Zto Zcb Zcv
  obtain⟨r,hr1,hr2⟩:=ZhH (f:=Z2 l) l ([],0) (fun x=>!ZA x) (fun i hi=>by
   have h2:=h.2 _ (ZF (d:=([],0)) hi)
   unfold Z2 ZqZ
   simp(disch:=omega)only[Zd,Zb,Xab]
   rw[Zbh _ (by omega)]
   simp(disch:=omega)only[XaP,Zf]
   cases ZA (l.getD i ([],0))<;>rfl) (by
   unfold Z2
   simp(disch:=omega)only[Zc])
  rw[hr1]
  simp only[XaP,hr2]
  rw[Xa1]
  simp
 ·rw[Zc (by omega),decide_eq_false h4]
  simp
def Zcy (v:List Bool) (c:List (Int×Int)):Int:=c.foldl (fun a t=>bif ZT v t.2 then a+t.1 else a) 0
def ZR (v:List Bool) (c:List (Int×Int)×Int):Bool:=decide (c.2≤Zcy v c.1)
theorem ZMe {c:List (Int×Int)×Int} (h:ZA c=true):∀i,i<c.1.length→((c.1.getD i (0,0)).2≠0 ∧ -12≤(c.1.getD i (0,0)).2∧(c.1.getD i (0,0)).2≤12)∧1≤(c.1.getD i (0,0)).1∧(c.1.getD i (0,0)).1≤1000:=by
 intro i hi
 unfold ZA at h
 simp only[Xaf,Xar]at h
 have h1:=h.1 i (Xaz.2 hi)
 refine⟨ZG.1 (ZEA h1),?_⟩
 unfold ZfP at h1
 simp only[Xaf,Xah]at h1
 exact h1.2.1
theorem ZGL {l:List (List (Int×Int)×Int)} (h:ZeE l=true):∀x∈l,ZA x=true:=by
 unfold ZeE at h
 simp only[Xaf,Xar]at h
 exact h.1
end Go.AE.Y
namespace Go.AE.Y
open Go Go.AE
abbrev ZI:=Int×List Int×List Int×Int×List (List Int)
abbrev Zp:=List Int×List ZI
def Zob (l:List Int) (n:Int) (i:Nat):Bool:=(decide (0≤l.getD i 0)&&decide (l.getD i 0≤n - 1)) && !((l.take i).any (fun x=>l.getD i 0==x))
def ZqT (l:List Int) (n:Int):Bool:=(List.range l.length).all (Zob l n)
def ZrZ (n:Int):Bool:=n != 0&&(decide (-9≤n)&&decide (n≤9))
def ZdU (n:Int):Bool:=decide (0≤n)&&decide (n≤3)
def ZC0 (r:ZI):Bool:=decide ((r.2.2.1.length:Int)=r.2.1.length)&&((decide (-1000≤r.2.2.2.1)&&decide (r.2.2.2.1≤1000))&&r.2.2.1.all ZrZ)
def ZA2 (r:ZI) (row:List Int):Bool:=decide ((row.length:Int)=r.2.1.length)&&row.all ZdU
def ZML (r:ZI):Bool:=decide ((r.2.2.2.2.length:Int)≤8)&&r.2.2.2.2.all (ZA2 r)
def Zho (r:ZI):Bool:=bif r.1==1 then ZC0 r else bif r.1==3 then ZML r else bif r.1==4 then decide (r.2.1.length=2)else r.1==2
def ZEr (r:ZI):Bool:=(r.1==1||(decide (r.2.2.1.length=0)&&r.2.2.2.1==0))&&(r.1==3||decide (r.2.2.2.2.length=0))
def Zf5 (n:Int) (r:ZI):Bool:=ZqT r.2.1 n&&(decide (1≤r.2.1.length)&&(ZEr r&&Zho r))
def Zn1 (l:List Int):Int:=l.foldl (fun a n=>a+(n+1)) 0
def Zz (m:Zp):Bool:=(decide (1≤m.1.length)&&decide (m.1.length≤5))&&(decide (m.2.length≤8)&&(m.1.all ZdU&&(decide (Zn1 m.1≤12)&&m.2.all (Zf5 m.1.length))))
def Zff (r:ZI):Prop:=r.2.1.length≤1048576∧r.2.2.1.length≤1048576∧r.2.2.2.2.length≤1048576∧∀x∈r.2.2.2.2,x.length≤1048576
def Zde (m:Zp):Prop:=m.1.length≤1048576∧m.2.length≤1048576∧∀r∈m.2,Zff r
theorem Zwm (s:List Int) (v:Int) (h:s.length≤4000000000):Zcz s v=some (s.any (fun x=>v==x)):=by
 unfold Zcz Zlz
 obtain⟨r,hr1,hr2⟩:=ZhH (f:=ZcY s v) s 0 (fun x=>v==x) (fun i hi=>by
  unfold ZcY
  rw[Zd (by omega),Zb ⟨by omega,by omega⟩,Xab]
  cases v==s.getD i 0 with
  |true=>rw[ctt,ctt]
  |false=>rw[cff,cff,Zf (by omega) (by omega)]) (by
  unfold ZcY
  rw[Zc (by omega)])
 rw[hr1,Ze,hr2]
theorem ZOA {l:List Int} {i:Nat} (hi:i≤l.length) (v:Int):(l.take i).any (fun x=>v==x) = !(List.range i).all (fun k=>!(l.getD k 0==v)):=by
 have hl:(l.take i).length=i:=by rw[Xay];omega
 have h:=Zje (l.take i) (fun x=>!(v==x)) 0
 rw[hl]at h
 rw[Xa1,←h]
 congr 1
 rw[Xbp,Xar,Xar]
 refine forall_congr' fun k=>forall_congr' fun hk=>?_
 have hk:=Xaz.1 hk
 have e:(l.take i).getD k 0=l.getD k 0:=by rw[Xaa,XaD,if_pos hk,Xaa]
 rw[e]
 simp only[XaY,beq_eq_false_iff_ne,ne_eq]
 exact⟨fun h e=>h e.symm,fun h e=>h e.symm⟩
theorem ZBc (l:List Int) (h:l.length≤4000000000):Zcc l=some (!l.all ZrZ):=by
 unfold Zcc ZdQ
 obtain⟨r,hr1,hr2⟩:=ZhH (f:=ZbA l) l 0 (fun x=>!ZrZ x) (fun i hi=>by
  unfold ZbA ZpQ
  rw[Zd (by omega),Zb ⟨by omega,by omega⟩,Xab]
  unfold ZrZ
  cases hz:(l.getD i 0==0)with
  |true=>rw[ctt,Ze,ctt,bne,hz];rfl
  |false=>
   rw[cff,ZbK,Ze,Ze,bne,hz,Xbc,Xai]
   cases (decide (-9≤l.getD i 0)&&decide (l.getD i 0≤9))with
   |true=>rw[cnt,Zf (by omega) (by omega),cnt]
   |false=>rw[cnf,cnf]) (by
  unfold ZbA
  rw[Zc (by omega)])
 rw[hr1,Ze,hr2,Xa1]
 simp only[XbI]
theorem ZyZ (l:List Int) (h:l.length≤4000000000):Zb4 l=some (!l.all ZdU):=by
 unfold Zb4 Zdw
 obtain⟨r,hr1,hr2⟩:=ZhH (f:=Zbp l) l 0 (fun x=>!ZdU x) (fun i hi=>by
  unfold Zbp ZnK
  rw[Zd (by omega),Zb ⟨by omega,by omega⟩,Xab,ZbK,Ze,Ze]
  unfold ZdU
  cases (decide (0≤l.getD i 0)&&decide (l.getD i 0≤3))with
  |true=>rw[cnt,Zf (by omega) (by omega),cnt]
  |false=>rw[cnf,cnf]) (by
  unfold Zbp
  rw[Zc (by omega)])
 rw[hr1,Ze,hr2,Xa1]
 simp only[XbI]
theorem ZBd (r0:ZI) (h:Zff r0):Zb5 r0.2.2.2.2 r0=some (!r0.2.2.2.2.all (ZA2 r0)):=by
 obtain⟨h1,h2,h3,h4⟩:=h
 unfold Zb5 Zdx
 obtain⟨r,hr1,hr2⟩:=ZhH (f:=Zbq r0.2.2.2.2 r0) r0.2.2.2.2 [] (fun x=>!ZA2 r0 x) (fun i hi=>by
  have hx:=h4 _ (ZF (d:=[]) hi)
  unfold Zbq ZpR
  rw[Zd (by omega),Zb ⟨by omega,by omega⟩,Xab]
  unfold ZA2
  by_cases hl:((r0.2.2.2.2.getD i []).length:Int)=r0.2.1.length
  ·rw[Zdu hl,ZyZ _ (by omega),Ze,Ze,Xad hl,Xai]
   cases (r0.2.2.2.2.getD i []).all ZdU with
   |true=>rw[cnt,Zf (by omega) (by omega),cnt]
   |false=>rw[cnf,cnf]
  ·rw[Zd2 hl,Ze,ctt,decide_eq_false hl,Xae,cnf]) (by
  unfold Zbq
  rw[Zc (by omega)])
 rw[hr1,Ze,hr2,Xa1]
 simp only[XbI]
theorem ZzI (r:ZI) (h:Zff r):Zen r ()=some (.inr (Zho r)):=by
 obtain⟨h1,h2,h3,h4⟩:=h
 unfold Zen Zho
 cases r.1==1 with
 |true=>
  rw[ctt,ctt]
  unfold ZC0
  by_cases hl:(r.2.2.1.length:Int)=r.2.1.length
  ·rw[Zu hl,Xad hl,Xai,ZbK,Ze]
   cases (decide (-1000≤r.2.2.2.1)&&decide (r.2.2.2.1≤1000))with
   |true=>rw[ctt,ZBc _ (by omega),Ze,Xai,XbI]
   |false=>rw[cff,Xae]
  ·rw[Zo hl,decide_eq_false hl,Xae]
 |false=>
  rw[cff,cff]
  cases r.1==3 with
  |true=>
   rw[ctt,ctt]
   unfold ZML
   by_cases hl:(r.2.2.2.2.length:Int)≤8
   ·rw[Zd hl,Xad hl,Xai,ZBd r ⟨h1,h2,h3,h4⟩,Ze,XbI]
   ·rw[Zc hl,decide_eq_false hl,Xae]
  |false=>
   rw[cff,cff]
   cases r.1==4 with
   |true=>
    rw[ctt,ctt]
    congr 2
    rw[Xbp,beq_iff_eq,decide_eq_true_iff]
    omega
   |false=>rw[cff,cff]
theorem ZCc (r:ZI) (n:Int) (h:Zff r) (hn:0≤n∧n≤4000000000):Zof r n=some (Zf5 n r):=by
 have hs:=h
 obtain⟨h1,h2,h3,h4⟩:=h
 unfold Zof Zf5 ZqT
 rw[ZdP r.2.1.length (Zob r.2.1 n) false (decide (1≤r.2.1.length)&&(ZEr r&&Zho r))]
 ·cases (List.range r.2.1.length).all (Zob r.2.1 n)<;>rfl
 ·intro i hi _
  unfold Zj8 Zob
  rw[Zd (by omega),Zb ⟨by omega,by omega⟩,Zf (by omega) (by omega),Xab,ZbK,Ze]
  cases (decide (0≤r.2.1.getD i 0)&&decide (r.2.1.getD i 0≤n - 1))with
  |false=>rw[cnf,Xae,cff]
  |true=>
   rw[cnt,Xai,Zb ⟨by omega,by omega⟩,Zwm _ _ (by rw[Xay];omega),Ze]
   cases (r.2.1.take i).any (fun x=>r.2.1.getD i 0==x)with
   |true=>rw[ctt,cnt]
   |false=>rw[cff,Zf (by omega) (by omega),cnf]
 ·unfold Zj8
  rw[Zc (by omega)]
  by_cases h0:r.2.1.length=0
  ·rw[Zu (by omega),show decide (1≤r.2.1.length)=false from decide_eq_false (by omega),Xae]
  ·rw[Zo (by omega),show decide (1≤r.2.1.length)=true from Xad (by omega),Xai,ZzI r hs]
   unfold ZEr
   have e3:(r.1 != 3) = !(r.1==3):=rfl
   have e1:(r.1 != 1) = !(r.1==1):=rfl
   rw[e1,e3]
   have hrows:(cond (decide ((0:Int)<(r.2.2.2.2.length:Int))) (some (Sum.inr false)) (some (Sum.inr (Zho r))):Option (Int⊕Bool))=some (Sum.inr (decide (r.2.2.2.2.length=0)&&Zho r)):=by
    by_cases hq:(0:Int)<r.2.2.2.2.length
    ·rw[Zd hq,show decide (r.2.2.2.2.length=0)=false from decide_eq_false (by omega),Xae]
    ·rw[Zc hq,show decide (r.2.2.2.2.length=0)=true from Xad (by omega),Xai]
   rw[hrows]
   cases r.1==1 with
   |true=>
    rw[cnt,XbQ,Xai]
    cases r.1==3 with
    |true=>rw[cnt,XbQ,Xai]
    |false=>rw[cnf,XbC]
   |false=>
    rw[cnf,XbC]
    by_cases hc:(0:Int)<r.2.2.1.length
    ·rw[Zd hc,show decide (r.2.2.1.length=0)=false from decide_eq_false (by omega),Xae,Xae,Xae]
    ·rw[Zc hc,show decide (r.2.2.1.length=0)=true from Xad (by omega),Xai]
     have eb:(r.2.2.2.1 != 0) = !(r.2.2.2.1==0):=rfl
     rw[eb]
     cases r.2.2.2.1==0 with
     |false=>rw[cnf,Xae,Xae]
     |true=>
      rw[cnt,Xai]
      cases r.1==3 with
      |true=>rw[cnt,XbQ,Xai]
      |false=>rw[cnf,XbC]
theorem ZAs:∀(l:List Int),l.all ZdU=true→0≤Zn1 l∧Zn1 l≤4*l.length:=by
 have key:∀(l:List Int) (a:Int),l.all ZdU=true→a≤l.foldl (fun a n=>a+(n+1)) a∧l.foldl (fun a n=>a+(n+1)) a≤a+4*l.length:=by
  intro l
  induction l with
  |nil=>intro a _;simp
  |cons x r ih=>
   intro a h
   rw[List.all_cons,Xaf]at h
   have hx:=h.1
   unfold ZdU at hx
   simp only[Xaf,Xah]at hx
   obtain⟨i1,i2⟩:=ih (a+(x+1)) h.2
   rw[Xa6,Xak]
   omega
 intro l h
 have:=key l 0 h
 unfold Zn1
 omega
theorem ZHi (m:Zp) (h:Zde m):ZbH m.2 m=some (!m.2.all (Zf5 m.1.length)):=by
 obtain⟨h1,h2,h3⟩:=h
 unfold ZbH ZcO
 obtain⟨r,hr1,hr2⟩:=ZhH (f:=Zbb m.2 m) m.2 (0,([],([],(0,[])))) (fun x=>!Zf5 m.1.length x) (fun i hi=>by
  unfold Zbb ZoG
  rw[Zd (by omega),Zb ⟨by omega,by omega⟩,Xab,ZCc _ _ (h3 _ (ZF hi)) ⟨by omega,by omega⟩,Ze,Ze]
  cases Zf5 m.1.length (m.2.getD i (0,([],([],(0,[])))))with
  |true=>rw[cnt,Zf (by omega) (by omega),cnt]
  |false=>rw[cnf,cnf]) (by
  unfold Zbb
  rw[Zc (by omega)])
 rw[hr1,Ze,hr2,Xa1]
 simp only[XbI]
theorem ZBl (l:List Int) (x:Int):Zn1 (l++[x])=Zn1 l+(x+1):=by unfold Zn1;rw[Xba];rfl
theorem Zy5 {l:List Int} {i:Nat} (h:∀j,j<i→ZdU (l.getD j 0)=true):(l.take i).all ZdU=true:=by
 rw[Xar]
 intro x hx
 obtain⟨j,hj,rfl⟩:=Xat.1 hx
 rw[Xay]at hj
 have:=h j (by omega)
 rw[Xaa,Xac (by omega)]at this
 rw[Xa9]
 exact this
theorem Zoq {l:List Int} {i:Nat} (h:i<l.length):l.take (i+1)=l.take i++[l.getD i 0]:=by
 rw[Xbg,Xaa,Xac h]
 rfl
theorem Zgn (m:Zp) (h:Zde m):Zeu m=some (Zz m):=by
 have hs:=h
 obtain⟨h1,h2,h3⟩:=h
 unfold Zeu Zz
 rw[ZbK,Ze,show decide ((1:Int)≤m.1.length)=decide (1≤m.1.length) from decide_eq_decide.2 (by omega),show decide ((m.1.length:Int)≤5)=decide (m.1.length≤5) from decide_eq_decide.2 (by omega)]
 cases hw:(decide (1≤m.1.length)&&decide (m.1.length≤5))with
 |false=>rw[cnf,Xae]
 |true=>
  simp only[Xaf,Xah]at hw
  rw[cnt,Xai]
  by_cases h8:m.2.length≤8
  ·rw[Zc (by omega),Xad h8,Xai]
   refine ZL (fun s:Int×Int=>∃i:Nat,s.2=i∧i≤m.1.length∧s.1=Zn1 (m.1.take i)∧∀j,j<i→ZdU (m.1.getD j 0)=true) (fun s=>m.1.length - s.2.toNat) (fun _=>m.1.all ZdU&&(decide (Zn1 m.1≤12)&&m.2.all (Zf5 m.1.length))) ?_ _ ⟨0,rfl,Nat.zero_le _,rfl,fun j hj=>by omega⟩
   rintro⟨c,s⟩ ⟨i,rfl,hi,hc,hpre⟩
   dsimp only at hc ⊢
   subst hc
   have hb:=ZAs _ (Zy5 hpre)
   rw[Xay]at hb
   unfold ZnG
   dsimp only
   rcases Xag i m.1.length with h5|h5
   ·rw[Zd (by omega),Zb ⟨by omega,by omega⟩,Xab,ZbK,Ze]
    cases hq:(decide (0≤m.1.getD i 0)&&decide (m.1.getD i 0≤3))with
    |false=>
     right
     rw[cnf,List.all_eq_false.2 ⟨_,ZF h5,by unfold ZdU;rw[hq];simp⟩,Xae]
    |true=>
     left
     have hq2:=hq
     simp only[Xaf,Xah]at hq2
     rw[cnt,Zf (by omega) (by omega),Zf (by omega) (by omega),Zf (by omega) (by omega)]
     refine⟨_,rfl,⟨i+1,by simp,by omega,?_,fun j hj=>?_⟩,by dsimp only;omega,rfl⟩
     ·dsimp only
      rw[Zoq h5,ZBl]
     ·rcases Xag j i with h6|h6
      ·exact hpre j h6
      ·rw[show j=i by omega];exact hq
   ·right
    have:i=m.1.length:=by omega
    subst this
    have hall:m.1.all ZdU=true:=by
     have:=Zy5 hpre
     rwa [Xa2 (Nat.le_refl _)]at this
    rw[Zc (by omega),hall,Xai,Xa2 (Nat.le_refl _)]
    by_cases h12:Zn1 m.1≤12
    ·rw[Zd h12,Xad h12,Xai,ZHi m hs,Ze,XbI]
    ·rw[Zc h12,decide_eq_false h12,Xae]
  ·rw[Zd (by omega),decide_eq_false h8,Xae]
theorem ZFK {l:List Int} {i:Nat} (h:l.length≤4000000000) (hi:i<l.length):loop (ZkU l i) (0:Int)=some (bif (l.take i).any (fun x=>l.getD i 0==x)then Sum.inr false else Sum.inl ((i:Int)+1)):=by
 rw[ZOA (by omega),ZdP i (fun k=>!(l.getD k 0==l.getD i 0)) (Sum.inr false) (Sum.inl ((i:Int)+1))]
 ·cases (List.range i).all (fun k=>!(l.getD k 0==l.getD i 0))<;>rfl
 ·intro k hk _
  unfold ZkU
  rw[Zd (by omega),Zb ⟨by omega,by omega⟩,Zb ⟨by omega,by omega⟩,Xab,Xab]
  cases l.getD k 0==l.getD i 0 with
  |true=>rw[ctt,Xbm,cff]
  |false=>rw[cff,Zf (by omega) (by omega),Xbc,ctt]
 ·unfold ZkU
  rw[Zc (by omega),Zf (by omega) (by omega)]
theorem ZFJ (m:Zp) (l:List Int) (h:l.length≤4000000000) (_hm:m.1.length≤4000000000):Zsb m l=some (ZqT l m.1.length&&decide (1≤l.length)):=by
 unfold Zsb ZqT
 rw[ZdP l.length (Zob l m.1.length) false (decide (1≤l.length))]
 ·cases (List.range l.length).all (Zob l m.1.length)<;>rfl
 ·intro i hi _
  unfold Zop Zob
  rw[Zd (by omega),Zb ⟨by omega,by omega⟩,Xab]
  by_cases h1:l.getD i 0<0
  ·rw[Zd h1,decide_eq_false (show ¬0≤l.getD i 0 by omega),Xae,Xae,cff]
  ·rw[Zc h1,Zb ⟨by omega,by omega⟩,Xad (show 0≤l.getD i 0 by omega),Xai]
   by_cases h2:(m.1.length:Int)≤l.getD i 0
   ·rw[Zd h2,decide_eq_false (show ¬l.getD i 0≤(m.1.length:Int) - 1 by omega),Xae,cff]
   ·rw[Zc h2,Xad (show l.getD i 0≤(m.1.length:Int) - 1 by omega),Xai,ZFK h hi]
    cases (l.take i).any (fun x=>l.getD i 0==x)with
    |true=>rw[ctt,Xbm,cff]
    |false=>rw[cff,Xbc,ctt]
 ·unfold Zop
  rw[Zc (by omega)]
  congr 2
  exact decide_eq_decide.2 (by omega)
theorem ZDf (r:ZI) (h:Zff r):Zpw r=some (ZC0 r):=by
 obtain⟨h1,h2,h3,h4⟩:=h
 unfold Zpw ZC0
 rw[←Zje r.2.2.1 ZrZ 0,ZdP r.2.2.1.length (fun i=>ZrZ (r.2.2.1.getD i 0)) false (decide ((r.2.2.1.length:Int)=r.2.1.length)&&(decide (-1000≤r.2.2.2.1)&&decide (r.2.2.2.1≤1000)))]
 ·cases (List.range r.2.2.1.length).all (fun i=>ZrZ (r.2.2.1.getD i 0))with
  |true=>rw[ctt,XbD]
  |false=>rw[cff,XaR,XaR]
 ·intro i hi _
  unfold ZlL ZrZ
  rw[Zd (by omega),Zb ⟨by omega,by omega⟩,Xab]
  by_cases h5:r.2.2.1.getD i 0 < -9
  ·rw[Zd h5,decide_eq_false (show ¬ -9≤r.2.2.1.getD i 0 by omega),Xae,XaR,cff]
  ·rw[Zc h5,Zb ⟨by omega,by omega⟩,Xad (show -9≤r.2.2.1.getD i 0 by omega),Xai]
   by_cases h6:9<r.2.2.1.getD i 0
   ·rw[Zd h6,decide_eq_false (show ¬r.2.2.1.getD i 0≤9 by omega),XaR,cff]
   ·rw[Zc h6,Zb ⟨by omega,by omega⟩,Xad (show r.2.2.1.getD i 0≤9 by omega),XbD,bne]
    cases r.2.2.1.getD i 0==0 with
    |true=>rw[ctt,Xbm,cff]
    |false=>rw[cff,Zf (by omega) (by omega),Xbc,ctt]
 ·unfold ZlL
  rw[Zc (by omega)]
  by_cases hl:(r.2.2.1.length:Int)=r.2.1.length
  ·rw[Zu hl,Xad hl,Xai]
   by_cases h5 : -1000≤r.2.2.2.1
   ·rw[Zd h5,Xad h5,Xai]
   ·rw[Zc h5,decide_eq_false h5,Xae]
  ·rw[Zo hl,decide_eq_false hl,Xae]
theorem ZEw (r:ZI) (h:Zff r) {i:Nat} (hi:i<r.2.2.2.2.length):loop (ZjE r i) (0:Int)=some (bif (r.2.2.2.2.getD i []).all ZdU then Sum.inl ((i:Int)+1)else Sum.inr false):=by
 obtain⟨h1,h2,h3,h4⟩:=h
 have hx:=h4 _ (ZF (d:=[]) hi)
 rw[←Zje (r.2.2.2.2.getD i []) ZdU 0,ZdP (r.2.2.2.2.getD i []).length (fun k=>ZdU ((r.2.2.2.2.getD i []).getD k 0)) (Sum.inr false) (Sum.inl ((i:Int)+1))]
 ·intro k hk _
  unfold ZjE ZdU
  rw[Zb ⟨by omega,by omega⟩,Xab,Zd (by omega),Zb ⟨by omega,by omega⟩,Zb ⟨by omega,by omega⟩,Xab]
  by_cases h5:(r.2.2.2.2.getD i []).getD k 0<0
  ·rw[Zd h5,decide_eq_false (show ¬0≤(r.2.2.2.2.getD i []).getD k 0 by omega),Xae,cff]
  ·rw[Zc h5,Zb ⟨by omega,by omega⟩,Zb ⟨by omega,by omega⟩,Xad (show 0≤(r.2.2.2.2.getD i []).getD k 0 by omega),Xai]
   by_cases h6:3<(r.2.2.2.2.getD i []).getD k 0
   ·rw[Zd h6,decide_eq_false (show ¬(r.2.2.2.2.getD i []).getD k 0≤3 by omega),cff]
   ·rw[Zc h6,Xad (show (r.2.2.2.2.getD i []).getD k 0≤3 by omega),Zf (by omega) (by omega),ctt]
 ·unfold ZjE
  rw[Zb ⟨by omega,by omega⟩,Xab,Zc (by omega),Zf (by omega) (by omega)]
theorem ZEv (r:ZI) (h:Zff r):Zri r=some (ZML r):=by
 have hs:=h
 obtain⟨h1,h2,h3,h4⟩:=h
 unfold Zri ZML
 rw[←Zje r.2.2.2.2 (ZA2 r) [],ZdP r.2.2.2.2.length (fun i=>ZA2 r (r.2.2.2.2.getD i [])) false (decide ((r.2.2.2.2.length:Int)≤8))]
 ·cases (List.range r.2.2.2.2.length).all (fun i=>ZA2 r (r.2.2.2.2.getD i []))with
  |true=>rw[ctt,XbD]
  |false=>rw[cff,XaR]
 ·intro i hi _
  unfold Znf ZA2
  rw[Zd (by omega),Zb ⟨by omega,by omega⟩,Xab]
  by_cases hl:((r.2.2.2.2.getD i []).length:Int)=r.2.1.length
  ·rw[Zdu hl,Xad hl,Xai,ZEw r hs hi]
  ·rw[Zd2 hl,decide_eq_false hl,Xae,cff]
 ·unfold Znf
  rw[Zc (by omega)]
theorem ZDh (r:ZI) (h:Zff r):Zf1 r ()=some (Zho r):=by
 unfold Zf1 Zho
 cases h1:(r.1==1)with
 |true=>rw[ctt,ctt,ZDf r h,Ze]
 |false=>
  rw[cff,cff]
  cases h2:(r.1==2)with
  |true=>
   have:r.1=2:=by simpa using h2
   rw[ctt,this]
   rfl
  |false=>
   rw[cff]
   cases h3:(r.1==3)with
   |true=>rw[ctt,ctt,ZEv r h,Ze]
   |false=>
    rw[cff,cff]
    cases h4:(r.1==4)with
    |true=>
     rw[ctt,ctt]
     congr 1
     rw[Xbp,beq_iff_eq,decide_eq_true_iff]
     omega
    |false=>rw[cff,cff]
theorem ZFI (m:Zp) (r:ZI) (h:Zff r) (hm:m.1.length≤4000000000):Zsa m r=some (Zf5 m.1.length r):=by
 have hs:=h
 obtain⟨h1,h2,h3,h4⟩:=h
 unfold Zsa Zf5
 rw[ZFJ m _ (by omega) hm,Ze,ZDh r hs]
 cases ZqT r.2.1 m.1.length with
 |false=>rw[Xae,Xae,cnf]
 |true=>
  rw[Xai,Xai]
  cases decide (1≤r.2.1.length)with
  |false=>rw[cnf,Xae]
  |true=>
   rw[cnt,Xai]
   unfold ZEr
   have e3:(r.1 != 3) = !(r.1==3):=rfl
   have e1:(r.1 != 1) = !(r.1==1):=rfl
   rw[e1,e3]
   have hrows:(cond ((r.2.2.2.2.length:Int) != (0:Int)) (some false) (some (Zho r)):Option Bool)=some (decide (r.2.2.2.2.length=0)&&Zho r):=by
    by_cases hq:r.2.2.2.2.length=0
    ·rw[Zdu (by omega),Xad hq,Xai]
    ·rw[Zd2 (by omega),decide_eq_false hq,Xae]
   rw[hrows]
   cases r.1==1 with
   |true=>
    rw[cnt,XbQ,Xai]
    cases r.1==3 with
    |true=>rw[cnt,XbQ,Xai]
    |false=>rw[cnf,XbC]
   |false=>
    rw[cnf,XbC]
    by_cases hc:r.2.2.1.length=0
    ·rw[Zdu (by omega),Xad hc,Xai]
     have eb:(r.2.2.2.1 != 0) = !(r.2.2.2.1==0):=rfl
     rw[eb]
     cases r.2.2.2.1==0 with
     |false=>rw[cnf,Xae,Xae]
     |true=>
      rw[cnt,Xai]
      cases r.1==3 with
      |true=>rw[cnt,XbQ,Xai]
      |false=>rw[cnf,XbC]
    ·rw[Zd2 (by omega),decide_eq_false hc,Xae,Xae,Xae]
theorem Zrb (m:Zp) (c:Int) (h:Zde m):Zgv m c=some ((decide (1≤m.1.length)&&decide (m.1.length≤5))&&(decide (m.2.length≤8)&&(decide (c≤12)&&m.2.all (Zf5 m.1.length)))):=by
 obtain⟨h1,h2,h3⟩:=h
 unfold Zgv
 by_cases q1:1≤m.1.length
 ·rw[Zc (by omega),Xad q1,Xai]
  by_cases q2:m.1.length≤5
  ·rw[Zc (by omega),Xad q2,Xai]
   by_cases q3:c≤12
   ·rw[Zc (by omega),Xad q3,Xai]
    by_cases q4:m.2.length≤8
    ·rw[Zc (by omega),Xad q4,Xai,←Zje m.2 (Zf5 m.1.length) (0,([],([],(0,[])))),
      ZdP m.2.length (fun i=>Zf5 m.1.length (m.2.getD i (0,([],([],(0,[])))))) false true]
     ·cases (List.range m.2.length).all (fun i=>Zf5 m.1.length (m.2.getD i (0,([],([],(0,[]))))))<;>rfl
     ·intro i hi _
      unfold ZjA
      rw[Zd (by omega),Zb ⟨by omega,by omega⟩,Xab,ZFI m _ (h3 _ (ZF hi)) (by omega),Ze]
      cases Zf5 m.1.length (m.2.getD i (0,([],([],(0,[])))))with
      |true=>rw[cnt,Zf (by omega) (by omega),ctt]
      |false=>rw[cnf,cff]
     ·unfold ZjA
      rw[Zc (by omega)]
    ·rw[Zd (by omega),decide_eq_false q4,Xae]
   ·rw[Zd (by omega),decide_eq_false q3,Xae,XaR]
  ·rw[Zd (by omega),decide_eq_false q2,Xae]
 ·rw[Zd (by omega),decide_eq_false q1,Xae,Xae]
theorem Zjz (m:Zp) (h:Zde m):Zfj m=some (Zz m):=by
 have hs:=h
 obtain⟨h1,h2,h3⟩:=h
 unfold Zfj
 refine ZL (fun s:Int×Int=>∃i:Nat,s.2=i∧i≤m.1.length∧i≤5∧s.1=Zn1 (m.1.take i)∧∀j,j<i→ZdU (m.1.getD j 0)=true) (fun s=>m.1.length - s.2.toNat) (fun _=>Zz m) ?_ _ ⟨0,rfl,Nat.zero_le _,by omega,rfl,fun j hj=>by omega⟩
 rintro⟨c,s⟩ ⟨i,rfl,hi,hi5,hc,hpre⟩
 dsimp only at hc ⊢
 subst hc
 have hb:=ZAs _ (Zy5 hpre)
 rw[Xay]at hb
 unfold ZnU
 dsimp only
 have ups:∀x:Option Bool,∀b,x=some b→(up x:Option ((Int×Int)⊕Bool))=some (.inr b):=fun x b hx=>by rw[hx];rfl
 rcases Xag i m.1.length with h5|h5
 ·rw[Zd (by omega)]
  by_cases h6:i<5
  ·rw[Zd (by omega),Zb ⟨by omega,by omega⟩,Xab]
   have bad:ZdU (m.1.getD i 0)=false→Zz m=false:=fun hq=>by
    unfold Zz
    rw[List.all_eq_false.2 ⟨_,ZF h5,by rw[hq];simp⟩,Xae,XaR,XaR]
   by_cases h7:m.1.getD i 0<0
   ·right
    rw[Zd h7,bad (by unfold ZdU;rw[decide_eq_false (by omega),Xae])]
   ·rw[Zc h7,Zb ⟨by omega,by omega⟩]
    by_cases h8:3<m.1.getD i 0
    ·right
     rw[Zd h8,bad (by unfold ZdU;rw[show decide (m.1.getD i 0≤3)=false from decide_eq_false (by omega),XaR])]
    ·left
     rw[Zc h8,Zb ⟨by omega,by omega⟩,Zf (by omega) (by omega),Zf (by omega) (by omega),Zf (by omega) (by omega)]
     refine⟨_,rfl,⟨i+1,by simp,by omega,by omega,?_,fun j hj=>?_⟩,by dsimp only;omega,rfl⟩
     ·dsimp only
      rw[Zoq h5,ZBl]
      omega
     ·rcases Xag j i with h9|h9
      ·exact hpre j h9
      ·rw[show j=i by omega]
       unfold ZdU
       rw[Xad (by omega),Xad (by omega)];rfl
  ·right
   rw[Zc (by omega),ups _ _ (Zrb m _ hs)]
   unfold Zz
   rw[show decide (m.1.length≤5)=false from decide_eq_false (by omega),XaR,Xae,Xae]
 ·right
  have:i=m.1.length:=by omega
  subst this
  have hall:m.1.all ZdU=true:=by
   have:=Zy5 hpre
   rwa [Xa2 (Nat.le_refl _)]at this
  rw[Zc (by omega),ups _ _ (Zrb m _ hs),Xa2 (Nat.le_refl _)]
  unfold Zz
  rw[hall,Xai]
end Go.AE.Y
namespace Go.AE.Y
open Go Go.AE
theorem ZcG {m:Zp} (h:Zz m=true):1≤m.1.length∧m.1.length≤5∧m.2.length≤8:=by
 unfold Zz at h
 simp only[Xaf,Xah]at h
 exact⟨h.1.1,h.1.2,h.2.1⟩
theorem ZNb {l:List Int} {n:Int} (h:ZqT l n=true) {i:Nat} (hi:i<l.length):0≤l.getD i 0∧l.getD i 0<n:=by
 unfold ZqT at h
 have:=Xar.1 h i (Xaz.2 hi)
 unfold Zob at this
 simp only[Xaf,Xah]at this
 omega
end Go.AE.Y
namespace Go.AE.Y
open Go Go.AE
end Go.AE.Y
namespace Go.AE.Y
open Go Go.AE
def wtB (n:Int):Bool:=decide (-9≤n)&&decide (n≤9)
def ZfZ (m:Zp) (c:List Int):Bool:=decide (c.length=m.1.length)&&c.all wtB
def cellAt (m:Zp) (x:List Int) (i:Nat):Bool:=decide (0≤x.getD i 0)&&decide (x.getD i 0≤m.1.getD i 0)
def ZE (m:Zp) (x:List Int):Bool:=decide (x.length=m.1.length)&&(List.range x.length).all (cellAt m x)
def ZX (c x:List Int) (n:Nat):Int:=(List.range n).foldl (fun a i=>a+c.getD i 0*x.getD i 0) 0
theorem ZjF (c x:List Int) (n:Nat):ZX c x (n+1)=ZX c x n+c.getD n 0*x.getD n 0:=by
 unfold ZX
 rw[Xbz,Xba]
 rfl
theorem ZsV (m:Zp) (x:List Int) (h:Zde m) (hx:x.length≤1048576):Zjl m x=some (Zz m&&ZE m x):=by
 unfold Zjl ZE
 rw[Zgn m h,Ze]
 cases hm:Zz m with
 |false=>rw[cnf,Xae]
 |true=>
  obtain⟨m1,m2,m3⟩:=ZcG hm
  rw[cnt,Xai]
  by_cases hl:x.length=m.1.length
  ·rw[Zdu (by omega),Xad hl,Xai,ZdP x.length (cellAt m x) false true]
   ·cases (List.range x.length).all (cellAt m x)<;>rfl
   ·intro i hi _
    unfold Zjm cellAt
    rw[Zd (by omega),Zb ⟨by omega,by omega⟩,Zb ⟨by omega,by omega⟩,Xab,ZbK,Ze]
    cases (decide (0≤x.getD i 0)&&decide (x.getD i 0≤m.1.getD i 0))with
    |true=>rw[cnt,Zf (by omega) (by omega),ctt]
    |false=>rw[cnf,cff]
   ·unfold Zjm
    rw[Zc (by omega)]
  ·rw[Zd2 (by omega),decide_eq_false hl,Xae]
theorem ZEt (m:Zp) (x:List Int) (h:Zde m) (hx:x.length≤1048576):Zrf m x=some (ZE m x):=by
 have h1:=h.1
 unfold Zrf ZE
 by_cases hl:x.length=m.1.length
 ·rw[Zdu (by omega),Xad hl,Xai,ZdP x.length (cellAt m x) false true]
  ·cases (List.range x.length).all (cellAt m x)<;>rfl
  ·intro i hi _
   unfold Zm6 cellAt
   rw[Zd (by omega),Zb ⟨by omega,by omega⟩,Xab]
   by_cases q1:x.getD i 0<0
   ·rw[Zd q1,decide_eq_false (show ¬0≤x.getD i 0 by omega),Xae,cff]
   ·rw[Zc q1,Zb ⟨by omega,by omega⟩,Zb ⟨by omega,by omega⟩,Xad (show 0≤x.getD i 0 by omega),Xai]
    by_cases q2:m.1.getD i 0<x.getD i 0
    ·rw[Zd q2,decide_eq_false (show ¬x.getD i 0≤m.1.getD i 0 by omega),cff]
    ·rw[Zc q2,Xad (show x.getD i 0≤m.1.getD i 0 by omega),Zf (by omega) (by omega),ctt]
  ·unfold Zm6
   rw[Zc (by omega)]
 ·rw[Zd2 (by omega),decide_eq_false hl,Xae]
theorem ZfI (m:Zp) (c:List Int) (hc:c.length≤1048576):Zd7 m c=some (ZfZ m c):=by
 unfold Zd7 ZfZ
 by_cases hl:c.length=m.1.length
 ·rw[Zu (by omega),Xad hl,Xai]
  unfold ZcX Zdv
  obtain⟨r,hr1,hr2⟩:=ZhH (f:=Zbo c) c 0 (fun x=>!wtB x) (fun i hi=>by
   unfold Zbo ZnJ
   rw[Zd (by omega),Zb ⟨by omega,by omega⟩,Xab,ZbK,Ze,Ze]
   unfold wtB
   cases (decide (-9≤c.getD i 0)&&decide (c.getD i 0≤9))with
   |true=>rw[cnt,Zf (by omega) (by omega),cnt]
   |false=>rw[cnf,cnf]) (by
   unfold Zbo
   rw[Zc (by omega)])
  rw[hr1,Ze,Ze,hr2,Xa1]
  simp only[XbI]
 ·rw[Zo (by omega),decide_eq_false hl,Xae]
theorem Zrj (m:Zp) (c:List Int) (h:Zde m) (hc:c.length≤1048576):ZkY m c=some (Zz m&&ZfZ m c):=by
 unfold ZkY ZfZ
 rw[Zjz m h,Ze]
 cases hm:Zz m with
 |false=>rw[cnf,Xae]
 |true=>
  rw[cnt,Xai]
  by_cases hl:c.length=m.1.length
  ·rw[Zdu (by omega),Xad hl,Xai,←Zje c wtB 0,ZdP c.length (fun i=>wtB (c.getD i 0)) false true]
   ·cases (List.range c.length).all (fun i=>wtB (c.getD i 0))<;>rfl
   ·intro i hi _
    unfold Zng wtB
    rw[Zd (by omega),Zb ⟨by omega,by omega⟩,Xab]
    by_cases q1:c.getD i 0 < -9
    ·rw[Zd q1,decide_eq_false (show ¬ -9≤c.getD i 0 by omega),Xae,cff]
    ·rw[Zc q1,Zb ⟨by omega,by omega⟩,Xad (show -9≤c.getD i 0 by omega),Xai]
     by_cases q2:9<c.getD i 0
     ·rw[Zd q2,decide_eq_false (show ¬c.getD i 0≤9 by omega),cff]
     ·rw[Zc q2,Xad (show c.getD i 0≤9 by omega),Zf (by omega) (by omega),ctt]
   ·unfold Zng
    rw[Zc (by omega)]
  ·rw[Zd2 (by omega),decide_eq_false hl,Xae]
theorem ZnN {c x:Int} (hc : -9≤c∧c≤9) (hx:0≤x∧x≤3) : -27≤c*x∧c*x≤27:=by
 have:x=0∨x=1∨x=2∨x=3:=by omega
 rcases this with rfl|rfl|rfl|rfl<;>omega
theorem Zy7 {m:Zp} {c x:List Int} (hm:Zz m=true) (hc:ZfZ m c=true) (hx:ZE m x=true) :
  x.length=m.1.length∧c.length=m.1.length∧m.1.length≤5∧∀i,i<x.length → -27≤c.getD i 0*x.getD i 0∧c.getD i 0*x.getD i 0≤27:=by
 obtain⟨m1,m2,m3⟩:=ZcG hm
 unfold ZfZ at hc
 unfold ZE at hx
 unfold Zz at hm
 simp only[Xaf,Xah,Xar]at hc hx hm
 refine⟨hx.1,hc.1,m2,fun i hi=>ZnN ?_ ?_⟩
 ·have:=hc.2 _ (ZF (l:=c) (i:=i) (d:=0) (by omega))
  unfold wtB at this
  simpa using this
 ·have h1:=hx.2 i (Xaz.2 hi)
  have h2:=hm.2.2.1 _ (ZF (l:=m.1) (i:=i) (d:=0) (by omega))
  unfold cellAt at h1
  unfold ZdU at h2
  simp only[Xaf,Xah]at h1 h2
  omega
theorem ZED {c x:List Int} {n:Nat} (hn:n≤5) (h:∀i,i<n → -27≤c.getD i 0*x.getD i 0∧c.getD i 0*x.getD i 0≤27) : -27*(n:Int)≤ZX c x n∧ZX c x n≤27*n:=by
 induction n with
 |zero=>simp[ZX]
 |succ n ih=>
  have:=ih (by omega) (fun i hi=>h i (by omega))
  have:=h n (by omega)
  rw[ZjF]
  omega
theorem Zjq {c x:List Int} (hl:c.length=x.length) (hn:x.length≤5) (h:∀i,i<x.length → -27≤c.getD i 0*x.getD i 0∧c.getD i 0*x.getD i 0≤27):Zfc c x=some (ZX c x x.length):=by
 unfold Zfc
 refine ZL (fun s:Int×Int=>∃i:Nat,s.2=i∧i≤x.length∧s.1=ZX c x i) (fun s=>x.length - s.2.toNat) (fun _=>ZX c x x.length) ?_ _ ⟨0,rfl,Nat.zero_le _,rfl⟩
 rintro⟨a,s⟩ ⟨i,rfl,hi,ha⟩
 dsimp only at ha ⊢
 subst ha
 unfold Zq1
 dsimp only
 rcases Xag i x.length with h1|h1
 ·left
  have hb:=ZED (c:=c) (x:=x) (n:=i) (by omega) (fun j hj=>h j (by omega))
  have hi2:=h i h1
  rw[Zd (by omega),Zb ⟨by omega,by omega⟩,Zb ⟨by omega,by omega⟩,Xab,Zf (by omega) (by omega),Zf (by omega) (by omega),Zf (by omega) (by omega)]
  exact⟨_,rfl,⟨i+1,by simp,by omega,by rw[ZjF]⟩,by dsimp only;omega,rfl⟩
 ·right
  have:i=x.length:=by omega
  subst this
  rw[Zc (by omega)]
theorem ZwJ {c x:List Int} (hl:c.length=x.length) (hn:x.length≤5) (h:∀i,i<x.length → -27≤c.getD i 0*x.getD i 0∧c.getD i 0*x.getD i 0≤27):Zn0 c x=some (ZX c x x.length):=by
 unfold Zn0
 refine ZL (fun s:Int×Int=>∃i:Nat,s.2=i∧i≤x.length∧s.1=ZX c x i) (fun s=>x.length - s.2.toNat) (fun _=>ZX c x x.length) ?_ _ ⟨0,rfl,Nat.zero_le _,rfl⟩
 rintro⟨a,s⟩ ⟨i,rfl,hi,ha⟩
 dsimp only at ha ⊢
 subst ha
 unfold Zrk
 dsimp only
 rcases Xag i x.length with h1|h1
 ·left
  have hb:=ZED (c:=c) (x:=x) (n:=i) (by omega) (fun j hj=>h j (by omega))
  have hi2:=h i h1
  rw[Zd (by omega),Zb ⟨by omega,by omega⟩,Zb ⟨by omega,by omega⟩,Xab,Zf (by omega) (by omega),Zf (by omega) (by omega),Zf (by omega) (by omega)]
  exact⟨_,rfl,⟨i+1,by simp,by omega,by rw[ZjF]⟩,by dsimp only;omega,rfl⟩
 ·right
  have:i=x.length:=by omega
  subst this
  rw[Zc (by omega)]
def ZMv (m:Zp) (c x:List Int):Int×Bool:=bif Zz m&&(ZfZ m c&&ZE m x)then(ZX c x x.length,true)else(0,false)
theorem Zpc (m:Zp) (c x:List Int) (h:Zde m) (hc:c.length≤1048576) (hx:x.length≤1048576):ZdO m c x=some (ZMv m c x):=by
 unfold ZdO ZMv
 rw[ZsV m x h hx,Ze]
 cases hm:Zz m with
 |false=>rw[Xae,Xae,cnf,cff]
 |true=>
  rw[Xai,Xai]
  cases hxx:ZE m x with
  |false=>rw[cnf,XaR,cff]
  |true=>
   rw[cnt,ZfI m c hc,Ze,XbD]
   cases hcc:ZfZ m c with
   |false=>rw[cnf,cff]
   |true=>
    obtain⟨b1,b2,b3,b4⟩:=Zy7 hm hcc hxx
    rw[cnt,ctt,Zjq (by omega) (by omega) b4,Ze]
end Go.AE.Y
namespace Go.AE.Y
open Go Go.AE
def ZQc (d:List (List Bool)):Prop:=d.length≤1048576∧∀x∈d,x.length≤1048576
theorem ZeR {m:Zp} (hm:Zz m=true) {i:Nat} (hi:i<m.1.length):0≤m.1.getD i 0∧m.1.getD i 0≤3:=by
 unfold Zz at hm
 simp only[Xaf,Xah,Xar]at hm
 have h2:=hm.2.2.1 _ (ZF (l:=m.1) (i:=i) (d:=0) hi)
 unfold ZdU at h2
 simp only[Xaf,Xah]at h2
 omega
theorem Zcp {m:Zp} {x:List Int} (h:ZE m x=true):x.length=m.1.length∧∀i,i<x.length→0≤x.getD i 0∧x.getD i 0≤m.1.getD i 0:=by
 unfold ZE cellAt at h
 simp only[Xaf,Xah,Xar]at h
 exact⟨h.1,fun i hi=>h.2 i (Xaz.2 hi)⟩
end Go.AE.Y
namespace Go.AE.Y
open Go Go.AE
structure RdOk (r:List Int×Int) (m:Int):Prop where
 byte:∀x∈r.1,0≤x∧x≤255
 len:r.1.length≤2000
 low:0≤r.2
 high:r.2≤m
theorem ZAt {b:List Int} (h:∀x∈b,0≤x∧x≤255) (i:Nat):0≤b.getD i 0∧b.getD i 0≤255:=by
 rcases Xag i b.length with hi|hi
 ·rw[Xaa,Xac hi]
  exact h _ (Xbs hi)
 ·rw[Xaa,Xax hi]
  decide
theorem ZK8 {n:Int} {r:List Int×Int} (h:RdOk r 1000000000) :
  ∃x,ZbT n r=some (x,(r.1,r.2+1))∧0≤x∧(1≤n→x<n)∧(n<1→x=0):=by
 obtain⟨b,p⟩:=r
 obtain⟨hb,hlen,hp1,hp2⟩:=h
 dsimp only at hb hlen hp1 hp2
 unfold ZbT
 dsimp only
 simp(disch:=omega)only[Zf]
 by_cases h1:n<1
 ·simp(disch:=omega)only[Zd]
  exact⟨0,rfl,by omega,by omega,fun _=>rfl⟩
 ·simp(disch:=omega)only[Zc]
  by_cases h2:b.length=0
  ·simp(disch:=omega)only[Zu]
   exact⟨0,rfl,by omega,by omega,fun _=>rfl⟩
  ·simp(disch:=omega)only[Zo,Zf]
   by_cases h3:p<b.length
   ·have e:p+1 - 1<(b.length:Int):=by omega
    have g:=ZAt hb (p+1 - 1).toNat
    simp(disch:=omega)only[Zd,Zb,Zf]
    exact⟨_,rfl,Int.emod_nonneg _ (by omega),fun _=>XbH _ (by omega),by omega⟩
   ·have r1:=Int.emod_nonneg (p+1 - 1) (show (b.length:Int)≠0 by omega)
    have r2:=XbH (p+1 - 1) (show (0:Int)<b.length by omega)
    have r3:=Int.emod_nonneg ((p+1 - 1)*7+3) (show (b.length:Int)≠0 by omega)
    have r4:=XbH ((p+1 - 1)*7+3) (show (0:Int)<b.length by omega)
    have r5:0≤(p+1 - 1) / (b.length:Int):=Int.ediv_nonneg (by omega) (by omega)
    have r6:(p+1 - 1) / (b.length:Int)≤p+1 - 1:=Int.ediv_le_self _ (by omega)
    have g1:=ZAt hb ((p+1 - 1) % (b.length:Int)).toNat
    have g2:=ZAt hb (((p+1 - 1)*7+3) % (b.length:Int)).toNat
    generalize hu:b.getD ((p+1 - 1) % (b.length:Int)).toNat 0=u at g1 ⊢
    generalize hv:b.getD (((p+1 - 1)*7+3) % (b.length:Int)).toNat 0=v at g2 ⊢
    generalize hq:(p+1 - 1) / (b.length:Int)=q at r5 r6 ⊢
    simp(disch:=omega)only[Zc,Zb,Zf]
    exact⟨_,rfl,Int.emod_nonneg _ (by omega),fun _=>XbH _ (by omega),by omega⟩
theorem ZP9 {l:List Int} {r:List Int×Int} (h:RdOk r 1000000000) (hl:1≤l.length):∃x,Zbk l r=some (x,(r.1,r.2+1))∧x∈l:=by
 unfold Zbk
 obtain⟨x,h1,h2,h3,_⟩:=ZK8 (n:=(l.length:Int)) h
 have h3:=h3 (by omega)
 rw[h1]
 simp only[XaP]
 rw[Zb ⟨h2,h3⟩]
 refine⟨_,rfl,?_⟩
 rw[Xaa,Xac (by omega)]
 exact Xbs _
theorem ZPN {a:List Int} (h:∀x∈a,0≤x∧x≤255):∃r,Zrd a=some r∧RdOk r 0:=by
 unfold Zrd Zm1
 by_cases h1:a.length≤2000
 ·simp(disch:=omega)only[Zc]
  exact⟨_,rfl,h,h1,Xas _,Xas _⟩
 ·simp(disch:=omega)only[Zd,Zb]
  exact⟨_,rfl,fun x hx=>h x (XbO hx),by simp;omega,Xas _,Xas _⟩
end Go.AE.Y
namespace Go.AE.Y
open Go Go.AE
def small (n:Nat) (l:List Int):Prop:=l.length≤n∧∀x∈l,-13≤x∧x≤13
end Go.AE.Y
namespace Go.AE.Y
open Go Go.AE
theorem ZjP {α:Type} (l:List α) (i j:Nat) (x d:α):(l.set i x).getD j d=if i=j∧i<l.length then x else l.getD j d:=by
 rw[Xaa,List.getElem?_set,Xaa]
 by_cases h:i=j
 ·subst h
  by_cases h2:i<l.length
  ·simp[h2]
  ·simp[h2]
 ·simp[h]
theorem ZO {α:Type} {l:List α} {i j:Nat} {x d:α} (h:i≠j):(l.set i x).getD j d=l.getD j d:=by rw[ZjP,if_neg (by omega)]
theorem ZbE {α:Type} {l:List α} {i:Nat} {x d:α} (h:i<l.length):(l.set i x).getD i d=x:=by rw[ZjP,if_pos ⟨rfl,h⟩]
end Go.AE.Y
namespace Go.AE.Y
open Go Go.AE
def Adv (r r':List Int×Int) (c:Int):Prop:=r'.1=r.1∧r.2≤r'.2∧r'.2≤r.2+c
theorem Adv.ok {r r':List Int×Int} {m m' c:Int} (h:RdOk r m) (a:Adv r r' c) (hm:m+c≤m'):RdOk r' m':=by
 obtain⟨a1,a2,a3⟩:=a
 have:=h.low
 have:=h.high
 exact⟨by rw[a1];exact h.byte,by rw[a1];exact h.len,by omega,by omega⟩
theorem Adv.refl (r:List Int×Int) {c:Int} (h:0≤c):Adv r r c:=⟨rfl,Xas _,by omega⟩
theorem Adv.trans {r r' r'':List Int×Int} {c c' d:Int} (a:Adv r r' c) (b:Adv r' r'' c') (h:c+c'≤d):Adv r r'' d:=by
 obtain⟨a1,a2,a3⟩:=a
 obtain⟨b1,b2,b3⟩:=b
 exact⟨b1.trans a1,by omega,by omega⟩
theorem Zlv {r:List Int×Int} (n:Int) (h:RdOk r 1000000000):∃x r',ZbT n r=some (x,r')∧Adv r r' 1∧0≤x∧(1≤n→x<n):=by
 obtain⟨x,h1,h2,h3,_⟩:=ZK8 (n:=n) h
 exact⟨x,_,h1,⟨rfl,by (try dsimp only)<;>omega,by (try dsimp only)<;>omega⟩,h2,h3⟩
theorem ZgC {l:List Int} {r:List Int×Int} (h:RdOk r 1000000000) (hl:1≤l.length):∃x r',Zbk l r=some (x,r')∧Adv r r' 1∧x∈l:=by
 obtain⟨x,h1,h2⟩:=ZP9 h hl
 exact⟨x,_,h1,⟨rfl,by (try dsimp only)<;>omega,by (try dsimp only)<;>omega⟩,h2⟩
end Go.AE.Y
namespace Go.AE.Y
open Go Go.AE
end Go.AE.Y
namespace Go.AE.Y
open Go Go.AE
theorem ZHf (a:List (Int×Int)) (h:a.length≤4000000000):Zf6 a=some a:=by
 unfold Zf6
 refine ZAU (fun hp=>by rw[hp]) ?_
 rw[Zb (by simp[Zl];omega),Xao]
theorem ZEh (c:List (Int×Int)×Int) (h:c.1.length≤4000000000):Zex c=some (c.2,c.1):=by
 unfold Zex
 rw[ZHf _ h,Ze]
theorem ZGD (c:List (Int×Int)×Int) (h:c.1.length≤4000000000):Zpf c=some (c.2,c.1):=by
 unfold Zpf
 rw[Zb (by simp[Zl];omega),Xao]
theorem ZNk {α R:Type} {f:Int×List α→Option ((Int×List α)⊕R)} (l:List α) (d:α) (o0:List α) (fin:List α→R)
  (h:∀(i:Nat) (out:List α),i<l.length→out.length=o0.length+i→f (i,out)=some (.inl ((i:Int)+1,out++[l.getD i d]))) (hn:f (l.length,o0++l)=some (.inr (fin (o0++l)))) :
  loop f (0,o0)=some (fin (o0++l)):=by
 refine ZL (fun s:Int×List α=>∃i:Nat,s.1=i∧i≤l.length∧s.2=o0++l.take i) (fun s=>l.length - s.1.toNat) (fun _=>fin (o0++l)) ?_ _ ⟨0,rfl,Nat.zero_le _,by simp⟩
 rintro⟨s,out⟩ ⟨i,rfl,hi,ho⟩
 dsimp only at ho ⊢
 rcases Xag i l.length with h1|h1
 ·left
  refine⟨_,h i out h1 (by rw[ho];simp;omega),⟨i+1,by simp,by omega,?_⟩,by dsimp only;omega,rfl⟩
  dsimp only
  rw[ho,List.take_succ_eq_append_getElem h1,XaJ]
  congr 2
  simp[Xaa,h1]
 ·right
  have:i=l.length:=by omega
  subst this
  rw[XaB]at ho
  rw[ho,hn]
theorem Zbi {α β R:Type} {f:Int×List β→Option ((Int×List β)⊕R)} (l:List α) (d:α) (g:α→β) (o0:List β) (fin:List β→R)
  (h:∀(i:Nat) (out:List β),i<l.length→out.length=o0.length+i→f (i,out)=some (.inl ((i:Int)+1,out++[g (l.getD i d)]))) (hn:f (l.length,o0++l.map g)=some (.inr (fin (o0++l.map g)))) :
  loop f (0,o0)=some (fin (o0++l.map g)):=by
 refine ZNk (l.map g) (g d) o0 fin (fun i out hi ho=>?_) (by rw[Xap];exact hn)
 rw[Xap]at hi
 rw[h i out hi ho,ZnE l g i d (g d) hi]
end Go.AE.Y
namespace Go.AE.Y
open Go Go.AE
theorem Zev {α:Type} {l:List α} {i:Nat} (d:α) (h:i<l.length):l.take (i+1)=l.take i++[l.getD i d]:=by
 rw[List.take_succ_eq_append_getElem h,Xaa,Xac h];rfl
end Go.AE.Y
namespace Go.AE.Y
open Go Go.AE
end Go.AE.Y
namespace Go.AE.Y
open Go Go.AE
end Go.AE.Y
namespace Go.AE.Y
open Go Go.AE
end Go.AE.Y
namespace Go.AE.Y
open Go Go.AE
end Go.AE.Y
namespace Go.AE.Y
open Go Go.AE
end Go.AE.Y
namespace Go.AE.Y
open Go Go.AE
def HdL {α:Type} (H:α→Int→Int→Prop):List α→Int→Int→Prop
 |[],k,k'=>k=k'
 |x::r,k,k'=>∃k1,H x k k1∧HdL H r k1 k'
theorem HdL.snoc {α:Type} {H:α→Int→Int→Prop} {x:α}:∀{l:List α} {k k1 k2:Int},HdL H l k k1→H x k1 k2→HdL H (l++[x]) k k2
 |[],_,_,_,h,hx=>⟨_,by rw[show _=_ from h];exact hx,rfl⟩
 |_::_,_,_,_,⟨k3,h1,h2⟩,hx=>⟨k3,h1,HdL.snoc h2 hx⟩
theorem HdL.mono {α:Type} {H:α→Int→Int→Prop} (hm:∀x k k',H x k k'→k≤k'):∀{l:List α} {k k':Int},HdL H l k k'→k≤k'
 |[],_,_,h=>by rw[show _=_ from h];exact Xas _
 |_::_,_,_,⟨_,h1,h2⟩=>Int.le_trans (hm _ _ _ h1) (HdL.mono hm h2)
def HI (x k k':Int):Prop:=x=k∧k'=k+1
theorem HI.mono (x k k':Int) (h:HI x k k'):k≤k':=by have:=h.2;omega
def HII (x:List Int) (k k':Int):Prop:=HdL HI x k k'∧x.length≤4000000000
theorem HII.mono (x:List Int) (k k':Int) (h:HII x k k'):k≤k':=HdL.mono HI.mono h.1
def HR (r:Int×List Int×List Int×Int×List (List Int)) (k k':Int):Prop:=
 r.1=k∧∃k1 k2,HdL HI r.2.1 (k+1) k1∧HdL HI r.2.2.1 k1 k2∧r.2.2.2.1=k2∧HdL HII r.2.2.2.2 (k2+1) k'∧r.2.1.length≤4000000000∧r.2.2.1.length≤4000000000∧r.2.2.2.2.length≤4000000000
theorem HR.mono (r:Int×List Int×List Int×Int×List (List Int)) (k k':Int) (h:HR r k k'):k≤k':=by
 obtain⟨_,k1,k2,h1,h2,_,h3,_⟩:=h
 have:=HdL.mono HI.mono h1
 have:=HdL.mono HI.mono h2
 have:=HdL.mono HII.mono h3
 omega
end Go.AE.Y
namespace Go.AE.Y
open Go Go.AE
end Go.AE.Y
namespace Go.AE.Y
open Go Go.AE
def ZN (m:Zp) (i:Nat):Int:=Zn1 (m.1.take i)
theorem Zf2 {m:Zp} {i:Nat} (h:i<m.1.length):ZN m (i+1)=ZN m i+(m.1.getD i 0+1):=by
 unfold ZN
 rw[Zoq h,ZBl]
theorem ZgO {m:Zp} (hm:Zz m=true):∀i,i≤m.1.length→(i:Int)≤ZN m i∧ZN m i≤12:=by
 have hmono:∀i n,i+n=m.1.length→ZN m i≤ZN m m.1.length:=by
  intro i n
  induction n generalizing i with
  |zero=>intro h;rw[show i=m.1.length by omega];exact Xas _
  |succ n ih=>
   intro h
   have h1:=ih (i+1) (by omega)
   rw[Zf2 (by omega)]at h1
   have:=ZeR hm (i:=i) (by omega)
   omega
 have hlo:∀i,i≤m.1.length→(i:Int)≤ZN m i:=by
  intro i
  induction i with
  |zero=>intro _;show ((0:Nat):Int)≤0;decide
  |succ n ih=>
   intro h
   have h1:=ih (by omega)
   rw[Zf2 (by omega)]
   have:=ZeR hm (i:=n) (by omega)
   omega
 intro i hi
 refine⟨hlo i hi,?_⟩
 have h1:=hmono i (m.1.length - i) (by omega)
 have h2:ZN m m.1.length≤12:=by
  unfold ZN
  rw[XaB]
  unfold Zz at hm
  simp only[Xaf,Xah]at hm
  exact hm.2.2.2.1
 omega
theorem Zjp {m:Zp} (hm:Zz m=true) {i k:Nat} (hi:i<m.1.length) (hk:k≤100):Zdr m i k=some (1+k+ZN m i):=by
 obtain⟨m1,m2,m3⟩:=ZcG hm
 unfold Zdr
 rw[Zf (by omega) (by omega),Zb ⟨by omega,by omega⟩]
 refine ZL (fun s:Int×Int=>∃t:Nat,s.2=t∧t≤i∧s.1=1+k+ZN m t) (fun s=>i - s.2.toNat) (fun _=>1+k+ZN m i) ?_ _ ⟨0,rfl,Nat.zero_le _,by show (1:Int)+k=1+k+0;omega⟩
 rintro⟨v,s⟩ ⟨t,rfl,ht,rfl⟩
 dsimp only
 unfold ZkF
 dsimp only
 have hl:(m.1.take (i:Int).toNat).length=i:=by rw[Xay];omega
 rw[hl]
 rcases Xag t i with h1|h1
 ·left
  have hg:(m.1.take (i:Int).toNat).getD (t:Int).toNat 0=m.1.getD t 0:=by
   rw[Xab,Xab,Xaa,List.getElem?_take_of_lt h1,Xaa]
  have hz:=ZeR hm (i:=t) (by omega)
  have hb:=ZgO hm t (by omega)
  have hb':=Zf2 (m:=m) (i:=t) (by omega)
  rw[hg,Zd (by omega),Zb ⟨by omega,by omega⟩,Zf (by omega) (by omega),Zf (by omega) (by omega),Zf (by omega) (by omega)]
  exact⟨_,rfl,⟨t+1,by simp,by omega,by rw[hb'];(try dsimp only)<;>omega⟩,by (try dsimp only)<;>omega,rfl⟩
 ·right
  have:t=i:=by omega
  subst this
  rw[Zc (by omega)]
theorem Zi8 {m:Zp} (hm:Zz m=true) {i k:Nat} (hi:i<m.1.length) (hk:k≤100):Zhy m i k=some (1+k+ZN m i):=by
 obtain⟨m1,m2,m3⟩:=ZcG hm
 unfold Zhy
 rw[Zf (by omega) (by omega)]
 refine ZL (fun s:Int×Int=>∃t:Nat,s.2=t∧t≤i∧s.1=1+k+ZN m t) (fun s=>i - s.2.toNat) (fun _=>1+k+ZN m i) ?_ _ ⟨0,rfl,Nat.zero_le _,by show (1:Int)+k=1+k+0;omega⟩
 rintro⟨v,s⟩ ⟨t,rfl,ht,rfl⟩
 dsimp only
 unfold ZtC
 dsimp only
 rcases Xag t i with h1|h1
 ·left
  have hz:=ZeR hm (i:=t) (by omega)
  have hb:=ZgO hm t (by omega)
  have hb':=Zf2 (m:=m) (i:=t) (by omega)
  rw[Zd (by omega),Zb ⟨by omega,by omega⟩,Xab,Zf (by omega) (by omega),Zf (by omega) (by omega),Zf (by omega) (by omega)]
  exact⟨_,rfl,⟨t+1,by simp,by omega,by rw[hb'];(try dsimp only)<;>omega⟩,by (try dsimp only)<;>omega,rfl⟩
 ·right
  have:t=i:=by omega
  subst this
  rw[Zc (by omega)]
end Go.AE.Y
namespace Go.AE.Y
open Go Go.AE
def HT (x:Int×Int) (k k':Int):Prop:=x=(k,k+1)∧k'=k+2
theorem HT.mono (x:Int×Int) (k k':Int) (h:HT x k k'):k≤k':=by have:=h.2;omega
abbrev ZB:=Int×Int×Int×List (Int×Int)×Int
end Go.AE.Y
namespace Go.AE.Y
open Go Go.AE
set_option maxHeartbeats 400000
def Zvh (c:Int) (b:Nat):Nat→List Int→List Int
 |0,o=>o
 |k+1,o=>(Zvh c b k o).set (1+k+b) ((0 - c)*k)
def Zdm (m:Zp) (c:List Int):Nat→List Int
 |0=>List.replicate 13 0
 |n+1=>Zvh (c.getD n 0) (ZN m n).toNat (m.1.getD n 0+1).toNat (Zdm m c n)
def Zrn (c:Int) (b:Nat):Nat→List (Int×Int)
 |0=>[]
 |k+1=>Zrn c b k++[((0 - c)*k,((1+k+b:Nat):Int))]
def Zpi (m:Zp) (c:List Int):Nat→List (Int×Int)
 |0=>[]
 |n+1=>Zpi m c n++Zrn (c.getD n 0) (ZN m n).toNat (m.1.getD n 0+1).toNat
def Zmp (o:List Int) (t:Int×Int):List Int:=o.set t.2.toNat (o.getD t.2.toNat 0+t.1)
def Zb0 (net:List Int):Nat→List (Int×Int)
 |0=>[]
 |n+1=>Zb0 net n++(if 0<net.getD (n+1) 0 then[(net.getD (n+1) 0,((n+1:Nat):Int))]else if net.getD (n+1) 0<0 then[(0 - net.getD (n+1) 0,0 - ((n+1:Nat):Int))]else[])
def Z4 (net:List Int) (b:Int):Nat→Int
 |0=>b
 |n+1=>if net.getD (n+1) 0<0 then Z4 net b n - net.getD (n+1) 0 else Z4 net b n
abbrev ZoC:=Bool×Int×List (Int×Int)
def Zcw (net:List Int) (b:Int):ZoC:=bif ZA (Zb0 net 12,max 0 (Z4 net b 12))then(true,max 0 (Z4 net b 12),Zb0 net 12)else(false,0,[])
def Zul (m:Zp) (c:List Int) (most:Int):ZoC:=bif (Zz m&&ZfZ m c)&&(decide (-1000≤most)&&decide (most≤1000))then Zcw (Zdm m c m.1.length) (0 - most)else(false,0,[])
theorem ZyO (c:Int) (b:Nat) (o:List Int):∀k,(Zvh c b k o).length=o.length
 |0=>rfl
 |k+1=>by unfold Zvh;rw[Xam,ZyO]
theorem ZrR (m:Zp) (c:List Int):∀n,(Zdm m c n).length=13
 |0=>rfl
 |n+1=>by unfold Zdm;rw[ZyO,ZrR]
theorem Zvi {c:Int} {b:Nat} {o:List Int}:∀{k:Nat},b+k+1≤o.length→∀j,(Zvh c b k o).getD j 0=if 1+b≤j∧j<1+b+k then(0 - c)*((j - (1+b):Nat):Int)else o.getD j 0
 |0,_,j=>by
  rw[if_neg (by omega)]
  rfl
 |k+1,h,j=>by
  have ih:=Zvi (c:=c) (b:=b) (o:=o) (k:=k) (by omega) j
  have hl:=ZyO c b o k
  unfold Zvh
  by_cases q:1+k+b=j
  ·rw[if_pos (by omega),←q,ZbE (by omega),show 1+k+b - (1+b)=k by omega]
  ·rw[ZO q,ih]
   by_cases q2:1+b≤j∧j<1+b+k
   ·rw[if_pos q2,if_pos (by omega)]
   ·rw[if_neg q2,if_neg (by omega)]
theorem Zgd {m:Zp} (hm:Zz m=true) {n:Nat} (hn:n<m.1.length):0≤ZN m n∧0≤m.1.getD n 0∧m.1.getD n 0≤3∧ZN m (n+1)=ZN m n+(m.1.getD n 0+1)∧ZN m (n+1)≤12:=by
 have h1:=ZgO hm n (by omega)
 have h2:=ZgO hm (n+1) (by omega)
 have h3:=ZeR hm hn
 have h4:=Zf2 (m:=m) hn
 omega
theorem Zs3 {m:Zp} {c:List Int} (hm:Zz m=true):∀n,n≤m.1.length→∀j,(j=0∨1+(ZN m n).toNat≤j)→(Zdm m c n).getD j 0=0
 |0,_,j,_=>by
  show (List.replicate 13 (0:Int)).getD j 0=0
  rw[Xaa]
  rcases Xag j 13 with h|h
  ·rw[XaW h];rfl
  ·rw[Xax (by rw[Xaw];exact h)];rfl
 |n+1,h,j,hj=>by
  obtain⟨b0,s0,s3,b1,b12⟩:=Zgd hm (show n<m.1.length by omega)
  have ih:=Zs3 (c:=c) hm n (by omega) j (by omega)
  unfold Zdm
  rw[Zvi (by rw[ZrR];omega),if_neg (by omega),ih]
theorem ZIZ {m:Zp} {c:List Int} (hm:Zz m=true):∀n,n≤m.1.length→∀i,i<n→∀k:Nat,(k:Int)≤m.1.getD i 0→(Zdm m c n).getD (1+k+(ZN m i).toNat) 0=(0 - c.getD i 0)*k
 |0,_,i,hi,_,_=>by omega
 |n+1,h,i,hi,k,hk=>by
  obtain⟨b0,s0,s3,b1,b12⟩:=Zgd hm (show n<m.1.length by omega)
  unfold Zdm
  rw[Zvi (by rw[ZrR];omega)]
  rcases Xag i n with q|q
  ·have hmono:ZN m i+(m.1.getD i 0+1)≤ZN m n:=by
    have:∀d,i+1+d≤m.1.length→ZN m i+(m.1.getD i 0+1)≤ZN m (i+1+d):=by
     intro d
     induction d with
     |zero=>intro hd;have:=Zgd hm (show i<m.1.length by omega);show _≤ZN m (i+1);omega
     |succ d ih=>
      intro hd
      have h1:=ih (by omega)
      have h2:=Zgd hm (show i+1+d<m.1.length by omega)
      show _≤ZN m (i+1+d+1)
      omega
    have:=this (n - (i+1)) (by omega)
    rwa [show i+1+(n - (i+1))=n by omega]at this
   have hbi:=Zgd hm (show i<m.1.length by omega)
   rw[if_neg (by omega)]
   exact ZIZ hm n (by omega) i q k hk
  ·have:i=n:=by omega
   subst this
   rw[if_pos (by omega),show 1+k+(ZN m i).toNat - (1+(ZN m i).toNat)=k by omega]
theorem ZM9 {c:Int} {b:Nat} {o:List Int}:∀k,b+k+1≤o.length→(∀j,1+b≤j→j<1+b+k→o.getD j 0=0)→(Zrn c b k).foldl Zmp o=Zvh c b k o
 |0,_,_=>rfl
 |k+1,h,hz=>by
  unfold Zrn Zvh
  rw[Xba,ZM9 k (by omega) (fun j h1 h2=>hz j h1 (by omega))]
  show Zmp (Zvh c b k o) _=_
  unfold Zmp
  dsimp only
  rw[Xab,Zvi (by omega),if_neg (by omega),hz _ (by omega) (by omega),Int.zero_add]
theorem ZIx {m:Zp} {c:List Int} (hm:Zz m=true):∀n,n≤m.1.length→(Zpi m c n).foldl Zmp (List.replicate 13 0)=Zdm m c n
 |0,_=>rfl
 |n+1,h=>by
  obtain⟨b0,s0,s3,b1,b12⟩:=Zgd hm (show n<m.1.length by omega)
  unfold Zpi Zdm
  rw[Xba,ZIx hm n (by omega),ZM9 _ (by rw[ZrR];omega) (fun j h1 _=>Zs3 hm n (by omega) j (Or.inr (by omega)))]
def okT (t:Int×Int):Prop:=(-27≤t.1∧t.1≤27)∧1≤t.2∧t.2≤12
theorem ZBm {c:Int} {b:Nat} (hc : -9≤c∧c≤9):∀k,k≤4→b+k≤12→(Zrn c b k).length=k∧∀t∈Zrn c b k,okT t
 |0,_,_=>⟨rfl,fun t h=>absurd h XaE⟩
 |k+1,h,hb=>by
  obtain⟨i1,i2⟩:=ZBm (c:=c) (b:=b) hc k (by omega) (by omega)
  unfold Zrn
  refine⟨by rw[Xan,i1];rfl,fun t ht=>?_⟩
  rcases List.mem_append.1 ht with ht|ht
  ·exact i2 t ht
  ·rw[Xaj]at ht
   subst ht
   have:=ZnN (c:=0 - c) (x:=(k:Int)) ⟨by omega,by omega⟩ ⟨by omega,by omega⟩
   exact⟨this,by (try dsimp only)<;>omega,by (try dsimp only)<;>omega⟩
theorem ZGQ {m:Zp} {c:List Int} (hm:Zz m=true) (hc:∀i,-9≤c.getD i 0∧c.getD i 0≤9):∀n,n≤m.1.length→((Zpi m c n).length:Int)=ZN m n∧∀t∈Zpi m c n,okT t
 |0,_=>⟨rfl,fun t h=>absurd h XaE⟩
 |n+1,h=>by
  obtain⟨b0,s0,s3,b1,b12⟩:=Zgd hm (show n<m.1.length by omega)
  obtain⟨i1,i2⟩:=ZGQ (c:=c) hm hc n (by omega)
  obtain⟨k1,k2⟩:=ZBm (b:=(ZN m n).toNat) (hc n) (m.1.getD n 0+1).toNat (by omega) (by omega)
  unfold Zpi
  refine⟨by rw[Xan,k1];omega,fun t ht=>?_⟩
  rcases List.mem_append.1 ht with ht|ht
  ·exact i2 t ht
  ·exact k2 t ht
theorem ZPj (l:List Int) (h:l.length=13):[(l.getD 0 0),(l.getD 1 0),(l.getD 2 0),(l.getD 3 0),(l.getD 4 0),(l.getD 5 0),(l.getD 6 0),(l.getD 7 0),(l.getD 8 0),(l.getD 9 0),(l.getD 10 0),(l.getD 11 0),(l.getD 12 0)]=l:=by
 match l,h with
 |[_,_,_,_,_,_,_,_,_,_,_,_,_],_=>rfl
theorem ZpY (net:List Int):∀n,(Zb0 net n).length≤n
 |0=>Nat.le_refl _
 |n+1=>by
  have:=ZpY net n
  unfold Zb0
  rw[Xan]
  split
  ·rw[XaC];omega
  ·split
   ·rw[XaC];omega
   ·rw[Xal];omega
theorem ZyM {net:List Int} {b:Int} (hn:∀j,-1000≤net.getD j 0∧net.getD j 0≤1000):∀n:Nat,b≤Z4 net b n∧Z4 net b n≤b+1000*n
 |0=>⟨Xas _,by show b≤b+1000*((0:Nat):Int);omega⟩
 |n+1=>by
  have:=ZyM (b:=b) hn n
  have:=hn (n+1)
  unfold Z4
  split<;>omega
theorem Zzj (b:Int) (t:List (Int×Int)) (h:t.length≤1000):Zc8 b t=some (bif ZA (t,b)then(true,b,t)else(false,0,[])):=by
 unfold Zc8
 rw[Zbh (t,b) (by (try dsimp only)<;>omega),Ze]
 cases ZA (t,b)with
 |true=>rw[cnt,ctt]
 |false=>rw[cnf,cff]
theorem ZFk {ts:List (Int×Int)} {b:Int} (hts:∀t∈ts,okT t) (hl:ts.length≤30) (hb : -2000≤b∧b≤2000):ZhG ts b=some (Zcw (ts.foldl Zmp (List.replicate 13 0)) b)∨(ts.foldl Zmp (List.replicate 13 0)).getD 0 0≠0:=by
 by_cases h00:(ts.foldl Zmp (List.replicate 13 0)).getD 0 0=0
 case neg=>exact Or.inr h00
 left
 unfold ZhG
 have hfl:∀n,n≤ts.length→((ts.take n).foldl Zmp (List.replicate 13 0)).length=13∧∀j,-27*(n:Int)≤((ts.take n).foldl Zmp (List.replicate 13 0)).getD j 0∧((ts.take n).foldl Zmp (List.replicate 13 0)).getD j 0≤27*(n:Int):=by
  intro n
  induction n with
  |zero=>
   intro _
   rw[XaS]
   refine⟨rfl,fun j=>?_⟩
   have:(List.foldl Zmp (List.replicate 13 (0:Int)) ([]:List (Int×Int))).getD j 0=0:=by
    show (List.replicate 13 (0:Int)).getD j 0=0
    rw[Xaa]
    rcases Xag j 13 with h|h
    ·rw[XaW h];rfl
    ·rw[Xax (by rw[Xaw];exact h)];rfl
   rw[this]
   omega
  |succ n ih=>
   intro hn
   obtain⟨i1,i2⟩:=ih (by omega)
   rw[Xbg,Xac (show n<ts.length by omega),Xba]
   obtain⟨ok1,ok2⟩:=hts _ (Xbs (show n<ts.length by omega))
   generalize (ts.take n).foldl Zmp (List.replicate 13 0)=o at i1 i2 ⊢
   show (Zmp o ts[n]).length=13∧∀j,-27*((n+1:Nat):Int)≤(Zmp o ts[n]).getD j 0∧(Zmp o ts[n]).getD j 0≤27*((n+1:Nat):Int)
   unfold Zmp
   refine⟨by rw[Xam];exact i1,fun j=>?_⟩
   have hj:=i2 j
   have hv:=i2 (ts[n]).2.toNat
   rw[ZjP]
   split<;>omega
 refine ZL (f:=ZhK ts) (fun s:Int×Int×List Int=>∃n:Nat,s.2.1=n∧n≤ts.length∧s.1=b∧s.2.2=(ts.take n).foldl Zmp (List.replicate 13 0)) (fun s=>ts.length - s.2.1.toNat) (fun _=>Zcw (ts.foldl Zmp (List.replicate 13 0)) b) ?_ _ ⟨0,rfl,Nat.zero_le _,rfl,rfl⟩
 rintro⟨b',s,o⟩ ⟨n,hs,hn,hb',ho⟩
 dsimp only at hs hb' ho ⊢
 subst hs
 subst hb'
 obtain⟨f1,f2⟩:=hfl n hn
 rw[←ho]at f1 f2
 unfold ZhK
 dsimp only
 rcases Xag n ts.length with h1|h1
 ·left
  obtain⟨⟨ok1,ok1'⟩,ok2,ok2'⟩:=hts _ (ZF (l:=ts) (i:=n) (d:=(0,0)) h1)
  have:=f2 (ts.getD n (0,0)).2.toNat
  rw[Zd (by omega),Zb ⟨by omega,by omega⟩,Xab,Zc (by omega),Zb ⟨rfl,⟨by omega,by omega⟩,by omega⟩,Zf (by omega) (by omega),Zb ⟨rfl,⟨by omega,by omega⟩,by omega⟩,Zf (by omega) (by omega)]
  refine⟨_,rfl,⟨n+1,by simp,by omega,rfl,?_⟩,by (try dsimp only)<;>omega,rfl⟩
  dsimp only
  rw[Xbg,Xac h1,Xba,←ho]
  have e:ts.getD n (0,0)=ts[n]:=by rw[Xaa,Xac h1];rfl
  rw[e]
  rfl
 ·right
  have hnn:n=ts.length:=by omega
  rw[hnn,XaB]at ho
  rw[←ho]at h00 ⊢
  have hbd:∀j,-1000≤o.getD j 0∧o.getD j 0≤1000:=fun j=>by have:=f2 j;omega
  unfold ZkH
  dsimp only
  rw[Zc (by omega),Zb ⟨rfl,rfl,by omega⟩]
  have key:loop (ZfV o) (b',(0:Int),([]:List (Int×Int)))=some (Zcw o b'):=by
   refine ZL (f:=ZfV o) (fun s:Int×Int×List (Int×Int)=>∃n:Nat,s.2.1=n∧n≤13∧s.1=Z4 o b' (n - 1)∧s.2.2=Zb0 o (n - 1)) (fun s=>13 - s.2.1.toNat) (fun _=>Zcw o b') ?_ _ ⟨0,rfl,Nat.zero_le _,rfl,rfl⟩
   rintro⟨c,s,t⟩ ⟨n,hs,hn,hc,ht⟩
   dsimp only at hs hc ht ⊢
   subst hs
   subst hc
   subst ht
   have hpl:=ZpY o (n - 1)
   have hnb:=ZyM (b:=b') hbd (n - 1)
   unfold ZfV
   dsimp only
   rw[ZPj o f1,Xab]
   rcases Xag n 13 with h4|h4
   ·left
    have hbn:=hbd n
    rw[Zd (by omega),Zb ⟨⟨by omega,by omega⟩,by omega⟩]
    cases n with
    |zero=>
     rw[h00,Zc (by omega),Zc (by omega),Zf (by omega) (by omega)]
     exact⟨_,rfl,⟨1,rfl,by omega,rfl,rfl⟩,by (try dsimp only)<;>omega,rfl⟩
    |succ n=>
     rw[XbT]at hpl hnb ⊢
     by_cases q1:0<o.getD (n+1) 0
     ·rw[Zd q1,Zb (by simp[Zl];omega),Zf (by omega) (by omega)]
      refine⟨_,rfl,⟨n+2,by simp;omega,by omega,?_,?_⟩,by (try dsimp only)<;>omega,rfl⟩
      ·show Z4 o b' n=Z4 o b' (n+1)
       conv=>rhs;unfold Z4
       rw[if_neg (by omega)]
      ·show _=Zb0 o (n+1)
       conv=>rhs;unfold Zb0
       rw[if_pos q1]
     ·rw[Zc q1]
      by_cases q2:o.getD (n+1) 0<0
      ·unfold Zoe
       dsimp only
       rw[Zd q2,Zf (by omega) (by omega),Zf (by omega) (by omega),Zb (by simp[Zl];omega),Zf (by omega) (by omega),Zf (by omega) (by omega)]
       refine⟨_,rfl,⟨n+2,by simp;omega,by omega,?_,?_⟩,by (try dsimp only)<;>omega,rfl⟩
       ·show Z4 o b' n - _=Z4 o b' (n+1)
        conv=>rhs;unfold Z4
        rw[if_pos q2]
       ·show _=Zb0 o (n+1)
        conv=>rhs;unfold Zb0
        rw[if_neg q1,if_pos q2]
      ·rw[Zc q2,Zf (by omega) (by omega)]
       refine⟨_,rfl,⟨n+2,by simp;omega,by omega,?_,?_⟩,by (try dsimp only)<;>omega,rfl⟩
       ·show Z4 o b' n=Z4 o b' (n+1)
        conv=>rhs;unfold Z4
        rw[if_neg q2]
       ·show _=Zb0 o (n+1)
        conv=>rhs;unfold Zb0
        rw[if_neg q1,if_neg q2,Xau]
   ·right
    have h12:n - 1=12:=by omega
    rw[h12]at hpl ⊢
    have hv:Zc8 (max 0 (Z4 o b' 12)) (Zb0 o 12)=some (Zcw o b'):=Zzj _ _ (by omega)
    unfold Zod
    dsimp only
    rw[Zc (by omega),hv,Ze]
    generalize Zcw o b'=q
    rfl
  rw[key]
  generalize Zcw o b'=q
  rfl
theorem Zvt {net:List Int} {b:Int} (hl:net.length=13) (hbd:∀j,-1000≤net.getD j 0∧net.getD j 0≤1000) (hb : -2000≤b∧b≤2000):Zfs net b=some (Zcw net b):=by
 unfold Zfs
 refine ZL (f:=Zf0 net) (fun s:Int×Int×List (Int×Int)=>∃n:Nat,s.2.1=(n:Int)+1∧n≤12∧s.1=Z4 net b n∧s.2.2=Zb0 net n) (fun s=>13 - s.2.1.toNat) (fun _=>Zcw net b) ?_ _ ⟨0,rfl,Nat.zero_le _,rfl,rfl⟩
 rintro⟨c,s,t⟩ ⟨n,hs,hn,hc,ht⟩
 dsimp only at hs hc ht ⊢
 subst hs
 subst hc
 subst ht
 have hpl:=ZpY net n
 have hnb:=ZyM (b:=b) hbd n
 have en:((n:Int)+1).toNat=n+1:=by omega
 unfold Zf0
 dsimp only
 rcases Xag n 12 with h4|h4
 ·left
  have hbn:=hbd (n+1)
  rw[Zd (by omega),Zb ⟨by omega,by omega⟩,en]
  unfold Zie
  rw[en]
  by_cases q1:0<net.getD (n+1) 0
  ·rw[Zd q1,Zb ⟨by omega,by omega⟩,Zb (by simp[Zl];omega),Zb ⟨by omega,by omega⟩,Zc (by omega),Zf (by omega) (by omega)]
   refine⟨_,rfl,⟨n+1,by simp,by omega,?_,?_⟩,by (try dsimp only)<;>omega,rfl⟩
   ·show Z4 net b n=Z4 net b (n+1)
    conv=>rhs;unfold Z4
    rw[if_neg (by omega)]
   ·show _=Zb0 net (n+1)
    conv=>rhs;unfold Zb0
    rw[if_pos q1]
    rfl
  ·rw[Zc q1,Zb ⟨by omega,by omega⟩]
   by_cases q2:net.getD (n+1) 0<0
   ·unfold ZlH
    rw[Zd q2,Zb ⟨by omega,by omega⟩,Zf (by omega) (by omega),Zf (by omega) (by omega),Zb (by simp[Zl];omega),Zb ⟨by omega,by omega⟩,en,Zf (by omega) (by omega),Zf (by omega) (by omega)]
    refine⟨_,rfl,⟨n+1,by simp,by omega,?_,?_⟩,by (try dsimp only)<;>omega,rfl⟩
    ·show Z4 net b n - _=Z4 net b (n+1)
     conv=>rhs;unfold Z4
     rw[if_pos q2]
    ·show _=Zb0 net (n+1)
     conv=>rhs;unfold Zb0
     rw[if_neg q1,if_pos q2]
     rfl
   ·rw[Zc q2,Zf (by omega) (by omega)]
    refine⟨_,rfl,⟨n+1,by simp,by omega,?_,?_⟩,by (try dsimp only)<;>omega,rfl⟩
    ·show Z4 net b n=Z4 net b (n+1)
     conv=>rhs;unfold Z4
     rw[if_neg q2]
    ·show _=Zb0 net (n+1)
     conv=>rhs;unfold Zb0
     rw[if_neg q1,if_neg q2,Xau]
 ·right
  have:n=12:=by omega
  subst this
  have fin:∀x:Int,x=max 0 (Z4 net b 12)→ZeL (Zb0 net 12) x=some (Zcw net b):=fun x hx=>by
   subst hx
   unfold ZeL Zcw
   rw[ZY _ (by (try dsimp only)<;>omega),Ze]
   cases ZA (Zb0 net 12,max 0 (Z4 net b 12))with
   |true=>rw[cnt,ctt]
   |false=>rw[cnf,cff]
  unfold ZlG
  dsimp only
  rw[Zc (by omega)]
  by_cases q:Z4 net b 12<0
  ·rw[Zd q,fin 0 (by omega)];rfl
  ·rw[Zc q,fin _ (by omega)];rfl
theorem ZEc {m:Zp} {c:List Int} (h:ZfZ m c=true):c.length=m.1.length∧∀i,-9≤c.getD i 0∧c.getD i 0≤9:=by
 unfold ZfZ wtB at h
 simp only[Xaf,Xah,Xar]at h
 refine⟨h.1,fun i=>?_⟩
 rcases Xag i c.length with h1|h1
 ·exact h.2 _ (ZF h1)
 ·rw[Xaa,Xax h1]
  decide
theorem ZyN {m:Zp} {c:List Int} (hm:Zz m=true) (hc:∀i,-9≤c.getD i 0∧c.getD i 0≤9):∀n,n≤m.1.length→∀j,-27≤(Zdm m c n).getD j 0∧(Zdm m c n).getD j 0≤27
 |0,_,j=>by
  have:=Zs3 (c:=c) hm 0 (by omega)
  have h0:(Zdm m c 0).getD j 0=0:=by
   rcases Xag 0 j with h|h
   ·exact this j (Or.inr (by show 1+(Zn1 []).toNat≤j;exact h))
   ·exact this j (Or.inl (by omega))
  rw[h0]
  omega
 |n+1,h,j=>by
  obtain⟨b0,s0,s3,b1,b12⟩:=Zgd hm (show n<m.1.length by omega)
  have ih:=ZyN hm hc n (by omega) j
  unfold Zdm
  rw[Zvi (by rw[ZrR];omega)]
  split
  ·have hcn:=hc n
   exact ZnN ⟨by omega,by omega⟩ ⟨by omega,by omega⟩
  ·exact ih
theorem ZnF (m:Zp) (c:List Int) (most:Int) (h:Zde m) (hc:c.length≤1048576):ZdY m c most=some (Zul m c most):=by
 unfold ZdY Zul
 rw[Zgn m h,Ze]
 cases hm:Zz m with
 |false=>rw[cnf];rfl
 |true=>
  rw[cnt,ZfI m c hc,Ze]
  cases ho:ZfZ m c with
  |false=>rw[cnf];rfl
  |true=>
   rw[cnt,ZbK,Ze]
   cases hq:decide (-1000≤most)&&decide (most≤1000)with
   |false=>rw[cnf];rfl
   |true=>
    rw[Xaf,Xah,Xah]at hq
    obtain⟨m1,m2,m3⟩:=ZcG hm
    obtain⟨c1,c2⟩:=ZEc ho
    rw[cnt,show ((true&&true)&&true)=true from rfl,ctt]
    refine ZL (f:=Ze3 m c most) (fun s:Int×List (Int×Int)=>∃n:Nat,s.1=n∧n≤m.1.length∧s.2=Zpi m c n) (fun s=>m.1.length - s.1.toNat) (fun _=>Zcw (Zdm m c m.1.length) (0 - most)) ?_ _ ⟨0,rfl,Nat.zero_le _,rfl⟩
    rintro⟨s,t⟩ ⟨n,hs,hn,ht⟩
    dsimp only at hs ht ⊢
    subst hs
    subst ht
    obtain⟨t1,t2⟩:=ZGQ (c:=c) hm c2 n hn
    unfold Ze3
    dsimp only
    rcases Xag n m.1.length with h1|h1
    ·left
     obtain⟨b0,s0,s3,b1,b12⟩:=Zgd hm h1
     rw[Zd (by omega),Zb ⟨by omega,by omega⟩,Xab,Zf (by omega) (by omega)]
     refine⟨((n:Int)+1,Zpi m c (n+1)),?_,⟨n+1,by simp,by omega,rfl⟩,by (try dsimp only)<;>omega,rfl⟩
     refine ZL (f:=Ze4 m c n) (fun s:Int×List (Int×Int)=>∃k:Nat,s.1=k∧k≤(m.1.getD n 0+1).toNat∧s.2=Zpi m c n++Zrn (c.getD n 0) (ZN m n).toNat k) (fun s=>(m.1.getD n 0+1).toNat - s.1.toNat) (fun _=>.inl ((n:Int)+1,Zpi m c (n+1))) ?_ _ ⟨0,rfl,Nat.zero_le _,(Xau _).symm⟩
     rintro⟨s,t⟩ ⟨k,hs,hk,ht⟩
     dsimp only at hs ht ⊢
     subst hs
     subst ht
     have hcn:=c2 n
     obtain⟨k1,k2⟩:=ZBm (b:=(ZN m n).toNat) hcn k (by omega) (by omega)
     unfold Ze4
     dsimp only
     rw[Xab]
     rcases Xag k (m.1.getD n 0+1).toNat with h2|h2
     ·left
      have hmb:=ZnN (c:=0 - c.getD n 0) (x:=(k:Int)) ⟨by omega,by omega⟩ ⟨by omega,by omega⟩
      rw[Zd (by omega),Zb ⟨by omega,by omega⟩,Zf (by omega) (by omega),Zf (by omega) (by omega),Zjp hm h1 (by omega),Ze,Zb (by simp only[Xan,Zl,Xak,Xal];omega),Zf (by omega) (by omega)]
      refine⟨_,rfl,⟨k+1,by simp,by omega,?_⟩,by (try dsimp only)<;>omega,rfl⟩
      dsimp only
      rw[XaJ]
      congr 1
      conv=>rhs;unfold Zrn
      rw[show (1+(k:Int)+ZN m n)=((1+k+(ZN m n).toNat:Nat):Int) by omega]
     ·right
      have:k=(m.1.getD n 0+1).toNat:=by omega
      rw[Zc (by omega),Zf (by omega) (by omega),this]
      rfl
    ·right
     have hnn:n=m.1.length:=by omega
     subst hnn
     have hb12:=(ZgO hm m.1.length (Nat.le_refl _)).2
     unfold ZhX
     rw[Zc (by omega),Zf (by omega) (by omega)]
     rcases ZFk (b:=0 - most) t2 (by omega) ⟨by omega,by omega⟩with e|e
     ·rw[e,Ze,ZIx hm _ (Nat.le_refl _)]
      generalize Zcw (Zdm m c m.1.length) (0 - most)=q
      rfl
     ·rw[ZIx hm _ (Nat.le_refl _)]at e
      exact absurd (Zs3 hm _ (Nat.le_refl _) 0 (Or.inl rfl)) e
theorem ZnT (m:Zp) (c:List Int) (most:Int) (h:Zde m) (hc:c.length≤1048576):ZeT m c most=some (Zul m c most):=by
 unfold ZeT Zul
 rw[Zrj m c h hc,Ze]
 cases hmo:Zz m&&ZfZ m c with
 |false=>rw[cnf,Xae,cff]
 |true=>
  rw[Xaf]at hmo
  obtain⟨hm,ho⟩:=hmo
  rw[cnt,Xai]
  by_cases q1 : -1000≤most
  case neg=>rw[Zd (by omega),decide_eq_false q1,Xae,cff]
  rw[Zc (by omega),Xad q1,Xai]
  by_cases q2:most≤1000
  case neg=>rw[Zd (by omega),decide_eq_false q2,cff]
  rw[Zc (by omega),Xad q2,ctt,Zb ⟨by omega,by simp only[Zl];omega,rfl⟩]
  obtain⟨m1,m2,m3⟩:=ZcG hm
  obtain⟨c1,c2⟩:=ZEc ho
  refine ZL (f:=Zfg m c most) (fun s:Int×List Int=>∃n:Nat,s.1=n∧n≤m.1.length∧s.2=Zdm m c n) (fun s=>m.1.length - s.1.toNat) (fun _=>Zcw (Zdm m c m.1.length) (0 - most)) ?_ _ ⟨0,rfl,Nat.zero_le _,rfl⟩
  rintro⟨s,t⟩ ⟨n,hs,hn,ht⟩
  dsimp only at hs ht ⊢
  subst hs
  subst ht
  have hnl:=ZrR m c n
  unfold Zfg
  dsimp only
  rcases Xag n m.1.length with h1|h1
  ·left
   obtain⟨b0,s0,s3,b1,b12⟩:=Zgd hm h1
   rw[Zd (by omega)]
   refine⟨((n:Int)+1,Zdm m c (n+1)),?_,⟨n+1,by simp,by omega,rfl⟩,by (try dsimp only)<;>omega,rfl⟩
   refine ZL (f:=Zfh m c n) (fun s:Int×List Int=>∃k:Nat,s.1=k∧k≤(m.1.getD n 0+1).toNat∧s.2=Zvh (c.getD n 0) (ZN m n).toNat k (Zdm m c n)) (fun s=>(m.1.getD n 0+1).toNat - s.1.toNat) (fun _=>.inl ((n:Int)+1,Zdm m c (n+1))) ?_ _ ⟨0,rfl,Nat.zero_le _,rfl⟩
   rintro⟨s,t⟩ ⟨k,hs,hk,ht⟩
   dsimp only at hs ht ⊢
   subst hs
   subst ht
   have hcn:=c2 n
   have hkl:=ZyO (c.getD n 0) (ZN m n).toNat (Zdm m c n) k
   unfold Zfh
   dsimp only
   rw[Zb ⟨by omega,by omega⟩,Xab]
   rcases Xag k (m.1.getD n 0+1).toNat with h2|h2
   ·left
    have hmb:=ZnN (c:=0 - c.getD n 0) (x:=(k:Int)) ⟨by omega,by omega⟩ ⟨by omega,by omega⟩
    rw[Zd (by omega),Zb ⟨by omega,by omega⟩,Zf (by omega) (by omega),Zf (by omega) (by omega),Zi8 hm h1 (by omega),Ze,Zb ⟨by omega,by omega⟩,Zf (by omega) (by omega)]
    refine⟨_,rfl,⟨k+1,by simp,by omega,?_⟩,by (try dsimp only)<;>omega,rfl⟩
    dsimp only
    conv=>rhs;unfold Zvh
    rw[show (1+(k:Int)+ZN m n).toNat=1+k+(ZN m n).toNat by omega]
   ·right
    have:k=(m.1.getD n 0+1).toNat:=by omega
    rw[Zc (by omega),Zf (by omega) (by omega),this]
    rfl
  ·right
   have hnn:n=m.1.length:=by omega
   subst hnn
   unfold Zh5
   rw[Zc (by omega),Zf (by omega) (by omega),Zvt hnl (fun j=>by have:=ZyN hm c2 m.1.length (Nat.le_refl _) j;omega) ⟨by omega,by omega⟩,Ze]
   generalize Zcw (Zdm m c m.1.length) (0 - most)=q
   rfl
end Go.AE.Y
namespace Go.AE.Y
open Go Go.AE
theorem RdOk.wk {r:List Int×Int} {m m':Int} (h:RdOk r m) (hm:m≤m'):RdOk r m':=⟨h.byte,h.len,h.low,by have:=h.high;omega⟩
theorem ZtS {r:List Int×Int} {l:List Int} (h:RdOk r 1000000000):∃r' l',ZdT r l=some (r',l')∧Adv r r' 1∧l'.length=l.length:=by
 unfold ZdT
 by_cases h1:(1:Int)<l.length
 ·obtain⟨x,r1,e1,a1,_⟩:=Zlv 3 h
  rw[Zd h1,e1,Ze]
  dsimp only
  cases (x==0)with
  |true=>
   rw[ctt,Zb ⟨by omega,by omega⟩,Zb ⟨by omega,by omega⟩,Zb ⟨by omega,by omega⟩,Zb ⟨by omega,by rw[Xam];omega⟩]
   exact⟨_,_,rfl,a1,by rw[Xam,Xam]⟩
  |false=>
   rw[cff]
   exact⟨_,_,rfl,a1,rfl⟩
 ·rw[Zc h1]
  exact⟨_,_,rfl,Adv.refl r (by omega),rfl⟩
theorem ZzX {r:List Int×Int} {a2:Int} (h:RdOk r 1000000000) (ha:1≤a2∧a2≤6) {f:Int×List Int→Option ((Int×List Int)⊕((List Int×Int)×List Int))} (hf:f=ZmL a2 r∨f=ZmM a2 r) :
  ∃o,loop f ((0:Int),[])=some o∧(Adv r o.1 1∧a2≤o.2.length∧o.2.length≤6):=by
 refine ZbX (f:=f) (fun s=>0≤s.1∧s.1≤a2∧(s.2.length:Int)=s.1) (fun s=>(a2 - s.1).toNat) (fun o=>Adv r o.1 1∧a2≤o.2.length∧o.2.length≤6) ?_ _ ⟨Xas _,by (try dsimp only)<;>omega,rfl⟩
 rintro⟨i,l⟩ ⟨g1,g2,g3⟩
 dsimp only at g1 g2 g3 ⊢
 have e:f (i,l)=cond (decide (i<a2)) (rq (l.length+[i].length≤Zl) <|rq (i64 (i+1)) <|some (.inl (i+1,l++[i]))) (up (ZdT r l)):=by
  rcases hf with rfl|rfl<;>rfl
 rw[e]
 by_cases h1:i<a2
 ·left
  rw[Zd h1,Zb (by simp[Zl];omega),Zf (by omega) (by omega)]
  exact⟨_,rfl,⟨by (try dsimp only)<;>omega,by (try dsimp only)<;>omega,by simp;omega⟩,by (try dsimp only)<;>omega⟩
 ·right
  obtain⟨r',l',e1,a1,m1⟩:=ZtS (l:=l) h
  rw[Zc h1,e1]
  exact⟨_,rfl,a1,by (try dsimp only)<;>omega,by (try dsimp only)<;>omega⟩
theorem ZtR {r:List Int×Int} {a2:Int} {l:List Int} (h:RdOk r 1000000000) (ha:1≤a2∧a2≤6) (hl:l.length≤6) :
  ∃o,ZfM a2 r l=some o∧(Adv r o.1 1∧a2≤o.2.length∧o.2.length≤6):=by
 unfold ZfM
 by_cases h1:(l.length:Int)<a2
 ·rw[Zd h1]
  exact ZzX h ha (Or.inl rfl)
 ·rw[Zc h1,Zo (by omega)]
  obtain⟨r',l',e1,a1,m1⟩:=ZtS (l:=l) h
  exact⟨_,e1,a1,by (try dsimp only)<;>omega,by (try dsimp only)<;>omega⟩
theorem ZxW {r:List Int×Int} {a2:Int} {o1:List Int} (o2:List ZI) (h:RdOk r 900000000) (ha:1≤a2∧a2≤6) (ho:o1.length≤6) :
  ∃r' l,Zig a2 r o1 o2=some (r',l)∧Adv r r' 7∧a2≤l.length∧l.length≤6:=by
 unfold Zig
 have key:=ZbX (f:=ZiJ a2 o1) (fun s=>0≤s.1∧s.1≤o1.length∧Adv r s.2.1 s.1∧(s.2.2.length:Int)≤s.1) (fun s=>(o1.length - s.1).toNat)
  (fun o=>Adv r o.1 7∧a2≤o.2.length∧o.2.length≤6) ?_ ((0:Int),r,[]) ⟨Xas _,by (try dsimp only)<;>omega,Adv.refl r (Xas _),by simp⟩
 ·obtain⟨⟨r',l⟩,q1,q2⟩:=key
  exact⟨r',l,q1,q2⟩
 rintro⟨i,q,l⟩ ⟨g1,g2,g3,g4⟩
 dsimp only at g1 g2 g3 g4 ⊢
 have hq:RdOk q 900000006:=g3.ok h (by omega)
 unfold ZiJ
 dsimp only
 by_cases h1:i<o1.length
 ·left
  obtain⟨x,q1,e1,a1,_⟩:=Zlv 3 (hq.wk (by omega))
  rw[Zd h1,e1,Ze]
  dsimp only
  by_cases h2:0<x
  ·rw[Zd h2,Zb (by simp[Zl];omega),Zf (by omega) (by omega)]
   exact⟨_,rfl,⟨by (try dsimp only)<;>omega,by (try dsimp only)<;>omega,g3.trans a1 (Xas _),by simp;omega⟩,by (try dsimp only)<;>omega⟩
  ·rw[Zc h2,Zf (by omega) (by omega)]
   exact⟨_,rfl,⟨by (try dsimp only)<;>omega,by (try dsimp only)<;>omega,g3.trans a1 (Xas _),by (try dsimp only)<;>omega⟩,by (try dsimp only)<;>omega⟩
 ·right
  rw[Zc h1]
  have key2:∃o,ZiH a2 o1 (q,l)=some o∧(Adv q o.1 1∧a2≤o.2.length∧o.2.length≤6):=by
   unfold ZiH
   refine ZbX (f:=ZiI a2 o1 q) (fun s=>0≤s.1∧s.1≤o1.length∧s.2.length≤6) (fun s=>(o1.length - s.1).toNat) _ ?_ ((0:Int),l) ⟨Xas _,by (try dsimp only)<;>omega,by (try dsimp only)<;>omega⟩
   rintro⟨j,l⟩ ⟨k1,k2,k3⟩
   dsimp only at k1 k2 k3 ⊢
   unfold ZiI
   dsimp only
   by_cases h2:(l.length:Int)<a2
   ·rw[Zd h2]
    by_cases h3:j<o1.length
    ·left
     rw[Zd h3]
     by_cases h4:(l.length:Int)=0
     ·rw[Zu h4,Zb (by simp[Zl];omega),Zf (by omega) (by omega)]
      exact⟨_,rfl,⟨by (try dsimp only)<;>omega,by (try dsimp only)<;>omega,by simp;omega⟩,by (try dsimp only)<;>omega⟩
     ·rw[Zo h4,Zf (by omega) (by omega),Zb ⟨by omega,by omega⟩]
      by_cases h5:l.getD ((l.length:Int) - 1).toNat 0<j
      ·rw[Zd h5,Zb (by simp[Zl];omega),Zf (by omega) (by omega)]
       exact⟨_,rfl,⟨by (try dsimp only)<;>omega,by (try dsimp only)<;>omega,by simp;omega⟩,by (try dsimp only)<;>omega⟩
      ·rw[Zc h5,Zf (by omega) (by omega)]
       exact⟨_,rfl,⟨by (try dsimp only)<;>omega,by (try dsimp only)<;>omega,k3⟩,by (try dsimp only)<;>omega⟩
    ·right
     obtain⟨o,e1,q1⟩:=ZtR (hq.wk (show (900000006:Int)≤1000000000 by omega)) ha k3
     rw[Zc h3,e1]
     exact⟨o,rfl,q1⟩
   ·right
    obtain⟨o,e1,q1⟩:=ZtR (hq.wk (show (900000006:Int)≤1000000000 by omega)) ha k3
    rw[Zc h2,e1]
    exact⟨o,rfl,q1⟩
  obtain⟨o,e1,q1,q2⟩:=key2
  rw[e1]
  exact⟨o,rfl,g3.trans q1 (by omega),q2⟩
def okR (r:ZI):Prop:=r.2.1.length≤8∧r.2.2.1.length≤8∧r.2.2.2.2.length≤8∧∀x∈r.2.2.2.2,x.length≤8
def okM (m:Zp):Prop:=m.1.length≤8∧m.2.length≤8∧∀r∈m.2,okR r
theorem okM.small {m:Zp} (h:okM m):Zde m:=
 ⟨by have:=h.1;omega,by have:=h.2.1;omega,fun r hr=>⟨by have:=(h.2.2 r hr).1;omega,by have:=(h.2.2 r hr).2.1;omega,by have:=(h.2.2 r hr).2.2.1;omega,fun x hx=>by have:=(h.2.2 r hr).2.2.2 x hx;omega⟩⟩
theorem ZFF {r:List Int×Int} {o1:List Int} (o2:List ZI) (h:RdOk r 800000000) (ho:o1.length≤6) :
  ∃r' a b c d e,ZlK r o1 o2=some (r',a,b,c,d,e)∧Adv r r' 200∧c.length≤6∧d.length≤6∧e.length≤8∧∀x∈e,x.length≤6:=by
 unfold ZlK
 obtain⟨k,r1,e1,a1,_⟩:=ZgC (l:=[1,2,3,4,1]) (h.wk (by omega)) (by decide)
 have h1:RdOk r1 800000001:=a1.ok h (by omega)
 obtain⟨r2,l,e2,a2,m1,m2⟩:=ZxW (a2:=1) o2 (h1.wk (by omega)) (by omega) ho
 have h2:RdOk r2 800000008:=a2.ok h1 (by omega)
 rw[e1,Ze]
 dsimp only
 rw[e2,Ze]
 dsimp only
 cases (k==1)with
 |true=>
  rw[ctt]
  have key:=ZbX (f:=ZiE (k,r1) (r2,l)) (fun s=>0≤s.1∧s.1≤l.length∧Adv r2 s.2.1 s.1∧(s.2.2.length:Int)≤s.1) (fun s=>(l.length - s.1).toNat)
   (fun o=>Adv r2 o.1 7∧o.2.2.2.1.length≤6∧o.2.2.2.2.1.length≤6∧o.2.2.2.2.2=[]) ?_ ((0:Int),r2,[]) ⟨Xas _,by (try dsimp only)<;>omega,Adv.refl r2 (Xas _),by simp⟩
  ·obtain⟨⟨r',a,b,c,d,e⟩,q1,q2,q3,q4,q5⟩:=key
   dsimp only at q2 q3 q4 q5
   subst q5
   exact⟨r',a,b,c,d,[],q1,(a1.trans a2 (Xas _)).trans q2 (by omega),q3,q4,by simp,by simp⟩
  rintro⟨i,q,c⟩ ⟨g1,g2,g3,g4⟩
  dsimp only at g1 g2 g3 g4 ⊢
  have hq:RdOk q 800000014:=g3.ok h2 (by omega)
  unfold ZiE
  dsimp only
  by_cases h3:i<l.length
  ·left
   obtain⟨x,q1,e3,a3,_⟩:=ZgC (l:=[1,-1,2,1,-2,3]) (hq.wk (by omega)) (by decide)
   rw[Zd h3,e3,Ze,Zb (by simp[Zl];omega),Zf (by omega) (by omega)]
   exact⟨_,rfl,⟨by (try dsimp only)<;>omega,by (try dsimp only)<;>omega,g3.trans a3 (Xas _),by simp;omega⟩,by (try dsimp only)<;>omega⟩
  ·right
   obtain⟨x,q1,e3,a3,_⟩:=ZgC (l:=[1,2,0,-1,3,-3,4]) (hq.wk (by omega)) (by decide)
   rw[Zc h3]
   unfold ZmJ
   dsimp only
   rw[e3,Ze]
   exact⟨_,rfl,g3.trans a3 (by omega),m2,by (try dsimp only)<;>omega,rfl⟩
 |false=>
  rw[cff]
  cases (k==3)with
  |true=>
   rw[ctt]
   obtain⟨n,r3,e3,a3,m3⟩:=ZgC (l:=[3,4,2,6,0,8]) (h2.wk (by omega)) (by decide)
   have hn:0≤n∧n≤8:=by simp only[XaA,XaE,or_false]at m3;omega
   rw[e3,Ze]
   dsimp only
   have key:=ZbX (f:=ZiF (k,r1) (r2,l)) (fun s=>0≤s.1∧s.1≤n∧Adv r2 s.2.1 (1+6*(n - s.1))∧(s.2.2.length:Int)≤n - s.1∧∀x∈s.2.2,x.length≤6) (fun s=>s.1.toNat)
    (fun o=>Adv r2 o.1 50∧o.2.2.2.1.length≤6∧o.2.2.2.2.1=[]∧o.2.2.2.2.2.length≤8∧∀x∈o.2.2.2.2.2,x.length≤6) ?_ (n,r3,[]) ⟨by (try dsimp only)<;>omega,by (try dsimp only)<;>omega,Adv.trans a3 (Adv.refl r3 (c:=0) (by omega)) (by (try dsimp only)<;>omega),by simp,by simp⟩
   ·obtain⟨⟨r',a,b,c,d,e⟩,q1,q2,q3,q4,q5,q6⟩:=key
    dsimp only at q2 q3 q4 q5 q6
    subst q4
    exact⟨r',a,b,c,[],e,q1,(a1.trans a2 (Xas _)).trans q2 (by omega),q3,by simp,q5,q6⟩
   rintro⟨i,q,e⟩ ⟨g1,g2,g3,g4,g5⟩
   dsimp only at g1 g2 g3 g4 g5 ⊢
   have hq:RdOk q 800000057:=g3.ok h2 (by omega)
   unfold ZiF
   dsimp only
   by_cases h3:0<i
   ·left
    rw[Zd h3]
    obtain⟨o,w1,o',w2,w3⟩:=ZbX (f:=ZiG (r2,l) i e) (fun s=>0≤s.1∧s.1≤l.length∧Adv q s.2.1 s.1∧(s.2.2.length:Int)≤s.1) (fun s=>(l.length - s.1).toNat)
     (fun o=>∃o':Int×(List Int×Int)×List (List Int),o = .inl o'∧(o'.1=i - 1∧Adv q o'.2.1 6∧∃x:List Int,o'.2.2=e++[x]∧x.length≤6)) (by
      rintro⟨j,p,v⟩ ⟨k1,k2,k3,k4⟩
      dsimp only at k1 k2 k3 k4 ⊢
      have hp:RdOk p 800000064:=k3.ok hq (by omega)
      unfold ZiG
      dsimp only
      by_cases h4:j<l.length
      ·left
       obtain⟨x,p1,e4,a4,_⟩:=Zlv 4 (hp.wk (by omega))
       rw[Zd h4,e4,Ze,Zb (by simp[Zl];omega),Zf (by omega) (by omega)]
       exact⟨_,rfl,⟨by (try dsimp only)<;>omega,by (try dsimp only)<;>omega,k3.trans a4 (Xas _),by simp;omega⟩,by (try dsimp only)<;>omega⟩
      ·right
       rw[Zc h4]
       unfold ZmK
       dsimp only
       rw[Zb (by simp[Zl];omega),Zf (by omega) (by omega)]
       exact⟨_,rfl,_,rfl,rfl,k3.trans (Adv.refl p (c:=0) (by omega)) (by omega),v,rfl,by (try dsimp only)<;>omega⟩) ((0:Int),q,[]) ⟨Xas _,by (try dsimp only)<;>omega,Adv.refl q (Xas _),by simp⟩
    subst w2
    obtain⟨i',q',e'⟩:=o'
    obtain⟨y1,y2,x,y3,y4⟩:=w3
    dsimp only at y1 y2 y3
    subst y1 y3
    refine⟨_,w1,⟨by (try dsimp only)<;>omega,by (try dsimp only)<;>omega,g3.trans y2 (by (try dsimp only)<;>omega),by simp;omega,fun z hz=>?_⟩,by (try dsimp only)<;>omega⟩
    rcases List.mem_append.1 hz with hz|hz
    ·exact g5 z hz
    ·rw[Xaj.1 hz];exact y4
   ·right
    rw[Zc h3]
    exact⟨_,rfl,g3.trans (Adv.refl q (c:=0) (by omega)) (by omega),m2,rfl,by (try dsimp only)<;>omega,g5⟩
  |false=>
   rw[cff]
   cases (k==4)with
   |true=>
    rw[ctt]
    obtain⟨r3,l3,e3,a3,m3,m4⟩:=ZxW (a2:=2) o2 (h2.wk (by omega)) (by omega) ho
    rw[e3,Ze,Zb ⟨by omega,by (try dsimp only)<;>omega⟩]
    exact⟨_,_,_,_,_,_,rfl,(a1.trans a2 (Xas _)).trans a3 (by omega),by simp;omega,by simp,by simp,by simp⟩
   |false=>
    rw[cff]
    exact⟨_,_,_,_,_,_,rfl,a1.trans a2 (by omega),m2,by simp,by simp,by simp⟩
theorem ZO7 {l:List Int} (h:∀x∈l,0≤x∧x≤3) {i:Nat} (hi:i<l.length):0≤l.getD i 0∧l.getD i 0≤3:=h _ (ZF hi)
theorem ZBh {r:List Int×Int} {l:List Int} (h:RdOk r 700000100) (hl:l.length≤6):∃o,Znb r l=some o∧(Adv r o.1 1001∧o.2.1=l∧o.2.2.length≤4∧∀r∈o.2.2,okR r):=by
 unfold Znb
 obtain⟨n,r1,e1,a1,m1⟩:=ZgC (l:=[2,3,1,4,0]) (h.wk (by omega)) (by decide)
 have hn:0≤n∧n≤4:=by simp only[XaA,XaE,or_false]at m1;omega
 rw[e1,Ze]
 dsimp only
 refine ZbX (f:=Znc l) (fun s=>0≤s.1∧s.1≤n∧Adv r s.2.1 (1+200*(n - s.1))∧(s.2.2.length:Int)≤n - s.1∧∀r∈s.2.2,okR r) (fun s=>s.1.toNat) _ ?_ (n,r1,[]) ⟨by (try dsimp only)<;>omega,by (try dsimp only)<;>omega,Adv.trans a1 (Adv.refl r1 (c:=0) (by omega)) (by (try dsimp only)<;>omega),by simp,by simp⟩
 rintro⟨i,q,e⟩ ⟨g1,g2,g3,g4,g5⟩
 dsimp only at g1 g2 g3 g4 g5 ⊢
 have hq:RdOk q 700001101:=g3.ok h (by omega)
 unfold Znc
 dsimp only
 by_cases h3:0<i
 ·left
  obtain⟨q1,a,b,c,d,t,e2,a2,m2,m3,m4,m5⟩:=ZFF (o1:=l) e (hq.wk (by omega)) hl
  rw[Zd h3,e2,Ze]
  dsimp only
  rw[Zb (by simp[Zl];omega),Zf (by omega) (by omega)]
  refine⟨_,rfl,⟨by (try dsimp only)<;>omega,by (try dsimp only)<;>omega,g3.trans a2 (by (try dsimp only)<;>omega),by simp;omega,fun z hz=>?_⟩,by (try dsimp only)<;>omega⟩
  rcases List.mem_append.1 hz with hz|hz
  ·exact g5 z hz
  ·rw[Xaj.1 hz]
   exact⟨by (try dsimp only)<;>omega,by (try dsimp only)<;>omega,by (try dsimp only)<;>omega,fun x hx=>by have:=m5 x hx;omega⟩
 ·right
  rw[Zc h3]
  exact⟨_,rfl,g3.trans (Adv.refl q (c:=0) (by omega)) (by omega),rfl,by (try dsimp only)<;>omega,g5⟩
theorem ZBi {l:List Int} (h:∀x∈l,0≤x∧x≤3) (h2:2≤l.length) (h4:l.length≤4) :
  loop (ZgL l) ((0:Int),(0:Int))=some (.inl ((0:Int),l.take (l.length - 1)))∧4≤l.length∨∃n,loop (ZgL l) ((0:Int),(0:Int))=some (.inl (n,l))∧n≠0:=by
 have key:=ZbX (f:=ZgL l) (fun s=>∃i:Nat,s.2=i∧i≤l.length∧(i:Int)≤s.1∧s.1≤4*i) (fun s=>l.length - s.2.toNat)
  (fun o=>o = .inl ((0:Int),l.take (l.length - 1))∧4≤l.length∨∃n,o = .inl (n,l)∧n≠0) ?_ ((0:Int),(0:Int)) ⟨0,rfl,Nat.zero_le _,Xas _,Xas _⟩
 ·obtain⟨o,q1,⟨rfl,q2⟩|⟨n,rfl,q2⟩⟩:=key
  ·exact Or.inl ⟨q1,q2⟩
  ·exact Or.inr ⟨n,q1,q2⟩
 rintro⟨a,s⟩ ⟨i,rfl,hi,g1,g2⟩
 dsimp only at g1 g2 ⊢
 unfold ZgL
 dsimp only
 rcases Xag i l.length with h1|h1
 ·left
  have:=ZO7 h h1
  rw[Zd (by omega),Zb ⟨by omega,by omega⟩,Xab,Zf (by omega) (by omega),Zf (by omega) (by omega),Zf (by omega) (by omega)]
  exact⟨_,rfl,⟨i+1,by simp,by omega,by (try dsimp only)<;>omega,by (try dsimp only)<;>omega⟩,by (try dsimp only)<;>omega⟩
 ·right
  have:i=l.length:=by omega
  subst this
  rw[Zc (by omega)]
  by_cases h5:12<a
  ·rw[Zd h5,Zf (by omega) (by omega),Zb ⟨by omega,by omega⟩]
   exact⟨_,rfl,Or.inl ⟨by rw[show ((l.length:Int) - 1).toNat=l.length - 1 by omega],by omega⟩⟩
  ·rw[Zc h5]
   exact⟨_,rfl,Or.inr ⟨a,rfl,by omega⟩⟩
theorem ZEu {r:List Int×Int} (h:RdOk r 700000000):∃r' m,Zrh r=some (r',m)∧Adv r r' 1100∧m.1.length≤4∧m.2.length≤4∧∀r∈m.2,okR r:=by
 unfold Zrh
 obtain⟨n,r1,e1,a1,m1⟩:=ZgC (l:=[3,2,4,3]) (h.wk (by omega)) (by decide)
 have hn:2≤n∧n≤4:=by simp only[XaA,XaE,or_false]at m1;omega
 rw[e1,Ze]
 dsimp only
 have key:=ZbX (f:=Zne) (fun s=>0≤s.1∧s.1≤n∧Adv r s.2.1 (1+(n - s.1))∧(s.2.2.length:Int)=n - s.1∧∀x∈s.2.2,0≤x∧x≤3) (fun s=>s.1.toNat)
  (fun o=>Adv r o.1 1100∧o.2.1.length≤4∧o.2.2.length≤4∧∀r∈o.2.2,okR r) ?_ (n,r1,[]) ⟨by (try dsimp only)<;>omega,by (try dsimp only)<;>omega,Adv.trans a1 (Adv.refl r1 (c:=0) (by omega)) (by (try dsimp only)<;>omega),by simp,by simp⟩
 ·obtain⟨⟨r',m⟩,q1,q2⟩:=key
  exact⟨r',m,q1,q2⟩
 rintro⟨i,q,l⟩ ⟨g1,g2,g3,g4,g5⟩
 dsimp only at g1 g2 g3 g4 g5 ⊢
 have hq:RdOk q 700000005:=g3.ok h (by omega)
 unfold Zne
 dsimp only
 by_cases h3:0<i
 ·left
  obtain⟨x,q1,e2,a2,m2⟩:=ZgC (l:=[2,1,3,2,0]) (hq.wk (by omega)) (by decide)
  have hx:0≤x∧x≤3:=by simp only[XaA,XaE,or_false]at m2;omega
  rw[Zd h3,e2,Ze,Zb (by simp[Zl];omega),Zf (by omega) (by omega)]
  refine⟨_,rfl,⟨by (try dsimp only)<;>omega,by (try dsimp only)<;>omega,g3.trans a2 (by (try dsimp only)<;>omega),by simp;omega,fun z hz=>?_⟩,by (try dsimp only)<;>omega⟩
  rcases List.mem_append.1 hz with hz|hz
  ·exact g5 z hz
  ·rw[Xaj.1 hz];exact hx
 ·right
  rw[Zc h3]
  have key2:∃o,Zna (q,l)=some o∧(Adv q o.1 1001∧o.2.1.length≤4∧o.2.2.length≤4∧∀r∈o.2.2,okR r):=by
   unfold Zna
   refine ZbX (f:=Znd q) (fun s=>(s.1=0∧2≤s.2.length∨s.1≠0)∧s.2.length≤4∧∀x∈s.2,0≤x∧x≤3) (fun s=>if s.1=0 then 1+s.2.length else 0) _ ?_ ((0:Int),l) ⟨Or.inl ⟨rfl,by (try dsimp only)<;>omega⟩,by (try dsimp only)<;>omega,g5⟩
   rintro⟨a,l⟩ ⟨k1,k2,k3⟩
   dsimp only at k1 k2 k3 ⊢
   unfold Znd
   dsimp only
   by_cases h4:a=0
   ·left
    subst h4
    rw[Zu rfl]
    have k1:2≤l.length:=by rcases k1 with k1|k1<;>omega
    rcases ZBi k3 k1 k2 with⟨w1,w2⟩|⟨n',w1,w2⟩
    ·rw[w1]
     refine⟨_,rfl,⟨Or.inl ⟨rfl,by (try dsimp only)<;>(rw[Xay];omega)⟩,by (try dsimp only)<;>(rw[Xay];omega),fun x hx=>k3 x (XbO hx)⟩,?_⟩
     dsimp only
     rw[if_pos rfl,if_pos rfl,Xay]
     omega
    ·rw[w1]
     refine⟨_,rfl,⟨Or.inr w2,k2,k3⟩,?_⟩
     dsimp only
     rw[if_neg w2,if_pos rfl]
     omega
   ·right
    rw[Zo h4]
    obtain⟨o,w1,w2,w3,w4⟩:=ZBh (l:=l) (hq.wk (show (700000005:Int)≤700000100 by omega)) (by omega)
    rw[w1]
    exact⟨_,rfl,w2,by rw[w3];omega,w4⟩
  obtain⟨o,w1,w2,w3⟩:=key2
  rw[w1]
  exact⟨_,rfl,g3.trans w2 (by omega),w3⟩
theorem Zrm {α:Type} {l:List α} {i:Nat} (d:α) (h:i<l.length):l.take (i+1)=l.take i++[l.getD i d]:=by
 rw[Xbg,Xac h,Xaa,Xac h]
 rfl
theorem ZFE (m:Zp) (h:Zde m):Zr8 m=some m:=by
 have hb:∀{n:Nat},n≤1048576→n+1≤Zl:=fun h=>by simp only[Zl];omega
 have hb':∀{n:Nat},n≤1048576→0+n≤Zl:=fun h=>by simp only[Zl];omega
 unfold Zr8
 change rq _ (loop _ _)=_
 rw[Zb (by simp only[Xal];exact hb' h.1)]
 have hh:m.2.length≤1048576:=h.2.1
 refine ZL (fun s:Int×List ZI=>∃i:Nat,s.1=i∧i≤m.2.length∧s.2=m.2.take i) (fun s=>m.2.length - s.1.toNat) (fun _=>m) ?_ _ ⟨0,rfl,Nat.zero_le _,rfl⟩
 rintro⟨a,out⟩ ⟨i,rfl,hi,rfl⟩
 dsimp only
 unfold ZrU
 dsimp only
 rcases Xag i m.2.length with h1|h1
 ·left
  have hr:=h.2.2 _ (ZF (l:=m.2) (i:=i) (d:=(0,[],[],0,[])) h1)
  obtain⟨hr1,hr2,hr3,hr4⟩:=hr
  rw[Zd (by omega),Zb ⟨by omega,by omega⟩]
  show ∃s',rq _ (rq _ _)=_∧_
  rw[Xab]
  rw[Zb (by simp only[Xal];exact hb' hr1),Zb (by simp only[Xal];exact hb' hr2)]
  show ∃s',loop (ZhO m (i:Int) (m.2.take i)) ((0:Int),[])=_∧_
  have e:loop (ZhO m (i:Int) (m.2.take i)) ((0:Int),[])=some (.inl ((i:Int)+1,m.2.take (i+1))):=by
   refine ZL (f:=ZhO m (i:Int) (m.2.take i)) (fun s:Int×List (List Int)=>∃k:Nat,s.1=k∧k≤(m.2.getD i (0,[],[],0,[])).2.2.2.2.length∧s.2=(m.2.getD i (0,[],[],0,[])).2.2.2.2.take k) (fun s=>(m.2.getD i (0,[],[],0,[])).2.2.2.2.length - s.1.toNat) (fun _=>.inl ((i:Int)+1,m.2.take (i+1))) ?_ _ ⟨0,rfl,Nat.zero_le _,rfl⟩
   rintro⟨b,t⟩ ⟨k,rfl,hk,rfl⟩
   dsimp only
   unfold ZhO
   dsimp only
   rw[Xab]
   rcases Xag k (m.2.getD i (0,[],[],0,[])).2.2.2.2.length with h2|h2
   ·left
    have hx:=hr4 _ (ZF (l:=(m.2.getD i (0,[],[],0,[])).2.2.2.2) (i:=k) (d:=[]) h2)
    rw[Zd (by omega),Zb ⟨by omega,by omega⟩,Xab]
    rw[Zb (by simp only[Xal];exact hb' hx),Zb (by rw[XaC,Xay];exact hb (by omega)),Zf (by omega) (by omega),Xao]
    exact⟨_,rfl,⟨k+1,by simp,by omega,by rw[Zrm [] h2]⟩,by (try dsimp only)<;>omega,rfl⟩
   ·right
    have:k=(m.2.getD i (0,[],[],0,[])).2.2.2.2.length:=by omega
    rw[Zc (by omega)]
    change up (rq _ (rq _ (some _)))=_
    rw[Xab,Zb (by rw[XaC,Xay];exact hb (by omega)),Zf (by omega) (by omega),Xao,Xao,this,XaB,Zrm (0,[],[],0,[]) h1]
    rfl
  rw[e]
  exact⟨_,rfl,⟨i+1,by simp,by omega,rfl⟩,by (try dsimp only)<;>omega,rfl⟩
 ·right
  have:i=m.2.length:=by omega
  rw[Zc (by omega),this,XaB,Xao]
theorem ZxJ {l:List ZI} (h:∀r∈l,okR r) {r:ZI} (hr:okR r) (i:Nat):∀x∈l.set i r,okR x:=fun x hx=>by
 rcases List.mem_or_eq_of_mem_set hx with hx|hx
 ·exact h x hx
 ·rw[hx];exact hr
theorem ZDg {m:Zp} {r:List Int×Int} (h:RdOk r 700100000) (hm:m.1.length≤4∧m.2.length≤4∧∀r∈m.2,okR r) :
  ∃r' m',Zpx m r=some (r',m')∧Adv r r' 2∧m'.1.length≤6∧m'.2.length≤4∧∀r∈m'.2,okR r:=by
 obtain⟨s,t⟩:=m
 obtain⟨m1,m2,m3⟩:=hm
 dsimp only at m1 m2 m3
 unfold Zpx
 obtain⟨x,r1,e1,a1,_⟩:=Zlv 50 (h.wk (show (700100000:Int)≤1000000000 by omega))
 have h1:RdOk r1 700100001:=a1.ok h (by omega)
 have h1':RdOk r1 1000000000:=h1.wk (by omega)
 rw[ZFE _ (okM.small ⟨by (try dsimp only)<;>omega,by (try dsimp only)<;>omega,m3⟩),Ze,e1,Ze]
 dsimp only
 have a1':Adv r r1 2:=a1.trans (Adv.refl r1 (c:=0) (by omega)) (by omega)
 have gt:t.getD 0 (0,[],[],0,[])∈t∨t=[]:=by
  cases t with
  |nil=>exact Or.inr rfl
  |cons y z=>exact Or.inl (Xav ..)
 cases (x==0)with
 |true=>
  rw[ctt]
  by_cases hl:(0:Int)<s.length
  ·obtain⟨y,r2,e2,a2,_⟩:=ZgC (l:=[-1,4,3,9223372036854775807]) h1' (by simp)
   rw[Zd hl,e2,Ze,Zb ⟨by omega,hl⟩]
   exact⟨_,_,rfl,a1.trans a2 (by omega),by (try dsimp only)<;>(rw[Xam];omega),m2,m3⟩
  ·rw[Zc hl]
   exact⟨_,_,rfl,a1',by (try dsimp only)<;>omega,m2,m3⟩
 |false=>
  rw[cff]
  cases (x==1)with
  |true=>
   rw[ctt]
   obtain⟨⟨r',m'⟩,q1,q2⟩:=ZbX (f:=ZlM (s,t) (x,r1)) (fun s=>s.length≤6) (fun s=>6 - s.length) (fun o=>o.1=r1∧o.2.1.length≤6∧o.2.2=t) (by
    intro v hv
    unfold ZlM
    by_cases h2:(v.length:Int)≤5
    ·left
     rw[Zd h2,Zb (by simp[Zl];omega)]
     exact⟨_,rfl,by simp;omega,by simp;omega⟩
    ·right
     rw[Zc h2]
     exact⟨_,rfl,rfl,by (try dsimp only)<;>omega,rfl⟩) s (by (try dsimp only)<;>omega)
   dsimp only at q2
   obtain⟨rfl,q3,q4⟩:=q2
   rw[←q4]at m2 m3
   exact⟨_,_,q1,a1',q3,m2,m3⟩
  |false=>
   rw[cff]
   cases (x==2)with
   |true=>
    rw[ctt]
    by_cases hl:(0:Int)<t.length
    ·obtain⟨y,r2,e2,a2,_⟩:=ZgC (l:=[0,5,1,2,3]) h1' (by simp)
     have gm:=gt.resolve_right (by rintro rfl;simp at hl)
     rw[Zd hl,e2,Ze,Zb ⟨by omega,hl⟩]
     refine⟨_,_,rfl,a1.trans a2 (by omega),by (try dsimp only)<;>omega,by (try dsimp only)<;>(rw[Xam];omega),ZxJ m3 ?_ _⟩
     obtain⟨w1,w2,w3,w4⟩:=m3 _ gm
     exact⟨w1,w2,w3,w4⟩
    ·rw[Zc hl]
     exact⟨_,_,rfl,a1',by (try dsimp only)<;>omega,m2,m3⟩
   |false=>
    rw[cff]
    cases (x==3)with
    |true=>
     rw[ctt]
     by_cases hl:(0:Int)<t.length
     ·rw[Zd hl,Zf (by omega) (by omega),Zb ⟨by omega,by omega⟩]
      have e:((t.length:Int) - 1).toNat=t.length - 1:=by omega
      have gm:=ZF (l:=t) (i:=t.length - 1) (d:=(0,[],[],0,[])) (by omega)
      rw[e]
      have gm':=m3 _ gm
      have es:∀v:ZI,(t.set (t.length - 1) v).getD (t.length - 1) (0,[],[],0,[])=v:=fun v=>by
       rw[Xaa,List.getElem?_set_self (by omega)]
       rfl
      rw[es]
      by_cases h2:(0:Int)<(t.getD (t.length - 1) (0,[],[],0,[])).2.1.length
      ·obtain⟨y,r2,e2,a2,_⟩:=ZgC (l:=[-1,5,1,0]) h1' (by simp)
       rw[Zd h2,Zf (by omega) (by omega),Zb ⟨by omega,by omega⟩,e2,Ze,Zb ⟨by omega,h2⟩]
       refine⟨_,_,rfl,a1.trans a2 (by omega),by (try dsimp only)<;>omega,by (try dsimp only)<;>(rw[Xam,Xam];omega),ZxJ (ZxJ m3 gm' _) ?_ _⟩
       obtain⟨w1,w2,w3,w4⟩:=gm'
       exact⟨by (try dsimp only)<;>(rw[Xam];omega),w2,w3,w4⟩
      ·rw[Zc h2]
       exact⟨_,_,rfl,a1',by (try dsimp only)<;>omega,by (try dsimp only)<;>(rw[Xam];omega),ZxJ m3 gm' _⟩
     ·rw[Zc hl]
      exact⟨_,_,rfl,a1',by (try dsimp only)<;>omega,m2,m3⟩
    |false=>
     rw[cff]
     cases (x==4)with
     |true=>
      rw[ctt]
      by_cases hl:(0:Int)<t.length
      ·obtain⟨y,r2,e2,a2,_⟩:=ZgC (l:=[1001,-1001,1000]) h1' (by simp)
       have gm:=gt.resolve_right (by rintro rfl;simp at hl)
       rw[Zd hl,e2,Ze,Zb ⟨by omega,hl⟩]
       refine⟨_,_,rfl,a1.trans a2 (by omega),by (try dsimp only)<;>omega,by (try dsimp only)<;>(rw[Xam];omega),ZxJ m3 ?_ _⟩
       obtain⟨w1,w2,w3,w4⟩:=m3 _ gm
       exact⟨w1,w2,w3,w4⟩
      ·rw[Zc hl]
       exact⟨_,_,rfl,a1',by (try dsimp only)<;>omega,m2,m3⟩
     |false=>
      rw[cff]
      cases (x==5)with
      |true=>
       rw[ctt]
       exact⟨_,_,rfl,a1',by simp,by simp,by simp⟩
      |false=>
       rw[cff]
       exact⟨_,_,rfl,a1',by (try dsimp only)<;>omega,m2,m3⟩
end Go.AE.Y
namespace Go.AE.Y
open Go Go.AE
def okDm (d:List (List Bool)):Prop:=d.length≤8∧∀x∈d,x.length≤8
theorem okDm.small {d:List (List Bool)} (h:okDm d):ZQc d:=⟨by have:=h.1;omega,fun x hx=>by have:=h.2 x hx;omega⟩
end Go.AE.Y
namespace Go.AE.Y
open Go Go.AE
theorem ZFM {r:List Int×Int} {o1:List Int} (o2:List ZI) (h:RdOk r 710000000) (ho:o1.length≤8):∃r' l,ZlV r o1 o2=some (r',l)∧Adv r r' 10∧l.length≤9:=by
 unfold ZlV
 have key:=ZbX (f:=ZiK o1) (fun s=>0≤s.1∧s.1≤o1.length∧Adv r s.2.1 s.1∧(s.2.2.length:Int)≤s.1) (fun s=>(o1.length - s.1).toNat)
  (fun o=>Adv r o.1 10∧o.2.length≤9) ?_ ((0:Int),r,[]) ⟨Xas _,by (try dsimp only)<;>omega,Adv.refl r (Xas _),by simp⟩
 ·obtain⟨⟨r',l⟩,q1,q2⟩:=key
  exact⟨r',l,q1,q2⟩
 rintro⟨i,q,l⟩ ⟨g1,g2,g3,g4⟩
 dsimp only at g1 g2 g3 g4 ⊢
 have hq:RdOk q 710000008:=g3.ok h (by omega)
 unfold ZiK
 dsimp only
 by_cases h1:i<o1.length
 ·left
  obtain⟨x,q1,e1,a1,_⟩:=ZgC (l:=[1,-1,2,0,-2,3]) (hq.wk (by omega)) (by decide)
  rw[Zd h1,e1,Ze,Zb (by simp[Zl];omega),Zf (by omega) (by omega)]
  exact⟨_,rfl,⟨by (try dsimp only)<;>omega,by (try dsimp only)<;>omega,g3.trans a1 (Xas _),by simp;omega⟩,by (try dsimp only)<;>omega⟩
 ·right
  obtain⟨x,q1,e1,a1,_⟩:=Zlv 30 (hq.wk (show (710000008:Int)≤1000000000 by omega))
  have hq1:RdOk q1 710000009:=a1.ok hq (by omega)
  rw[Zc h1]
  unfold ZmO
  dsimp only
  rw[e1,Ze]
  dsimp only
  cases (x==0)with
  |true=>
   rw[ctt]
   by_cases h2:(0:Int)<l.length
   ·obtain⟨y,q2,e2,a2,_⟩:=ZgC (l:=[10,-10,9,9223372036854775807]) (hq1.wk (by omega)) (by simp)
    rw[Zd h2,e2,Ze,Zb ⟨by omega,h2⟩]
    exact⟨_,rfl,(g3.trans a1 (Xas _)).trans a2 (by omega),by (try dsimp only)<;>(rw[Xam];omega)⟩
   ·rw[Zc h2]
    exact⟨_,rfl,g3.trans a1 (by omega),by (try dsimp only)<;>omega⟩
  |false=>
   rw[cff]
   cases (x==1)with
   |true=>
    rw[ctt,Zb (by simp[Zl];omega)]
    exact⟨_,rfl,g3.trans a1 (by omega),by simp;omega⟩
   |false=>
    rw[cff]
    exact⟨_,rfl,g3.trans a1 (by omega),by (try dsimp only)<;>omega⟩
theorem ZzW {r:List Int×Int} {o1:List Int} (o2:List ZI) (h:RdOk r 720000000) (ho:o1.length≤8):∃r' l,ZgK r o1 o2=some (r',l)∧Adv r r' 10∧l.length≤9:=by
 unfold ZgK
 have key:=ZbX (f:=Zfl o1) (fun s=>0≤s.1∧s.1≤o1.length∧Adv r s.2.1 s.1∧(s.2.2.length:Int)≤s.1) (fun s=>(o1.length - s.1).toNat)
  (fun o=>Adv r o.1 10∧o.2.length≤9) ?_ ((0:Int),r,[]) ⟨Xas _,by (try dsimp only)<;>omega,Adv.refl r (Xas _),by simp⟩
 ·obtain⟨⟨r',l⟩,q1,q2⟩:=key
  exact⟨r',l,q1,q2⟩
 rintro⟨i,q,l⟩ ⟨g1,g2,g3,g4⟩
 dsimp only at g1 g2 g3 g4 ⊢
 have hq:RdOk q 720000008:=g3.ok h (by omega)
 unfold Zfl
 dsimp only
 by_cases h1:i<o1.length
 ·left
  have hj:∀n,∃s',ZbI i q l n=some (.inl s')∧(s'.1=i+1∧Adv q s'.2.1 1∧s'.2.2.length=l.length+1):=fun n=>by
   unfold ZbI
   obtain⟨x,q1,e1,a1,_⟩:=Zlv n (hq.wk (show (720000008:Int)≤1000000000 by omega))
   rw[e1,Ze,Zb (by simp[Zl];omega),Zf (by omega) (by omega)]
   exact⟨_,rfl,rfl,a1,by simp⟩
  have hk:∃s',cond (decide ((w64 ((o1.getD i.toNat 0)+(1:Int)))<(1:Int))) (ZbI i q l (1:Int)) (cond (decide ((4:Int)<(w64 ((o1.getD i.toNat 0)+(1:Int))))) (ZbI i q l (1:Int)) (ZbI i q l (w64 ((o1.getD i.toNat 0)+(1:Int)))))=some (.inl s')∧(s'.1=i+1∧Adv q s'.2.1 1∧s'.2.2.length=l.length+1):=by
   cases decide ((w64 ((o1.getD i.toNat 0)+(1:Int)))<(1:Int))with
   |true=>rw[ctt];exact hj _
   |false=>
    rw[cff]
    cases decide ((4:Int)<(w64 ((o1.getD i.toNat 0)+(1:Int))))with
    |true=>rw[ctt];exact hj _
    |false=>rw[cff];exact hj _
  obtain⟨⟨i',q',l'⟩,e1,k1,k2,k3⟩:=hk
  dsimp only at k1 k2 k3
  rw[Zd h1,Zb ⟨g1,h1⟩,e1]
  exact⟨_,rfl,⟨by (try dsimp only)<;>omega,by (try dsimp only)<;>omega,g3.trans k2 (by (try dsimp only)<;>omega),by (try dsimp only)<;>omega⟩,by (try dsimp only)<;>omega⟩
 ·right
  obtain⟨x,q1,e1,a1,_⟩:=Zlv 40 (hq.wk (show (720000008:Int)≤1000000000 by omega))
  have hq1:RdOk q1 720000009:=a1.ok hq (by omega)
  rw[Zc h1]
  unfold Zif
  dsimp only
  rw[e1,Ze]
  dsimp only
  cases (x==0)with
  |true=>
   rw[ctt,Zb (by simp[Zl];omega)]
   exact⟨_,rfl,g3.trans a1 (by omega),by simp;omega⟩
  |false=>
   rw[cff]
   cases (x==1)with
   |true=>
    rw[ctt]
    by_cases h2:(0:Int)<l.length
    ·obtain⟨y,q2,e2,a2,_⟩:=ZgC (l:=[-1,4,9223372036854775807]) (hq1.wk (by omega)) (by simp)
     rw[Zd h2,e2,Ze,Zb ⟨by omega,h2⟩]
     exact⟨_,rfl,(g3.trans a1 (Xas _)).trans a2 (by omega),by (try dsimp only)<;>(rw[Xam];omega)⟩
    ·rw[Zc h2]
     exact⟨_,rfl,g3.trans a1 (by omega),by (try dsimp only)<;>omega⟩
   |false=>
    rw[cff]
    exact⟨_,rfl,g3.trans a1 (by omega),by (try dsimp only)<;>omega⟩
theorem ZQa {m:Zp} (h:m.1.length≤6∧m.2.length≤4∧∀r∈m.2,okR r):okM m:=⟨by have:=h.1;omega,by have:=h.2.1;omega,h.2.2⟩
end Go.AE.Y
namespace Go.AE.Y
open Go Go.AE
noncomputable def Ztn (m:Zp) (x:List Int):Nat→List Bool
 |0=>List.replicate 12 false
 |n+1=>(Ztn m x n).set (x.getD n 0+ZN m n).toNat true
theorem ZIo (m:Zp) (x:List Int):∀n,(Ztn m x n).length=12
 |0=>by unfold Ztn;exact Xaw
 |n+1=>by unfold Ztn;rw[Xam,ZIo m x n]
theorem ZGq {m:Zp} {x:List Int} (hm:Zz m=true) (hx:ZE m x=true) {i:Nat} (hi:i<x.length):0≤x.getD i 0∧x.getD i 0≤3∧0≤ZN m i∧x.getD i 0+ZN m i<12∧x.getD i 0+ZN m i<ZN m (i+1):=by
 obtain⟨x1,x2⟩:=Zcp hx
 have h1:=ZgO hm (i+1) (by omega)
 have h2:=ZgO hm i (by omega)
 rw[Zf2 (by omega)]at h1 ⊢
 have h3:=x2 i hi
 have h4:=ZeR hm (i:=i) (by omega)
 omega
theorem Zwo {m:Zp} (hm:Zz m=true):∀i k,i+k≤m.1.length→ZN m i≤ZN m (i+k)
 |i,0,_=>Xas _
 |i,k+1,h=>by
  have:=Zwo hm i k (by omega)
  rw[show i+(k+1)=(i+k)+1 by omega,Zf2 (by omega)]
  have:=ZeR hm (i:=i+k) (by omega)
  omega
theorem ZIn {m:Zp} {x:List Int} (hm:Zz m=true) (hx:ZE m x=true):∀n,n≤x.length→∀c,c<n→∀k:Nat,(k:Int)≤m.1.getD c 0→(Ztn m x n).getD ((k:Int)+ZN m c).toNat false=decide (x.getD c 0=k)
 |0,_,c,hc,_,_=>by omega
 |n+1,hn,c,hc,k,hk=>by
  obtain⟨x1,x2⟩:=Zcp hx
  obtain⟨c1,c2,c3,c4,c5⟩:=ZGq hm hx (i:=n) (by omega)
  have hb:=(ZgO hm c (by omega)).1
  unfold Ztn
  by_cases e:c=n
  ·subst e
   by_cases hk':x.getD c 0=k
   ·rw[hk',ZbE (by rw[ZIo];omega)]
    simp
   ·rw[ZO (by omega),decide_eq_false hk']
    have key:∀n,n≤c→(Ztn m x n).getD ((k:Int)+ZN m c).toNat false=false:=by
     intro n
     induction n with
     |zero=>
      intro _
      unfold Ztn
      rw[Xaa,List.getElem?_replicate]
      split<;>rfl
     |succ n ih=>
      intro h
      unfold Ztn
      obtain⟨d1,d2,d3,d4,d5⟩:=ZGq hm hx (i:=n) (by omega)
      have:=Zwo hm (n+1) (c - (n+1)) (by omega)
      rw[show n+1+(c - (n+1))=c by omega]at this
      rw[ZO (by omega)]
      exact ih (by omega)
    exact key c (Nat.le_refl _)
  ·have h1:(k:Int)+ZN m c<ZN m n:=by
    have:=Zwo hm (c+1) (n - (c+1)) (by omega)
    rw[show c+1+(n - (c+1))=n by omega]at this
    rw[Zf2 (by omega)]at this
    omega
   rw[ZO (by omega)]
   exact ZIn hm hx n (by omega) c (by omega) k hk
end Go.AE.Y
namespace Go.AE.Y
open Go Go.AE
end Go.AE.Y
namespace Go.AE.Y
open Go Go.AE
end Go.AE.Y
namespace Go.AE.Y
open Go Go.AE
def Zew (net:List Int) (v:List Bool):Nat→Int
 |0=>0
 |n+1=>Zew net v n+(bif v.getD n false then net.getD (n+1) 0 else 0)
theorem ZrV (v:List Bool) (a b:List (Int×Int)):Zcy v (a++b)=Zcy v a+Zcy v b:=by
 have key:∀(l:List (Int×Int)) (x:Int),l.foldl (fun a t=>bif ZT v t.2 then a+t.1 else a) x=x+l.foldl (fun a t=>bif ZT v t.2 then a+t.1 else a) 0:=by
  intro l
  induction l with
  |nil=>intro x;simp
  |cons t l ih=>
   intro x
   rw[Xa6,Xa6,ih,ih (bif ZT v t.2 then 0+t.1 else 0)]
   cases ZT v t.2 with
   |true=>rw[ctt,ctt];omega
   |false=>rw[cff,cff];omega
 unfold Zcy
 rw[Xba,key b]
theorem ZFQ {net:List Int} {v:List Bool} {b:Int}:∀n,Zcy v (Zb0 net n)=Zew net v n+(Z4 net b n - b)∧0≤Zcy v (Zb0 net n)
 |0=>⟨by show (0:Int)=0+(b - b);omega,Xas _⟩
 |n+1=>by
  obtain⟨i1,i2⟩:=ZFQ (net:=net) (v:=v) (b:=b) n
  have ev:vof ((n+1:Nat):Int) - 1=n:=by unfold vof;omega
  have ev':vof (0 - ((n+1:Nat):Int)) - 1=n:=by unfold vof;omega
  unfold Zb0
  rw[ZrV]
  by_cases q1:0<net.getD (n+1) 0
  ·have e:Zcy v [(net.getD (n+1) 0,((n+1:Nat):Int))]=bif v.getD n false then net.getD (n+1) 0 else 0:=by
    unfold Zcy
    rw[Xa6,List.foldl_nil]
    unfold ZT
    dsimp only
    rw[ev,Xab,Xad (by omega)]
    cases v.getD n false with
    |true=>simp
    |false=>simp
   have h1:Z4 net b (n+1)=Z4 net b n:=by
    conv=>lhs;unfold Z4
    rw[if_neg (by omega)]
   have h2:Zew net v (n+1)=Zew net v n+(bif v.getD n false then net.getD (n+1) 0 else 0):=rfl
   rw[if_pos q1,e,h1,h2]
   cases v.getD n false with
   |true=>rw[ctt];omega
   |false=>rw[cff];omega
  ·by_cases q2:net.getD (n+1) 0<0
   ·have e:Zcy v [(0 - net.getD (n+1) 0,0 - ((n+1:Nat):Int))]=bif v.getD n false then 0 else 0 - net.getD (n+1) 0:=by
     unfold Zcy
     rw[Xa6,List.foldl_nil]
     unfold ZT
     dsimp only
     rw[ev',Xab,decide_eq_false (by omega)]
     cases v.getD n false with
     |true=>simp
     |false=>simp
    have h1:Z4 net b (n+1)=Z4 net b n - net.getD (n+1) 0:=by
     conv=>lhs;unfold Z4
     rw[if_pos q2]
    have h2:Zew net v (n+1)=Zew net v n+(bif v.getD n false then net.getD (n+1) 0 else 0):=rfl
    rw[if_neg q1,if_pos q2,e,h1,h2]
    cases v.getD n false with
    |true=>rw[ctt,ctt];omega
    |false=>rw[cff,cff];omega
   ·have h1:Z4 net b (n+1)=Z4 net b n:=by
     conv=>lhs;unfold Z4
     rw[if_neg q2]
    have h2:Zew net v (n+1)=Zew net v n+(bif v.getD n false then net.getD (n+1) 0 else 0):=rfl
    have h3:net.getD (n+1) 0=0:=by omega
    have h4:Zcy v []=0:=rfl
    rw[if_neg q1,if_neg q2,h1,h2,h3,h4]
    cases v.getD n false with
    |true=>rw[ctt];omega
    |false=>rw[cff];omega
theorem ZEC {net:List Int} {v:List Bool} {b:Nat} {c x s:Int} (hx:0≤x∧x≤s) (hn:∀k:Nat,(k:Int)≤s→net.getD (b+k+1) 0=(0 - c)*k) (hv:∀k:Nat,(k:Int)≤s→v.getD (b+k) false=decide (x=k)):∀k:Nat,(k:Int)≤s+1→Zew net v (b+k)=Zew net v b+(if x<k then(0 - c)*x else 0)
 |0,_=>by rw[if_neg (by omega)];simp
 |k+1,h=>by
  have ih:=ZEC hx hn hv k (by omega)
  show Zew net v (b+k)+(bif v.getD (b+k) false then net.getD (b+k+1) 0 else 0)=_
  rw[ih,hv k (by omega),hn k (by omega)]
  by_cases q:x=(k:Int)
  ·rw[Xad q,ctt,if_neg (by omega),if_pos (by omega),q]
   omega
  ·rw[decide_eq_false q,cff]
   by_cases q2:x<(k:Int)
   ·rw[if_pos q2,if_pos (by omega)];omega
   ·rw[if_neg q2,if_neg (by omega)];omega
theorem ZGS {net:List Int} {v:List Bool} {b:Nat} (h:∀j,1+b≤j→net.getD j 0=0):∀d,Zew net v (b+d)=Zew net v b
 |0=>rfl
 |d+1=>by
  show Zew net v (b+d)+(bif v.getD (b+d) false then net.getD (b+d+1) 0 else 0)=_
  rw[ZGS h d,h (b+d+1) (by omega)]
  cases v.getD (b+d) false with
  |true=>rw[ctt];omega
  |false=>rw[cff];omega
end Go.AE.Y
namespace Go.AE.Y
open Go Go.AE
set_option maxHeartbeats 400000
def Zmq (s:Int×List Int) (t:Int×Int):Int×List Int:=if t.2<0 then(s.1 - t.1,s.2.set (0 - t.2).toNat (s.2.getD (0 - t.2).toNat 0 - t.1))else(s.1,s.2.set t.2.toNat (s.2.getD t.2.toNat 0+t.1))
def Zcx (ts:List (Int×Int)) (b:Int):Int×List Int:=ts.foldl Zmq (b,List.replicate 13 0)
def okS (t:Int×Int):Prop:=(-1000≤t.1∧t.1≤1000)∧Zbe t.2=true
theorem ZHM (j:Nat):(List.replicate 13 (0:Int)).getD j 0=0:=by
 rw[Xaa]
 rcases Xag j 13 with h|h
 ·rw[XaW h];rfl
 ·rw[Xax (by rw[Xaw];exact h)];rfl
theorem ZnO {ts:List (Int×Int)} {b:Int} {n:Nat} (h:n<ts.length):Zcx (ts.take (n+1)) b=Zmq (Zcx (ts.take n) b) (ts.getD n (0,0)):=by
 unfold Zcx
 rw[Zev (0,0) h,Xba]
 rfl
theorem Zq7 {ts:List (Int×Int)} {b:Int} (h:∀t∈ts,okS t):∀n:Nat,n≤ts.length→(Zcx (ts.take n) b).2.length=13∧(Zcx (ts.take n) b).2.getD 0 0=0∧(b - 1000*n≤(Zcx (ts.take n) b).1∧(Zcx (ts.take n) b).1≤b+1000*n)∧∀j,-1000*(n:Int)≤(Zcx (ts.take n) b).2.getD j 0∧(Zcx (ts.take n) b).2.getD j 0≤1000*(n:Int)
 |0,_=>by
  rw[XaS]
  refine⟨rfl,rfl,⟨by show b - _≤b;omega,by show b≤b+_;omega⟩,fun j=>?_⟩
  show _≤(List.replicate 13 (0:Int)).getD j 0∧(List.replicate 13 (0:Int)).getD j 0≤_
  rw[ZHM]
  omega
 |n+1,hn=>by
  obtain⟨i1,i2,i3,i4⟩:=Zq7 h n (by omega)
  obtain⟨o1,o2⟩:=h _ (ZF (l:=ts) (i:=n) (d:=(0,0)) (by omega))
  have hl:=ZG.1 o2
  rw[ZnO (by omega)]
  generalize Zcx (ts.take n) b=s at i1 i2 i3 i4
  generalize ts.getD n (0,0)=t at o1 hl
  unfold Zmq
  by_cases q:t.2<0
  ·rw[if_pos q]
   dsimp only
   refine⟨by rw[Xam];exact i1,by rw[ZO (by omega)];exact i2,⟨by omega,by omega⟩,fun j=>?_⟩
   have hj:=i4 j
   have hv:=i4 (0 - t.2).toNat
   rw[ZjP]
   split<;>omega
  ·rw[if_neg q]
   dsimp only
   refine⟨by rw[Xam];exact i1,by rw[ZO (by omega)];exact i2,⟨by omega,by omega⟩,fun j=>?_⟩
   have hj:=i4 j
   have hv:=i4 t.2.toNat
   rw[ZjP]
   split<;>omega
theorem Zpe {net:List Int} {b K:Int} (hK:0≤K) (hn:∀j,0 - K≤net.getD j 0∧net.getD j 0≤K):∀n:Nat,b≤Z4 net b n∧Z4 net b n≤b+K*n
 |0=>⟨Xas _,by show b≤b+K*((0:Nat):Int);omega⟩
 |n+1=>by
  have:=Zpe (b:=b) hK hn n
  have:=hn (n+1)
  have e:K*((n+1:Nat):Int)=K*n+K:=by rw[Int.natCast_add,Int.mul_add];simp
  unfold Z4
  split<;>omega
theorem ZCU {o:List Int} {b:Int} (f1:o.length=13) (h00:o.getD 0 0=0) (hbd:∀j,-100000≤o.getD j 0∧o.getD j 0≤100000) (hb : -100000≤b∧b≤100000):ZkH (b,o)=some (Zcw o b):=by
 unfold ZkH
 dsimp only
 rw[Zb ⟨rfl,rfl,by omega⟩]
 refine ZL (f:=ZfV o) (fun s:Int×Int×List (Int×Int)=>∃n:Nat,s.2.1=n∧n≤13∧s.1=Z4 o b (n - 1)∧s.2.2=Zb0 o (n - 1)) (fun s=>13 - s.2.1.toNat) (fun _=>Zcw o b) ?_ _ ⟨0,rfl,Nat.zero_le _,rfl,rfl⟩
 rintro⟨c,s,t⟩ ⟨n,hs,hn,hc,ht⟩
 dsimp only at hs hc ht ⊢
 subst hs
 subst hc
 subst ht
 have hpl:=ZpY o (n - 1)
 have hnb:=Zpe (net:=o) (b:=b) (K:=100000) (by omega) (fun j=>by have:=hbd j;omega) (n - 1)
 unfold ZfV
 dsimp only
 rw[ZPj o f1,Xab]
 rcases Xag n 13 with h4|h4
 ·left
  have hbn:=hbd n
  rw[Zd (by omega),Zb ⟨⟨by omega,by omega⟩,by omega⟩]
  cases n with
  |zero=>
   rw[h00,Zc (by omega),Zc (by omega),Zf (by omega) (by omega)]
   exact⟨_,rfl,⟨1,rfl,by omega,rfl,rfl⟩,by (try dsimp only)<;>omega,rfl⟩
  |succ n=>
   rw[XbT]at hpl hnb ⊢
   by_cases q1:0<o.getD (n+1) 0
   ·rw[Zd q1,Zb (by simp[Zl];omega),Zf (by omega) (by omega)]
    refine⟨_,rfl,⟨n+2,by simp;omega,by omega,?_,?_⟩,by (try dsimp only)<;>omega,rfl⟩
    ·show Z4 o b n=Z4 o b (n+1)
     conv=>rhs;unfold Z4
     rw[if_neg (by omega)]
    ·show _=Zb0 o (n+1)
     conv=>rhs;unfold Zb0
     rw[if_pos q1]
   ·rw[Zc q1]
    by_cases q2:o.getD (n+1) 0<0
    ·unfold Zoe
     dsimp only
     rw[Zd q2,Zf (by omega) (by omega),Zf (by omega) (by omega),Zb (by simp[Zl];omega),Zf (by omega) (by omega),Zf (by omega) (by omega)]
     refine⟨_,rfl,⟨n+2,by simp;omega,by omega,?_,?_⟩,by (try dsimp only)<;>omega,rfl⟩
     ·show Z4 o b n - _=Z4 o b (n+1)
      conv=>rhs;unfold Z4
      rw[if_pos q2]
     ·show _=Zb0 o (n+1)
      conv=>rhs;unfold Zb0
      rw[if_neg q1,if_pos q2]
    ·rw[Zc q2,Zf (by omega) (by omega)]
     refine⟨_,rfl,⟨n+2,by simp;omega,by omega,?_,?_⟩,by (try dsimp only)<;>omega,rfl⟩
     ·show Z4 o b n=Z4 o b (n+1)
      conv=>rhs;unfold Z4
      rw[if_neg q2]
     ·show _=Zb0 o (n+1)
      conv=>rhs;unfold Zb0
      rw[if_neg q1,if_neg q2,Xau]
 ·right
  have h12:n - 1=12:=by omega
  rw[h12]at hpl ⊢
  have hv:Zc8 (max 0 (Z4 o b 12)) (Zb0 o 12)=some (Zcw o b):=Zzj _ _ (by omega)
  unfold Zod
  dsimp only
  rw[Zc (by omega),hv,Ze]
  generalize Zcw o b=q
  rfl
theorem Zwz {ts:List (Int×Int)} {b:Int} (hts:∀t∈ts,okS t) (hl:ts.length≤50) (hb : -50000≤b∧b≤50000):ZhG ts b=some (Zcw (Zcx ts b).2 (Zcx ts b).1):=by
 unfold ZhG
 refine ZL (f:=ZhK ts) (fun s:Int×Int×List Int=>∃n:Nat,s.2.1=n∧n≤ts.length∧(s.1,s.2.2)=Zcx (ts.take n) b) (fun s=>ts.length - s.2.1.toNat) (fun _=>Zcw (Zcx ts b).2 (Zcx ts b).1) ?_ _ ⟨0,rfl,Nat.zero_le _,rfl⟩
 rintro⟨b',s,o⟩ ⟨n,hs,hn,ho⟩
 dsimp only at hs ho ⊢
 subst hs
 obtain⟨f1,f2,f3,f4⟩:=Zq7 (b:=b) hts n hn
 have e1:b'=(Zcx (ts.take n) b).1:=by rw[←ho]
 have e2:o=(Zcx (ts.take n) b).2:=by rw[←ho]
 rw[←e1]at f3
 rw[←e2]at f1 f2 f4
 unfold ZhK
 dsimp only
 rcases Xag n ts.length with h1|h1
 ·left
  obtain⟨⟨ok1,ok1'⟩,ok2⟩:=hts _ (ZF (l:=ts) (i:=n) (d:=(0,0)) h1)
  have hlit:=ZG.1 ok2
  rw[Zd (by omega),Zb ⟨by omega,by omega⟩,Xab]
  by_cases q:(ts.getD n (0,0)).2<0
  ·have:=f4 (0 - (ts.getD n (0,0)).2).toNat
   rw[Zd q,Zf (by omega) (by omega),Zf (by omega) (by omega),Zb ⟨rfl,⟨by omega,by omega⟩,by omega⟩,Zf (by omega) (by omega),Zb ⟨rfl,⟨by omega,by omega⟩,by omega⟩,Zf (by omega) (by omega)]
   refine⟨_,rfl,⟨n+1,by simp,by omega,?_⟩,by (try dsimp only)<;>omega,rfl⟩
   dsimp only
   rw[ZnO h1,←ho]
   unfold Zmq
   rw[if_pos q]
  ·have:=f4 (ts.getD n (0,0)).2.toNat
   rw[Zc q,Zb ⟨rfl,⟨by omega,by omega⟩,by omega⟩,Zf (by omega) (by omega),Zb ⟨rfl,⟨by omega,by omega⟩,by omega⟩,Zf (by omega) (by omega)]
   refine⟨_,rfl,⟨n+1,by simp,by omega,?_⟩,by (try dsimp only)<;>omega,rfl⟩
   dsimp only
   rw[ZnO h1,←ho]
   unfold Zmq
   rw[if_neg q]
 ·right
  have hnn:n=ts.length:=by omega
  rw[Zc (by omega),ZCU f1 f2 (fun j=>by have:=f4 j;omega) ⟨by omega,by omega⟩]
  rw[hnn,XaB]at ho
  rw[←ho]
  generalize Zcw o b'=q
  rfl
theorem ZGR (v:List Bool):∀n,Zew (List.replicate 13 0) v n=0
 |0=>rfl
 |n+1=>by
  unfold Zew
  rw[ZGR v n,ZHM]
  cases v.getD n false<;>rfl
theorem ZBn {net:List Int} {v:List Bool} {j:Nat} {x:Int} (hj:j+1<net.length):∀n,Zew (net.set (j+1) (net.getD (j+1) 0+x)) v n=Zew net v n+(if j<n then(bif v.getD j false then x else 0)else 0)
 |0=>by show (0:Int)=0+_;rw[if_neg (by omega)];rfl
 |n+1=>by
  unfold Zew
  rw[ZBn hj n]
  by_cases e:j=n
  ·subst e
   rw[ZbE hj,if_neg (by omega),if_pos (by omega)]
   cases v.getD j false with
   |true=>rw[ctt,ctt,ctt];omega
   |false=>rw[cff,cff,cff,Int.add_zero]
  ·rw[ZO (by omega)]
   by_cases q:j<n
   ·rw[if_pos q,if_pos (by omega)];omega
   ·rw[if_neg q,if_neg (by omega)];omega
theorem Zy4 (v:List Bool) (t:Int×Int):Zcy v [t]=bif ZT v t.2 then t.1 else 0:=by
 unfold Zcy
 rw[Xa6,List.foldl_nil]
 cases ZT v t.2 with
 |true=>rw[ctt,ctt,Int.zero_add]
 |false=>rw[cff,cff]
theorem ZMS {s:Int×List Int} {t:Int×Int} {v:List Bool} (hs:s.2.length=13) (ht:Zbe t.2=true):Zew (Zmq s t).2 v 12 - (Zmq s t).1=Zew s.2 v 12 - s.1+Zcy v [t]:=by
 have hl:=ZG.1 ht
 rw[Zy4]
 unfold Zmq ZT
 by_cases q:t.2<0
 ·rw[if_pos q]
  dsimp only
  obtain⟨j,hj⟩:∃j:Nat,(0 - t.2).toNat=j+1:=⟨(0 - t.2).toNat - 1,by omega⟩
  have ev:(vof t.2 - 1).toNat=j:=by unfold vof;omega
  rw[hj,show s.2.getD (j+1) 0 - t.1=s.2.getD (j+1) 0+(0 - t.1) by omega,ZBn (by omega),if_pos (by omega),ev,decide_eq_false (show ¬0<t.2 by omega)]
  cases v.getD j false with
  |true=>rw[ctt,show (true==false)=false from rfl,cff];omega
  |false=>rw[cff,show (false==false)=true from rfl,ctt];omega
 ·rw[if_neg q]
  dsimp only
  obtain⟨j,hj⟩:∃j:Nat,t.2.toNat=j+1:=⟨t.2.toNat - 1,by omega⟩
  have ev:(vof t.2 - 1).toNat=j:=by unfold vof;omega
  rw[hj,ZBn (by omega),if_pos (by omega),ev,Xad (show 0<t.2 by omega)]
  cases v.getD j false with
  |true=>rw[ctt,show (true==true)=true from rfl,ctt];omega
  |false=>rw[cff,show (false==true)=false from rfl,cff];omega
theorem ZGH {ts:List (Int×Int)} {b:Int} {v:List Bool} (h:∀t∈ts,okS t):∀n,n≤ts.length→Zew (Zcx (ts.take n) b).2 v 12 - (Zcx (ts.take n) b).1=Zcy v (ts.take n) - b
 |0,_=>by
  rw[XaS]
  show Zew (List.replicate 13 0) v 12 - b=0 - b
  rw[ZGR]
 |n+1,hn=>by
  have ih:=ZGH (b:=b) (v:=v) h n (by omega)
  rw[ZnO (by omega),ZMS (Zq7 h n (by omega)).1 (h _ (ZF (l:=ts) (i:=n) (d:=(0,0)) (by omega))).2,ih,Zev (0,0) (by omega),ZrV]
  omega
theorem ZGJ {ts:List (Int×Int)} {b:Int} {v:List Bool} (h:∀t∈ts,okS t):ZR v (Zb0 (Zcx ts b).2 12,max 0 (Z4 (Zcx ts b).2 (Zcx ts b).1 12))=decide (b≤Zcy v ts):=by
 have h1:=ZGH (b:=b) (v:=v) h ts.length (Nat.le_refl _)
 rw[XaB]at h1
 obtain⟨h2,h3⟩:=ZFQ (net:=(Zcx ts b).2) (v:=v) (b:=(Zcx ts b).1) 12
 unfold ZR
 dsimp only
 rw[decide_eq_decide]
 omega
end Go.AE.Y
namespace Go.AE.Y
open Go Go.AE
theorem ZNP {c x:List Int} {n:Nat} (h:∀i,i<n → -27≤c.getD i 0*x.getD i 0∧c.getD i 0*x.getD i 0≤27) : -27*(n:Int)≤ZX c x n∧ZX c x n≤27*n:=by
 induction n with
 |zero=>simp[ZX]
 |succ n ih=>
  have:=ih (fun i hi=>h i (by omega))
  have:=h n (by omega)
  rw[ZjF]
  omega
theorem Zyn {m:Zp} {x:List Int} (h:ZE m x=true):x.length=m.1.length∧∀i,i<x.length→0≤x.getD i 0∧x.getD i 0≤m.1.getD i 0:=by
 unfold ZE cellAt at h
 simp only[Xaf,Xah,Xar]at h
 exact⟨h.1,fun i hi=>h.2 i (Xaz.2 hi)⟩
theorem ZFu {m:Zp} (hm:Zz m=true) {i:Nat} (hi:i<m.1.length):0≤m.1.getD i 0∧m.1.getD i 0≤3:=by
 unfold Zz at hm
 simp only[Xaf,Xah,Xar]at hm
 have h2:=hm.2.2.1 _ (ZF (l:=m.1) (i:=i) (d:=0) hi)
 unfold ZdU at h2
 simp only[Xaf,Xah]at h2
 omega
def Zmi (v:List Int) (i:Nat):Bool:=!((v.take i).any (fun x=>v.getD i 0==x))
def Zww (v:List Int):Bool:=(List.range v.length).all (Zmi v)
def holdsB (r:ZI) (v:List Int):Bool:=
 bif r.1==1 then decide (r.2.2.2.1≤ZX r.2.2.1 v v.length)else bif r.1==2 then Zww v else bif r.1==3 then r.2.2.2.2.any (fun row=>row==v)else decide (v.getD 0 0<v.getD 1 0)
def ZbQ (l x:List Int):List Int:=l.map (fun v=>x.getD v.toNat 0)
def ZcI (m:Zp) (x:List Int):Bool:=m.2.all (fun r=>holdsB r (ZbQ r.2.1 x))
structure ZHE (r:ZI) (v:List Int):Prop where
 len:v.length=r.2.1.length
 few:v.length≤1048576
 dig:∀i,0≤v.getD i 0∧v.getD i 0≤3
theorem ZyV {n:Int} {r:ZI} (h:Zf5 n r=true):(∀i,i<r.2.1.length→0≤r.2.1.getD i 0∧r.2.1.getD i 0<n)∧1≤r.2.1.length∧Zho r=true:=by
 unfold Zf5 at h
 simp only[Xaf,Xah]at h
 exact⟨fun i hi=>ZNb h.1 hi,h.2.1,h.2.2.2⟩
theorem ZP6 {r:ZI} (h:Zho r=true) (h1:r.1=1):r.2.2.1.length=r.2.1.length∧∀i,-9≤r.2.2.1.getD i 0∧r.2.2.1.getD i 0≤9:=by
 unfold Zho ZC0 at h
 rw[beq_iff_eq.2 h1,cond_true]at h
 simp only[Xaf,Xah,Xar]at h
 refine⟨by omega,fun i=>?_⟩
 rcases Xag i r.2.2.1.length with h2|h2
 ·have:=h.2.2 _ (ZF (d:=0) h2)
  unfold ZrZ at this
  simp only[Xaf,Xah]at this
  exact this.2
 ·rw[Xaa,Xax h2]
  decide
theorem ZKY {r:ZI} (h:Zho r=true) (h1:r.1≠1) (h2:r.1≠2) (h3:r.1≠3):r.1=4∧r.2.1.length=2:=by
 unfold Zho at h
 rw[beq_eq_false_iff_ne.2 h1,beq_eq_false_iff_ne.2 h3,beq_eq_false_iff_ne.2 h2,cond_false,cond_false]at h
 by_cases h4:r.1=4
 ·rw[beq_iff_eq.2 h4,cond_true,decide_eq_true_iff]at h
  exact⟨h4,h⟩
 ·rw[beq_eq_false_iff_ne.2 h4,cond_false]at h
  cases h
theorem ZIV {r:ZI} {v:List Int} (h:Zho r=true) (h1:r.1=1) (hv:ZHE r v) {f:Int×Int→Option ((Int×Int)⊕Bool)} (hf:(∀a i:Int,f (a,i)=cond (decide (i<(v.length:Int))) (
   rq (0≤i∧i<v.length) <|rq (0≤i∧i<r.2.2.1.length) <|rq (i64 ((r.2.2.1.getD i.toNat 0)*(v.getD i.toNat 0))) <|rq (i64 (a+((r.2.2.1.getD i.toNat 0)*(v.getD i.toNat 0)))) <|rq (i64 (i+(1:Int))) <|
   some (.inl ((a+((r.2.2.1.getD i.toNat 0)*(v.getD i.toNat 0))),(i+(1:Int))))) (some (.inr (decide (r.2.2.2.1≤a)))))∨∀a i:Int,f (a,i)=cond (decide (i<(v.length:Int))) (
   rq (0≤i∧i<r.2.2.1.length) <|rq (0≤i∧i<v.length) <|rq (i64 ((r.2.2.1.getD i.toNat 0)*(v.getD i.toNat 0))) <|rq (i64 (a+((r.2.2.1.getD i.toNat 0)*(v.getD i.toNat 0)))) <|rq (i64 (i+(1:Int))) <|
   some (.inl ((a+((r.2.2.1.getD i.toNat 0)*(v.getD i.toNat 0))),(i+(1:Int))))) (some (.inr (decide (r.2.2.2.1≤a))))) :
  loop f ((0:Int),(0:Int))=some (decide (r.2.2.2.1≤ZX r.2.2.1 v v.length)):=by
 obtain⟨k1,k2⟩:=ZP6 h h1
 have hl:=hv.len
 have hfew:=hv.few
 refine ZL (f:=f) (fun s:Int×Int=>∃i:Nat,s.2=i∧i≤v.length∧s.1=ZX r.2.2.1 v i) (fun s=>v.length - s.2.toNat) (fun _=>decide (r.2.2.2.1≤ZX r.2.2.1 v v.length)) ?_ _ ⟨0,rfl,Nat.zero_le _,rfl⟩
 rintro⟨a,s⟩ ⟨i,rfl,hi,ha⟩
 dsimp only at ha ⊢
 subst ha
 have e:=hf.imp (fun q=>q (ZX r.2.2.1 v i) (i:Int)) (fun q=>q (ZX r.2.2.1 v i) (i:Int))
 rcases Xag i v.length with h2|h2
 ·left
  have hb:=ZNP (c:=r.2.2.1) (x:=v) (n:=i) (fun j _=>ZnN (k2 j) (hv.dig j))
  have hm:=ZnN (k2 i) (hv.dig i)
  refine⟨(ZX r.2.2.1 v (i+1),(i:Int)+1),?_,⟨i+1,by simp,by omega,rfl⟩,by (try dsimp only)<;>omega,rfl⟩
  rcases e with e|e
  ·rw[e,Zd (by omega),Zb ⟨by omega,by omega⟩,Zb ⟨by omega,by omega⟩,Xab,Zf (by omega) (by omega),Zf (by omega) (by omega),Zf (by omega) (by omega),ZjF]
  ·rw[e,Zd (by omega),Zb ⟨by omega,by omega⟩,Zb ⟨by omega,by omega⟩,Xab,Zf (by omega) (by omega),Zf (by omega) (by omega),Zf (by omega) (by omega),ZjF]
 ·right
  have:i=v.length:=by omega
  subst this
  rcases e with e|e<;>rw[e,Zc (by omega)]
theorem ZIE {v:List Int} (hv:v.length≤1048576):loop (Zgo v) (0:Int)=some (Zww v):=by
 unfold Zww
 rw[ZdP v.length (Zmi v) false true]
 ·cases (List.range v.length).all (Zmi v)<;>rfl
 ·intro i hi _
  unfold Zgo Zmi
  rw[Zd (by omega),Zb ⟨by omega,by omega⟩,Zb ⟨by omega,by omega⟩,Xab,Zwm _ _ (by rw[Xay];omega),Ze]
  cases (v.take i).any (fun x=>v.getD i 0==x)with
  |true=>rw[ctt,Xbm,cff]
  |false=>rw[cff,Zf (by omega) (by omega),Xbc,ctt]
 ·unfold Zgo
  rw[Zc (by omega)]
theorem ZHB (v:List Int) (y:Int) {k:Nat} (h:k<v.length):(v.take (k+1)).any (fun x=>y==x)=((v.take k).any (fun x=>y==x)||y==v.getD k 0):=by
 rw[Zoq h,List.any_append]
 simp only[List.any_cons,List.any_nil,Bool.or_false]
theorem ZJu {v:List Int} (hv:v.length≤1048576) {i:Nat} (hi:i<v.length):loop (ZjD v i) (0:Int)=some (bif Zmi v i then .inl ((i:Int)+1)else .inr false):=by
 refine ZL (f:=ZjD v i) (fun s:Int=>∃k:Nat,s=k∧k≤i∧(v.take k).any (fun x=>v.getD i 0==x)=false) (fun s=>i - s.toNat) (fun _=>bif Zmi v i then .inl ((i:Int)+1)else .inr false) ?_ _ ⟨0,rfl,Nat.zero_le _,rfl⟩
 rintro s ⟨k,rfl,hk,ha⟩
 unfold ZjD
 rcases Xag k i with h1|h1
 ·have hs:=ZHB v (v.getD i 0) (k:=k) (by omega)
  rw[ha,XbC]at hs
  rw[Zd (by omega),Zb ⟨by omega,by omega⟩,Zb ⟨by omega,by omega⟩,Xab,Xab]
  by_cases hq:v.getD k 0=v.getD i 0
  ·right
   have:Zmi v i=false:=by
    unfold Zmi
    rw[beq_iff_eq.2 hq.symm]at hs
    have hm:∃x∈v.take i,(v.getD i 0==x)=true:=by
     obtain⟨x,hx,hx2⟩:=Xbk.1 hs
     exact⟨x,(List.take_subset_take_left v (by omega)) hx,hx2⟩
    rw[Xbk.2 hm,Xbm]
   rw[Zu hq,this,cff]
  ·left
   rw[Zo hq,Zf (by omega) (by omega)]
   rw[beq_eq_false_iff_ne.2 (fun e=>hq e.symm)]at hs
   exact⟨_,rfl,⟨k+1,by simp,by omega,hs⟩,by omega,rfl⟩
 ·right
  have:k=i:=by omega
  subst this
  unfold Zmi
  rw[Zc (by omega),Zf (by omega) (by omega),ha,Xbc,ctt]
theorem ZJt {v:List Int} (hv:v.length≤1048576):loop (ZjC v) (0:Int)=some (Zww v):=by
 unfold Zww
 rw[ZdP v.length (Zmi v) false true]
 ·cases (List.range v.length).all (Zmi v)<;>rfl
 ·intro i hi _
  unfold ZjC
  rw[Zd (by omega),ZJu hv hi]
 ·unfold ZjC
  rw[Zc (by omega)]
def Zs6 (a b:List Int) (i:Nat):Bool:=a.getD i 0==b.getD i 0
theorem ZCt (a b:List Int):(decide (a.length=b.length)&&(List.range a.length).all (Zs6 a b))=(a==b):=by
 rw[Xbp]
 simp only[Xaf,Xah,Xar,Xaz,beq_iff_eq,Zs6]
 constructor
 ·rintro⟨h1,h2⟩
  apply XbP h1
  intro j j1 j2
  have:=h2 j j1
  rwa [Xaa,Xac j1,Xaa,Xac j2]at this
 ·rintro rfl
  exact⟨rfl,fun _ _=>rfl⟩
theorem ZHZ (a b:List Int) (ha:a.length≤1048576):Zly a b=some (a==b):=by
 unfold Zly
 rw[←ZCt]
 by_cases hl:a.length=b.length
 ·rw[Zdu (by omega),Xad hl,Xai,ZdP a.length (Zs6 a b) false true]
  ·cases (List.range a.length).all (Zs6 a b)<;>rfl
  ·intro i hi _
   unfold Ziv Zs6
   rw[Zd (by omega),Zb ⟨by omega,by omega⟩,Zb ⟨by omega,by omega⟩,Xab]
   by_cases hq:a.getD i 0=b.getD i 0
   ·rw[Zdu hq,Zf (by omega) (by omega),beq_iff_eq.2 hq,ctt]
   ·rw[Zd2 hq,beq_eq_false_iff_ne.2 hq,cff]
  ·unfold Ziv
   rw[Zc (by omega)]
 ·rw[Zd2 (by omega),decide_eq_false hl,Xae]
theorem ZFG (a b:List Int) (ha:a.length≤1048576):Zr9 a b=some (a==b):=by
 unfold Zr9
 rw[←ZCt]
 by_cases hl:a.length=b.length
 ·rw[Zdu (by omega),Xad hl,Xai,ZdP a.length (Zs6 a b) false true]
  ·cases (List.range a.length).all (Zs6 a b)<;>rfl
  ·intro i hi _
   unfold Zon Zs6
   rw[Zd (by omega),Zb ⟨by omega,by omega⟩,Zb ⟨by omega,by omega⟩,Xab]
   by_cases hq:a.getD i 0=b.getD i 0
   ·rw[Zdu hq,Zf (by omega) (by omega),beq_iff_eq.2 hq,ctt]
   ·rw[Zd2 hq,beq_eq_false_iff_ne.2 hq,cff]
  ·unfold Zon
   rw[Zc (by omega)]
 ·rw[Zd2 (by omega),decide_eq_false hl,Xae]
theorem ZsW {r:ZI} {v:List Int} (hs:Zff r) (h:Zho r=true) (hv:ZHE r v):Zjo r v=some (holdsB r v):=by
 obtain⟨s1,s2,s3,s4⟩:=hs
 unfold Zjo holdsB
 by_cases h1:r.1=1
 ·rw[Zu h1,beq_iff_eq.2 h1,ctt,ZIV h h1 hv (f:=ZnH r v) (Or.inl (fun _ _=>rfl))]
 ·rw[Zo h1,beq_eq_false_iff_ne.2 h1,cff]
  by_cases h2:r.1=2
  ·rw[Zu h2,beq_iff_eq.2 h2,ctt,ZIE hv.few]
  ·rw[Zo h2,beq_eq_false_iff_ne.2 h2,cff]
   by_cases h3:r.1=3
   ·rw[Zu h3,beq_iff_eq.2 h3,ctt]
    unfold ZcR Zdn
    obtain⟨q,hq1,hq2⟩:=ZhH (f:=Zbm r.2.2.2.2 v) r.2.2.2.2 [] (fun row=>row==v) (fun i hi=>by
     have hx:=s4 _ (ZF (l:=r.2.2.2.2) (i:=i) (d:=[]) hi)
     unfold Zbm ZoH
     rw[Zd (by omega),Zb ⟨by omega,by omega⟩,Xab,ZHZ _ _ hx,Ze,Ze]
     cases r.2.2.2.2.getD i []==v with
     |true=>rw[ctt,ctt]
     |false=>rw[cff,cff,Zf (by omega) (by omega)]) (by
     unfold Zbm
     rw[Zc (by omega)])
    rw[hq1,Ze,Ze,hq2]
   ·obtain⟨_,k2⟩:=ZKY h h1 h2 h3
    have hl:=hv.len
    rw[Zo h3,beq_eq_false_iff_ne.2 h3,cff,Zb ⟨by omega,by omega⟩,Zb ⟨by omega,by omega⟩]
    rfl
theorem ZHx {r:ZI} {v:List Int} (hs:Zff r) (h:Zho r=true) (hv:ZHE r v):Zm7 r v=some (holdsB r v):=by
 obtain⟨s1,s2,s3,s4⟩:=hs
 unfold Zm7 holdsB
 by_cases h1:r.1=1
 ·rw[Zu h1,beq_iff_eq.2 h1,ctt,ZIV h h1 hv (f:=Zrg r v) (Or.inr (fun _ _=>rfl))]
 ·rw[Zo h1,beq_eq_false_iff_ne.2 h1,cff]
  by_cases h2:r.1=2
  ·rw[Zu h2,beq_iff_eq.2 h2,ctt,ZJt hv.few]
  ·rw[Zo h2,beq_eq_false_iff_ne.2 h2,cff]
   by_cases h3:r.1=3
   ·rw[Zo (by omega),beq_iff_eq.2 h3,ctt,ZdP r.2.2.2.2.length (fun i=>!(r.2.2.2.2.getD i []==v)) true false]
    ·rw[Zje r.2.2.2.2 (fun row=>!(row==v)) [],Xa1]
     cases r.2.2.2.2.all (fun row=>!(row==v))<;>rfl
    ·intro i hi _
     have hx:=s4 _ (ZF (l:=r.2.2.2.2) (i:=i) (d:=[]) hi)
     unfold Zm8
     rw[Zd (by omega),Zb ⟨by omega,by omega⟩,Xab,ZFG _ _ hx,Ze]
     cases r.2.2.2.2.getD i []==v with
     |true=>rw[ctt,Xbm,cff]
     |false=>rw[cff,Zf (by omega) (by omega),Xbc,ctt]
    ·unfold Zm8
     rw[Zc (by omega)]
   ·obtain⟨k1,k2⟩:=ZKY h h1 h2 h3
    have hl:=hv.len
    rw[Zu k1,beq_eq_false_iff_ne.2 h3,cff,Zb ⟨by omega,by omega⟩,Zb ⟨by omega,by omega⟩]
    rfl
theorem ZC9 {m:Zp} {r:ZI} {x:List Int} (hm:Zz m=true) (hs:Zff r) (hx:ZE m x=true) (hr:Zf5 m.1.length r=true):ZHE r (ZbQ r.2.1 x):=by
 obtain⟨x1,x2⟩:=Zyn hx
 obtain⟨r1,r2,r3⟩:=ZyV hr
 refine⟨by unfold ZbQ;rw[Xap],by unfold ZbQ;rw[Xap];exact hs.1,fun i=>?_⟩
 rcases Xag i r.2.1.length with h1|h1
 ·unfold ZbQ
  rw[ZnE r.2.1 (fun v=>x.getD v.toNat 0) i 0 0 h1]
  have q1:=r1 i h1
  have q2:=x2 (r.2.1.getD i 0).toNat (by omega)
  have q3:=ZFu hm (i:=(r.2.1.getD i 0).toNat) (by omega)
  omega
 ·rw[Xaa,Xax (by unfold ZbQ;rw[Xap];exact h1)]
  decide
theorem ZDT {m:Zp} {r:ZI} {x:List Int} (hm:Zz m=true) (hs:Zff r) (hx:ZE m x=true) (hr:Zf5 m.1.length r=true):ZqX r x=some (holdsB r (ZbQ r.2.1 x)):=by
 obtain⟨x1,x2⟩:=Zyn hx
 obtain⟨r1,r2,r3⟩:=ZyV hr
 have hs1:=hs.1
 unfold ZqX
 refine ZL (f:=ZmY r x) (fun s:Int×List Int=>∃i:Nat,s.1=i∧i≤r.2.1.length∧s.2=ZbQ (r.2.1.take i) x) (fun s=>r.2.1.length - s.1.toNat) (fun _=>holdsB r (ZbQ r.2.1 x)) ?_ _ ⟨0,rfl,Nat.zero_le _,rfl⟩
 rintro⟨s,v⟩ ⟨i,rfl,hi,rfl⟩
 dsimp only
 unfold ZmY
 dsimp only
 rcases Xag i r.2.1.length with h1|h1
 ·left
  have q1:=r1 i h1
  have hl:(ZbQ (r.2.1.take i) x).length=i:=by unfold ZbQ;rw[Xap,Xay];omega
  rw[Zd (by omega),Zb ⟨by omega,by omega⟩,Xab,Zb ⟨by omega,by omega⟩,Zb (by rw[hl,XaC];simp only[Zl];omega),Zf (by omega) (by omega)]
  refine⟨_,rfl,⟨i+1,by simp,by omega,?_⟩,by (try dsimp only)<;>omega,rfl⟩
  unfold ZbQ
  rw[Zoq h1,Xa3]
  rfl
 ·right
  have:i=r.2.1.length:=by omega
  subst this
  unfold ZqY
  rw[Zc (by omega),XaB,ZsW hs r3 (ZC9 hm hs hx hr),Ze]
  rfl
theorem ZwI {m:Zp} {r:ZI} {x:List Int} (hm:Zz m=true) (hs:Zff r) (hx:ZE m x=true) (hr:Zf5 m.1.length r=true):ZnZ r x=some (holdsB r (ZbQ r.2.1 x)):=by
 obtain⟨x1,x2⟩:=Zyn hx
 obtain⟨r1,r2,r3⟩:=ZyV hr
 have hs1:=hs.1
 unfold ZnZ
 refine ZL (f:=Zm9 r x) (fun s:Int×List Int=>∃i:Nat,s.1=i∧i≤r.2.1.length∧s.2=ZbQ (r.2.1.take i) x) (fun s=>r.2.1.length - s.1.toNat) (fun _=>holdsB r (ZbQ r.2.1 x)) ?_ _ ⟨0,rfl,Nat.zero_le _,rfl⟩
 rintro⟨s,v⟩ ⟨i,rfl,hi,rfl⟩
 dsimp only
 unfold Zm9
 dsimp only
 rcases Xag i r.2.1.length with h1|h1
 ·left
  have q1:=r1 i h1
  have hl:(ZbQ (r.2.1.take i) x).length=i:=by unfold ZbQ;rw[Xap,Xay];omega
  rw[Zd (by omega),Zb ⟨by omega,by omega⟩,Xab,Zb ⟨by omega,by omega⟩,Zb (by rw[hl,XaC];simp only[Zl];omega),Zf (by omega) (by omega)]
  refine⟨_,rfl,⟨i+1,by simp,by omega,?_⟩,by (try dsimp only)<;>omega,rfl⟩
  unfold ZbQ
  rw[Zoq h1,Xa3]
  rfl
 ·right
  have:i=r.2.1.length:=by omega
  subst this
  rw[Zc (by omega),XaB,ZHx hs r3 (ZC9 hm hs hx hr)]
  rfl
theorem Zuf {m:Zp} (hm:Zz m=true):∀r∈m.2,Zf5 m.1.length r=true:=by
 unfold Zz at hm
 simp only[Xaf,Xar]at hm
 exact hm.2.2.2.2
theorem Zxs {m:Zp} {x:List Int} (h:Zde m) (hm:Zz m=true) (hx:ZE m x=true):ZgY m x=some (ZcI m x):=by
 have h2:=h.2.1
 unfold ZgY Zcm ZcD ZcI
 obtain⟨q,hq1,hq2⟩:=ZhH (f:=Z7 m.2 x) m.2 (0,[],[],0,[]) (fun r=>!holdsB r (ZbQ r.2.1 x)) (fun i hi=>by
  have hr:=ZF (l:=m.2) (i:=i) (d:=(0,[],[],0,[])) hi
  unfold Z7 ZmE
  rw[Zd (by omega),Zb ⟨by omega,by omega⟩,Xab,ZDT hm (h.2.2 _ hr) hx (Zuf hm _ hr),Ze,Ze]
  cases holdsB (m.2.getD i (0,[],[],0,[])) (ZbQ (m.2.getD i (0,[],[],0,[])).2.1 x)with
  |true=>rw[Xbm,cff,cff,Zf (by omega) (by omega)]
  |false=>rw[Xbc,ctt,ctt]) (by
  unfold Z7
  rw[Zc (by omega)])
 rw[hq1,Ze,Ze,hq2,Xa1]
 simp only[XbI]
theorem ZFN {m:Zp} {x:List Int} (h:Zde m) (hm:Zz m=true) (hx:ZE m x=true):Zpy m x=some (ZcI m x):=by
 have h2:=h.2.1
 unfold Zpy ZcI
 rw[ZdP m.2.length (fun i=>holdsB (m.2.getD i (0,[],[],0,[])) (ZbQ (m.2.getD i (0,[],[],0,[])).2.1 x)) false true]
 ·rw[Zje m.2 (fun r=>holdsB r (ZbQ r.2.1 x)) (0,[],[],0,[])]
  cases m.2.all (fun r=>holdsB r (ZbQ r.2.1 x))<;>rfl
 ·intro i hi _
  have hr:=ZF (l:=m.2) (i:=i) (d:=(0,[],[],0,[])) hi
  unfold ZlN
  rw[Zd (by omega),Zb ⟨by omega,by omega⟩,Xab,ZwI hm (h.2.2 _ hr) hx (Zuf hm _ hr),Ze]
  cases holdsB (m.2.getD i (0,[],[],0,[])) (ZbQ (m.2.getD i (0,[],[],0,[])).2.1 x)with
  |true=>rw[cnt,Zf (by omega) (by omega),ctt]
  |false=>rw[cnf,cff]
 ·unfold ZlN
  rw[Zc (by omega)]
end Go.AE.Y
namespace Go.AE.Y
open Go Go.AE
def Zfe (s:List Int):Nat→List Int→Bool×List Int
 |0,x=>(false,x)
 |n+1,x=>bif decide (x.getD n 0<s.getD n 0)then(true,x.set n (x.getD n 0+1))else Zfe s n (x.set n 0)
def ZnP (x:List Int):Nat→Int
 |0=>0
 |n+1=>4*ZnP x n+x.getD n 0
def Dig (s x:List Int):Prop:=∀i,0≤x.getD i 0∧x.getD i 0≤s.getD i 0
theorem ZyS (s:List Int) (n:Nat) (x:List Int):Zfe s (n+1) x=bif decide (x.getD n 0<s.getD n 0)then(true,x.set n (x.getD n 0+1))else Zfe s n (x.set n 0):=rfl
theorem ZBF (s:List Int):∀n x,(Zfe s n x).2.length=x.length
 |0,_=>rfl
 |n+1,x=>by
  unfold Zfe
  cases decide (x.getD n 0<s.getD n 0)with
  |true=>rw[ctt];exact Xam
  |false=>rw[cff,ZBF s n];exact Xam
theorem Zxp {s x:List Int} (h:Dig s x) {n:Nat} {v:Int} (h0:0≤v) (h1:v≤s.getD n 0):Dig s (x.set n v):=by
 intro i
 rw[ZjP]
 by_cases hi:n=i∧n<x.length
 ·rw[if_pos hi,←hi.1];exact⟨h0,h1⟩
 ·rw[if_neg hi];exact h i
theorem ZK7 {s:List Int}:∀n x,Dig s x→Dig s (Zfe s n x).2
 |0,_,h=>h
 |n+1,x,h=>by
  have hn:=h n
  unfold Zfe
  cases hq:decide (x.getD n 0<s.getD n 0)with
  |true=>
   have:=of_decide_eq_true hq
   rw[ctt]
   exact Zxp h (by omega) (by omega)
  |false=>
   rw[cff]
   exact ZK7 n _ (Zxp h (by omega) (by omega))
theorem ZI3 {s:List Int}:∀n x,n≤x.length→(Zfe s n x).1=true→∃k,k<n∧(Zfe s n x).2.getD k 0=x.getD k 0+1∧(∀j,j<k→(Zfe s n x).2.getD j 0=x.getD j 0)∧∀j,k<j→j<n→(Zfe s n x).2.getD j 0=0
 |0,_,_,h=>by cases h
 |n+1,x,hl,h=>by
  unfold Zfe at h ⊢
  cases hq:decide (x.getD n 0<s.getD n 0)with
  |true=>
   rw[ctt]
   refine⟨n,by omega,ZbE (by omega),fun j hj=>ZO (by omega),fun j h1 h2=>by omega⟩
  |false=>
   rw[hq,cff]at h
   rw[cff]
   obtain⟨k,k1,k2,k3,k4⟩:=ZI3 n (x.set n 0) (by rw[Xam];omega) h
   have hn:(Zfe s n (x.set n 0)).2.getD n 0=0:=by
    have:∀n' y,n'≤n→(Zfe s n' y).2.getD n 0=y.getD n 0:=by
     intro n'
     induction n' with
     |zero=>intro y _;rfl
     |succ a ih=>
      intro y ha
      unfold Zfe
      cases decide (y.getD a 0<s.getD a 0)with
      |true=>rw[ctt];exact ZO (by omega)
      |false=>rw[cff,ih _ (by omega)];exact ZO (by omega)
    rw[this n _ (Nat.le_refl _)]
    exact ZbE (by omega)
   refine⟨k,by omega,by rw[k2,ZO (by omega)],fun j hj=>by rw[k3 j hj,ZO (by omega)],fun j h1 h2=>?_⟩
   rcases Xag j n with h3|h3
   ·exact k4 j h1 h3
   ·rw[show j=n by omega];exact hn
theorem ZP8 {x y:List Int} {k:Nat} (h1:y.getD k 0=x.getD k 0+1) (h2:∀j,j<k→y.getD j 0=x.getD j 0) (h3:∀i,x.getD i 0≤3) {n:Nat} (h4:∀j,k<j→j<n→y.getD j 0=0) :
  (∀j,j≤k→ZnP y j=ZnP x j)∧(k<n→ZnP x n+1≤ZnP y n):=by
 have e:∀j,j≤k→ZnP y j=ZnP x j:=by
  intro j
  induction j with
  |zero=>intro _;rfl
  |succ j ih=>
   intro hj
   unfold ZnP
   rw[ih (by omega),h2 j (by omega)]
 refine⟨e,?_⟩
 induction n with
 |zero=>intro h;omega
 |succ n ih=>
  intro hk
  unfold ZnP
  rcases Xag k n with h5|h5
  ·have:=ih (fun j a b=>h4 j a (by omega)) h5
   have:=h4 n h5 (by omega)
   have:=h3 n
   omega
  ·have:k=n:=by omega
   subst this
   rw[e k (Nat.le_refl _),h1]
   omega
theorem ZGK {x:List Int} (h:∀i,0≤x.getD i 0∧x.getD i 0≤3):∀n:Nat,0≤ZnP x n∧ZnP x n+1≤((4^n:Nat):Int)
 |0=>⟨Xas _,by show (0:Int)+1≤((4^0:Nat):Int);decide⟩
 |n+1=>by
  have ih:=ZGK h n
  have:=h n
  have e:((4^(n+1):Nat):Int)=4*((4^n:Nat):Int):=by rw[Nat.pow_succ];omega
  rw[e]
  unfold ZnP
  omega
theorem Zes {m:Zp} {x:List Int} (hx:ZE m x=true):x.length=m.1.length∧Dig m.1 x:=by
 obtain⟨x1,x2⟩:=Zyn hx
 refine⟨x1,fun i=>?_⟩
 rcases Xag i x.length with h|h
 ·exact x2 i h
 ·rw[Xaa,Xax h,Xaa,Xax (by omega)]
  decide
theorem ZGt {m:Zp} {x:List Int} (hl:x.length=m.1.length) (h:Dig m.1 x):ZE m x=true:=by
 unfold ZE cellAt
 simp only[Xaf,Xah,Xar]
 exact⟨hl,fun i _=>h i⟩
theorem ZsT {m:Zp} {x:List Int} (hm:Zz m=true) (h:Dig m.1 x):∀i,0≤x.getD i 0∧x.getD i 0≤3:=by
 intro i
 have h1:=h i
 rcases Xag i m.1.length with h2|h2
 ·have:=ZFu hm h2
  omega
 ·have e:m.1.getD i 0=0:=by rw[Xaa,Xax h2];rfl
  omega
def Z8 (m:Zp) (x:List Int):Bool×List Int:=Zfe m.1 x.length x
def muF (x:List Int):Nat:=1024 - (ZnP x x.length).toNat
theorem ZhM {m:Zp} {x:List Int} (hx:ZE m x=true):ZE m (Z8 m x).2=true:=by
 obtain⟨x1,x2⟩:=Zes hx
 exact ZGt (by unfold Z8;rw[ZBF];exact x1) (ZK7 _ _ x2)
theorem Zq6 {m:Zp} {x:List Int} (hm:Zz m=true) (hx:ZE m x=true):1≤muF x∧0≤ZnP x x.length∧ZnP x x.length≤1023:=by
 obtain⟨x1,x2⟩:=Zes hx
 obtain⟨m1,m2,m3⟩:=ZcG hm
 have hb:=ZGK (ZsT hm x2) x.length
 have h4:4^x.length≤4^5:=Nat.pow_le_pow_right (by decide) (by omega)
 have h5:(4:Nat)^5=1024:=by decide
 unfold muF
 omega
theorem Zqp {m:Zp} {x:List Int} (hm:Zz m=true) (hx:ZE m x=true) (h:(Z8 m x).1=true):muF (Z8 m x).2<muF x:=by
 obtain⟨x1,x2⟩:=Zes hx
 have hp:=Zq6 hm hx
 have hp':=Zq6 hm (ZhM hx)
 have hl:(Z8 m x).2.length=x.length:=ZBF _ _ _
 obtain⟨k,k1,k2,k3,k4⟩:=ZI3 (s:=m.1) x.length x (Nat.le_refl _) h
 have:=(ZP8 k2 k3 (fun i=>(ZsT hm x2 i).2) k4).2 k1
 unfold muF at *
 rw[hl]at hp' ⊢
 have e:ZnP (Z8 m x).2 x.length=ZnP (Zfe m.1 x.length x).2 x.length:=rfl
 omega
def ZbJ (m:Zp) (c b x:List Int):List Int:=bif ZcI m x&&(b.isEmpty||decide (ZX c x x.length<ZX c b b.length))then x else b
def ZlZ (m:Zp) (c:List Int):Nat→List Int→List Int→List Int
 |0,x,b=>ZbJ m c b x
 |n+1,x,b=>bif (Z8 m x).1 then ZlZ m c n (Z8 m x).2 (ZbJ m c b x)else ZbJ m c b x
theorem ZGV {m:Zp} {c:List Int} (hm:Zz m=true):∀n n' x b,ZE m x=true→muF x≤n→muF x≤n'→ZlZ m c n x b=ZlZ m c n' x b
 |0,_,x,_,hx,h,_=>by have:=(Zq6 hm hx).1;omega
 |_+1,0,x,_,hx,_,h=>by have:=(Zq6 hm hx).1;omega
 |n+1,n'+1,x,b,hx,h,h'=>by
  unfold ZlZ
  cases hq:(Z8 m x).1 with
  |false=>rfl
  |true=>
   have:=Zqp hm hx hq
   rw[ctt,ctt]
   exact ZGV hm n n' _ _ (ZhM hx) (by omega) (by omega)
def Zgu (m:Zp) (c:List Int):List Int:=ZlZ m c 1024 (List.replicate m.1.length 0) []
def ZHL (m:Zp) (c:List Int):Bool×List Int:=bif Zz m&&ZfZ m c then(!(Zgu m c).isEmpty,Zgu m c)else(false,[])
theorem ZFH {m:Zp} {x:List Int} (hm:Zz m=true) (hx:ZE m x=true):Zpg m x=some (Z8 m x):=by
 obtain⟨x1,x2⟩:=Zes hx
 obtain⟨m1,m2,m3⟩:=ZcG hm
 unfold Zpg Z8
 rw[Xao,Zb (by simp only[Xal,Zl];omega),Zf (by omega) (by omega)]
 refine ZL (f:=Zoo m) (fun s:Int×List Int=>∃n:Nat,s.1=(n:Int) - 1∧n≤x.length∧s.2.length=x.length∧Dig m.1 s.2) (fun s=>(s.1+1).toNat) (fun s=>Zfe m.1 (s.1+1).toNat s.2) ?_ _ ⟨x.length,rfl,Nat.le_refl _,rfl,x2⟩ |>.trans ?_
 ·rintro⟨s,y⟩ ⟨n,hs,hn,hl,hd⟩
  dsimp only at hs hl hd ⊢
  subst hs
  unfold Zoo
  dsimp only
  cases n with
  |zero=>
   right
   rw[Zc (by omega)]
   rfl
  |succ n=>
   have e:(((n+1:Nat):Int) - 1).toNat=n:=by omega
   have e':(((n+1:Nat):Int) - 1+1).toNat=n+1:=by omega
   have hz:=ZsT hm hd n
   rw[Zd (by omega),Zb ⟨by omega,by omega⟩,Zb ⟨by omega,by omega⟩,e,e',ZyS]
   cases hq:decide (y.getD n 0<m.1.getD n 0)with
   |true=>
    right
    rw[ctt,ctt,Zb ⟨by omega,by omega⟩,Zf (by omega) (by omega),Zb ⟨by omega,by omega⟩]
   |false=>
    left
    rw[cff,cff,Zb ⟨by omega,by omega⟩,Zf (by omega) (by omega)]
    refine⟨_,rfl,⟨n,by (try dsimp only)<;>omega,by omega,by (try dsimp only)<;>(rw[Xam];exact hl),Zxp hd (by omega) (by have:=hd n;omega)⟩,by (try dsimp only)<;>omega,?_⟩
    dsimp only
    rw[show (((n+1:Nat):Int) - 1 - 1+1).toNat=n by omega]
 ·dsimp only
  rw[show ((x.length:Int) - 1+1).toNat=x.length by omega]
theorem ZIG {m:Zp} {x:List Int} (hm:Zz m=true) (hx:ZE m x=true) (r:Bool×List Int) :
  loop (ZbG m.1 r) (((x.length:Int) - 1),x)=some (bif (Z8 m x).1 then .inl ((Z8 m x).2,r.2)else .inr r.2):=by
 obtain⟨x1,x2⟩:=Zes hx
 obtain⟨m1,m2,m3⟩:=ZcG hm
 unfold Z8
 refine ZL (f:=ZbG m.1 r) (fun s:Int×List Int=>∃n:Nat,s.1=(n:Int) - 1∧n≤x.length∧s.2.length=x.length∧Dig m.1 s.2) (fun s=>(s.1+1).toNat)
  (fun s=>bif (Zfe m.1 (s.1+1).toNat s.2).1 then .inl ((Zfe m.1 (s.1+1).toNat s.2).2,r.2)else .inr r.2) ?_ _ ⟨x.length,rfl,Nat.le_refl _,rfl,x2⟩ |>.trans ?_
 ·rintro⟨s,y⟩ ⟨n,hs,hn,hl,hd⟩
  dsimp only at hs hl hd ⊢
  subst hs
  unfold ZbG Zci
  dsimp only
  cases n with
  |zero=>
   right
   rw[Zc (by omega),Zd (by omega)]
   rfl
  |succ n=>
   have e:(((n+1:Nat):Int) - 1).toNat=n:=by omega
   have e':(((n+1:Nat):Int) - 1+1).toNat=n+1:=by omega
   have hz:=ZsT hm hd n
   have hdn:=hd n
   rw[Zd (by omega),Zb ⟨by omega,by omega⟩,Zb ⟨by omega,by omega⟩,e,e',ZyS]
   by_cases hq:y.getD n 0=m.1.getD n 0
   ·left
    rw[Zu hq,decide_eq_false (show ¬y.getD n 0<m.1.getD n 0 by omega),cff,Zb ⟨by omega,by omega⟩,Zf (by omega) (by omega)]
    refine⟨_,rfl,⟨n,by (try dsimp only)<;>omega,by omega,by (try dsimp only)<;>(rw[Xam];exact hl),Zxp hd (by omega) (by omega)⟩,by (try dsimp only)<;>omega,?_⟩
    dsimp only
    rw[show (((n+1:Nat):Int) - 1 - 1+1).toNat=n by omega]
   ·right
    rw[Zo hq,Xad (show y.getD n 0<m.1.getD n 0 by omega),ctt,Zc (by omega),Zb ⟨by omega,by omega⟩,Zf (by omega) (by omega),Zb ⟨by omega,by omega⟩]
    rfl
 ·dsimp only
  rw[show ((x.length:Int) - 1+1).toNat=x.length by omega]
theorem Zwl {s:List Int} (h:s.length≤1048576):Zbr s=some s:=by
 unfold Zbr
 refine ZAU (fun e=>by rw[e]) ?_
 rw[Zb (by simp only[Xal,Zl];omega),Xao]
def ZDs (m:Zp) (b:List Int):Prop:=b=[]∨ZE m b=true
theorem ZMV {m:Zp} {c b x:List Int} (hb:ZDs m b) (hx:ZE m x=true):ZDs m (ZbJ m c b x):=by
 unfold ZbJ
 cases ZcI m x&&(b.isEmpty||decide (ZX c x x.length<ZX c b b.length))with
 |true=>exact Or.inr hx
 |false=>exact hb
theorem ZIK {m:Zp} {c b x:List Int} (h:Zde m) (hm:Zz m=true) (hc:ZfZ m c=true) (hx:ZE m x=true) (hb:ZDs m b):Zef m c x b=some (true,ZbJ m c b x):=by
 obtain⟨t1,t2,t3,t4⟩:=Zy7 hm hc hx
 obtain⟨m1,m2,m3⟩:=ZcG hm
 have hne:x≠[]:=by rintro rfl;simp at t1;omega
 unfold Zef ZbJ
 rw[Zxs h hm hx,Ze]
 cases ZcI m x with
 |false=>rw[cff,Xae,cff]
 |true=>
  rw[ctt,Xai]
  rcases hb with rfl|hb
  ·rw[show ([]:List Int).isEmpty=true from rfl,ctt,XbQ,ctt,Zwl (by omega),Ze,Zb hne]
  ·obtain⟨u1,u2,u3,u4⟩:=Zy7 hm hc hb
   have hbe:b.isEmpty=false:=by
    cases b with
    |nil=>simp at u1;omega
    |cons y z=>rfl
   rw[hbe,cff,XbC,Zjq (by omega) (by omega) t4,Ze,Zjq (by omega) (by omega) u4,Ze]
   cases decide (ZX c x x.length<ZX c b b.length)with
   |true=>rw[ctt,ctt,Zwl (by omega),Ze,Zb hne]
   |false=>rw[cff,cff]
theorem Zos {m:Zp} (hm:Zz m=true):ZE m (List.replicate m.1.length 0)=true:=by
 refine ZGt Xaw (fun i=>?_)
 have e:(List.replicate m.1.length (0:Int)).getD i 0=0:=by
  rw[Xaa]
  rcases Xag i m.1.length with h|h
  ·rw[XaW h];rfl
  ·rw[Xax (by rw[Xaw];exact h)];rfl
 rw[e]
 rcases Xag i m.1.length with h|h
 ·have:=ZFu hm h
  omega
 ·rw[Xaa,Xax h]
  decide
theorem ZNT {m:Zp} {c x b:List Int} (hm:Zz m=true) (hx:ZE m x=true) (hq:(Z8 m x).1=true):ZlZ m c 1024 (Z8 m x).2 (ZbJ m c b x)=ZlZ m c 1024 x b:=by
 have h1:ZlZ m c 1024 x b=bif (Z8 m x).1 then ZlZ m c 1023 (Z8 m x).2 (ZbJ m c b x)else ZbJ m c b x:=rfl
 have h2:=Zqp hm hx hq
 have h3:muF x≤1024:=by unfold muF;omega
 rw[h1,hq,ctt]
 exact ZGV hm _ _ _ _ (ZhM hx) (by omega) (by omega)
theorem ZNS {m:Zp} {c x b:List Int} (hq:(Z8 m x).1=false):ZlZ m c 1024 x b=ZbJ m c b x:=by
 have h1:ZlZ m c 1024 x b=bif (Z8 m x).1 then ZlZ m c 1023 (Z8 m x).2 (ZbJ m c b x)else ZbJ m c b x:=rfl
 rw[h1,hq,cff]
theorem Zxr (m:Zp) (c:List Int) (h:Zde m) (hc:c.length≤1048576):Zgm m c=some (ZHL m c):=by
 unfold Zgm ZHL
 rw[Zgn m h,Ze]
 cases hm:Zz m with
 |false=>rw[cnf,Xae,cff]
 |true=>
  obtain⟨m1,m2,m3⟩:=ZcG hm
  rw[cnt,Xai,ZfI m c hc,Ze]
  cases ho:ZfZ m c with
  |false=>rw[cnf,cff]
  |true=>
   have hz:=Zos hm
   rw[cnt,ctt,Zb ⟨by omega,by simp only[Zl];omega,rfl⟩,Xab]
   have key:ZcE m.1 (List.replicate m.1.length 0) m c=some (Zgu m c):=by
    unfold ZcE Zgu
    rw[Zwl (by rw[Xaw];omega),Ze]
    refine ZL (f:=Zcj m.1 m c) (fun s:List Int×List Int=>ZE m s.1=true∧ZDs m s.2) (fun s=>muF s.1) (fun s=>ZlZ m c 1024 s.1 s.2) ?_ _ ⟨hz,Or.inl rfl⟩
    rintro⟨x,b⟩ ⟨hx,hb⟩
    dsimp only at hx hb ⊢
    obtain⟨x1,x2⟩:=Zes hx
    unfold Zcj
    dsimp only
    rw[ZIK h hm ho hx hb,Ze,ctt,Zf (by omega) (by omega),ZIG hm hx]
    cases hq:(Z8 m x).1 with
    |true=>
     left
     exact⟨_,rfl,⟨ZhM hx,ZMV hb hx⟩,Zqp hm hx hq,ZNT hm hx hq⟩
    |false=>
     right
     rw[cff,ZNS hq]
   rw[key,Ze]
   rfl
end Go.AE.Y
