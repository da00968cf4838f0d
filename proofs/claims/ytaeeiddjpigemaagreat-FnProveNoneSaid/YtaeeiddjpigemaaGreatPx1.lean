/-
  Plain laws of the models, in one text. No conditions.
-/
import Derived.Test.YtaeeiddjpigemaaGreatAEx3
import Derived.Test.YtaeeiddjpigemaaGreatR8M
namespace Go.AE
theorem Zb {α:Type} {p:Prop} [Decidable p] {m:Option α} (h:p):rq p m=m:=if_pos h
theorem ZxQ {α:Type} {p:Prop} {m m':Option α} {r:α} (h1:p→m=some r) (h2:m'=some r):nt p m m'=some r:=by
 unfold nt
 split
 ·rename_i hp
  rw[h1 hp,h2,if_pos rfl]
 ·exact h2
theorem ZJ {S R:Type} {f:S→Option (S⊕R)} (Inv:S→Prop) (μ:S→Nat) (T:S→R)
  (step:∀s,Inv s→(∃s',f s=some (.inl s')∧Inv s'∧μ s' < μ s∧T s'=T s)∨f s=some (.inr (T s))):∀s,Inv s→loop f s=some (T s):=by
 have key:∀n s,μ s≤n→Inv s→loop f s=some (T s):=by
  intro n
  induction n with
  |zero=>
   intro s hn hs
   rw[ZcG]
   rcases step s hs with⟨s',h1,_,h3,_⟩|h1
   ·omega
   ·rw[h1];rfl
  |succ n ih=>
   intro s hn hs
   rw[ZcG]
   rcases step s hs with⟨s',h1,h2,h3,h4⟩|h1
   ·rw[h1,←h4];exact ih s' (by omega) h2
   ·rw[h1];rfl
 exact fun s=>key _ s (Nat.le_refl _)
theorem Zb4 {S R:Type} {f:S→Option (S⊕R)} (Inv:S→Prop) (μ:S→Nat) (Q:R→Prop)
  (step:∀s,Inv s→(∃s',f s=some (.inl s')∧Inv s'∧μ s' < μ s)∨(∃r,f s=some (.inr r)∧Q r)):∀s,Inv s→∃r,loop f s=some r∧Q r:=by
 have key:∀n s,μ s≤n→Inv s→∃r,loop f s=some r∧Q r:=by
  intro n
  induction n with
  |zero=>
   intro s hn hs
   rw[ZcG]
   rcases step s hs with⟨s',h1,_,h3⟩|⟨r,h1,h2⟩
   ·omega
   ·rw[h1];exact⟨r,rfl,h2⟩
  |succ n ih=>
   intro s hn hs
   rw[ZcG]
   rcases step s hs with⟨s',h1,h2,h3⟩|⟨r,h1,h2⟩
   ·rw[h1];exact ih s' (by omega) h2
   ·rw[h1];exact⟨r,rfl,h2⟩
 exact fun s=>key _ s (Nat.le_refl _)
theorem ZeA {R:Type} {f:Int→Option (Int⊕R)} (n:Nat) (p:Nat→Bool) (bad:R) (fin:R)
  (h:∀i:Nat,i<n→(∀j,j<i→p j=true)→f i=some (bif p i then .inl ((i:Int)+1)else .inr bad)) (hn:f n=some (.inr fin)):loop f 0=some (bif (List.range n).all p then fin else bad):=by
 have key:∀k i:Nat,i+k=n→(∀j,j<i→p j=true)→loop f (i:Int)=some (bif (List.range' i k).all p then fin else bad):=by
  intro k
  induction k with
  |zero=>
   intro i hi _
   have:i=n:=by omega
   subst this
   rw[ZcG,hn]
   simp
  |succ k ih=>
   intro i hi hpre
   rw[ZcG,h i (by omega) hpre]
   cases hp:p i with
   |true=>
    have:=ih (i+1) (by omega) (fun j hj=>by
     rcases Xad j i with h1|h1
     ·exact hpre j h1
     ·have:j=i:=by omega
      subst this;exact hp)
    simp only[XaP,cond_true]
    rw[show ((i:Int)+1)=((i+1:Nat):Int) by omega,this]
    simp[List.range'_succ,hp]
   |false=>simp[List.range'_succ,hp]
 have:=key n 0 (by omega) (fun j hj=>by omega)
 simpa [List.range_eq_range']using this
theorem Zha {α:Type} {f:Int→Option (Int⊕Int)} (l:List α) (d:α) (p:α→Bool) (h:∀i:Nat,i<l.length→f i=some (bif p (l.getD i d)then .inr (i:Int)else .inl ((i:Int)+1))) (hn:f l.length=some (.inr (-1))) :
  ∃r,loop f 0=some r∧decide (0≤r)=l.any p:=by
 have key:∀k i:Nat,i+k=l.length→∃r,loop f (i:Int)=some r∧decide (0≤r)=(l.drop i).any p:=by
  intro k
  induction k with
  |zero=>
   intro i hi
   have:i=l.length:=by omega
   subst this
   rw[ZcG,hn]
   exact⟨-1,rfl,by simp⟩
  |succ k ih=>
   intro i hi
   have hi':i<l.length:=by omega
   rw[ZcG,h i hi',Xbx hi',List.any_cons]
   have e:l.getD i d=l[i]:=by rw[Xaa,Xac hi'];rfl
   rw[e]
   cases hp:p l[i]with
   |true=>exact⟨i,rfl,by simp⟩
   |false=>
    obtain⟨r,h1,h2⟩:=ih (i+1) (by omega)
    refine⟨r,?_,by simpa using h2⟩
    simp only[cond_false,XaP]
    rw[show ((i:Int)+1)=((i+1:Nat):Int) by omega]
    exact h1
 exact key l.length 0 (by omega)
theorem Zmi {α β:Type} (l:List α) (f:α→β) (i:Nat) (d:α) (d':β) (h:i<l.length):(l.map f).getD i d'=f (l.getD i d):=by
 simp[Xaa,h]
theorem Zj6 {α:Type} (l:List α) (p:α→Bool) (d:α):(List.range l.length).all (fun i=>p (l.getD i d))=l.all p:=by
 rw[Xbp,Xar,Xar]
 constructor
 ·intro h x hx
  obtain⟨i,hi,rfl⟩:=Xan.1 hx
  have:=h i (Xay.2 hi)
  simpa [Xaa,hi]using this
 ·intro h i hi
  have hi:=Xay.1 hi
  have:=h _ (Xbt hi)
  simpa [Xaa,hi]using this
theorem Zf {α:Type} {n:Int} {m:Option α} (h1 : -9223372036854775808≤n) (h2:n≤9223372036854775807):rq (i64 n) m=m:=if_pos ⟨h1,h2⟩
theorem Zc {α:Type} {p:Prop} [Decidable p] {m m':α} (h:p):cond (decide p) m m'=m:=by rw[Xae h];rfl
theorem Zd {α:Type} {p:Prop} [Decidable p] {m m':α} (h:¬p):cond (decide p) m m'=m':=by rw[decide_eq_false h];rfl
theorem Zei {α:Type} {a b:Int} {m m':α} (h:a≠b):cond (a != b) m m'=m:=by rw[bne_iff_ne.2 h];rfl
theorem ZdM {α:Type} {a b:Int} {m m':α} (h:a=b):cond (a != b) m m'=m':=by subst h;simp
theorem Zx {α:Type} {a b:Int} {m m':α} (h:a=b):cond (a==b) m m'=m:=by subst h;simp
theorem Zt {α:Type} {a b:Int} {m m':α} (h:a≠b):cond (a==b) m m'=m':=by rw[beq_eq_false_iff_ne.2 h];rfl
theorem cnt {α:Type} {a b:α}:cond (!true) a b=b:=Eq.trans (congrArg (fun x=>cond x a b) (Xbf)) (Eq.trans rfl (id rfl))
theorem cnf {α:Type} {a b:α}:cond (!false) a b=a:=Eq.trans (congrArg (fun x=>cond x a b) (Xbd)) (Eq.trans rfl (id rfl))
theorem ctt {α:Type} {a b:α}:cond true a b=a:=Eq.trans rfl (id rfl)
theorem cff {α:Type} {a b:α}:cond false a b=b:=Eq.trans rfl (id rfl)
theorem Ze {α β:Type} {a:α} {f:α→Option β}:(some a).bind f=f a:=Eq.trans (XaP a f) (id rfl)
theorem ZMx {b:Bool}:(true&&b)=b:=Eq.trans (Xaj b) (id rfl)
end Go.AE
namespace Go.AE.Y
open Go Go.AE
def ZX (n:Int):Bool:=n != 0&&(decide (-12≤n)&&decide (n≤12))
theorem Zy {n:Int}:ZX n=true↔n≠0 ∧ -12≤n∧n≤12:=by simp[ZX]
theorem ZJn {n:Int}:ZX (0 - n)=ZX n:=by
 rw[Xbp,Zy,Zy];omega
theorem Zna (n:Int):Zhd n=some (ZX n):=by
 unfold Zhd ZbN ZX
 cases (n != 0)<;>cases (decide (-12≤n))<;>rfl
theorem Zwk (n:Int):Zpo n=some (ZX n):=by
 unfold Zpo ZX
 cases (n != 0)<;>cases (decide (-12≤n))<;>rfl
def vof (n:Int):Int:=max n (-n)
theorem Zd4 {n:Int} (h : -13≤n∧n≤13):Zdg n=some (vof n):=by
 unfold Zdg vof
 simp(disch:=omega)only[Zf,Int.zero_sub]
theorem Zwj {n:Int} (h : -13≤n∧n≤13):ZmT n=some (vof n):=by
 unfold ZmT vof
 by_cases h1:n<0
 ·simp(disch:=omega)only[Zc,Zf]
  congr 1;omega
 ·simp(disch:=omega)only[Zd]
  congr 1;omega
theorem Zz {α:Type} {l:List α} {i:Nat} {d:α} (h:i<l.length):l.getD i d∈l:=by
 rw[Xaa,Xac h];exact Xbt h
end Go.AE.Y
namespace Go.AE.Y
open Go Go.AE
def ZR (v:List Bool) (l:Int):Bool:=v.getD (vof l - 1).toNat false==decide (0<l)
end Go.AE.Y
namespace Go.AE.Y
open Go Go.AE
def ZhA (a:List (List (Int×Int)×Int)):Prop:=a.length≤1048576∧∀x∈a,x.1.length≤1048576
def Zft (c:List (Int×Int)) (i:Nat):Bool:=
 ZX (c.getD i (0,0)).2&&((decide (1≤(c.getD i (0,0)).1)&&decide ((c.getD i (0,0)).1≤1000))&&(i==0||decide (vof (c.getD (i - 1) (0,0)).2<vof (c.getD i (0,0)).2)))
def ZD (c:List (Int×Int)×Int):Bool:=(List.range c.1.length).all (Zft c.1)&&(decide (0≤c.2)&&decide (c.2≤20000))
theorem ZBk {c:List (Int×Int)} {i:Nat} (h:Zft c i=true):ZX (c.getD i (0,0)).2=true:=by
 unfold Zft at h;simp only[Xag]at h;exact h.1
theorem Zm2 (c:List (Int×Int)×Int) (h:c.1.length≤4000000000):Ze6 c=some (ZD c):=by
 unfold Ze6 ZD
 rw[ZeA c.1.length (Zft c.1) false (decide (0≤c.2)&&decide (c.2≤20000))]
 ·cases (List.range c.1.length).all (Zft c.1)
  ·rw[cond_false,Xai]
  ·rw[cond_true,Xaj]
 ·intro i hi hpre
  unfold Zfj Zft
  simp(disch:=omega)only[Zc,Zb,Zwk,XaP,Xab]
  cases hl:ZX (c.1.getD i (0,0)).2 with
  |false=>simp
  |true=>
   have hl':=Zy.1 hl
   rw[cnt,ZMx]
   by_cases h1:(c.1.getD i (0,0)).1<1
   ·rw[Zc h1,decide_eq_false (show ¬1≤(c.1.getD i (0,0)).1 by omega)];simp
   ·rw[Zd h1,Xae (show 1≤(c.1.getD i (0,0)).1 by omega)]
    by_cases h2:1000<(c.1.getD i (0,0)).1
    ·rw[Zc h2,decide_eq_false (show ¬(c.1.getD i (0,0)).1≤1000 by omega)];simp
    ·rw[Zd h2,Xae (show (c.1.getD i (0,0)).1≤1000 by omega)]
     by_cases h0:i=0
     ·subst h0
      simp(disch:=omega)only[Zd,Zf]
      simp
     ·have hp1:=Zy.1 (ZBk (hpre (i - 1) (by omega)))
      have e1:((i:Int) - 1).toNat=i - 1:=by omega
      rw[show (i==0)=false by simpa using h0]
      simp(disch:=omega)only[Zc,Zf,Zb,e1,Zwj,XaP]
      by_cases hv:vof (c.1.getD (i - 1) (0,0)).2<vof (c.1.getD i (0,0)).2
      ·rw[Zd (by omega),Xae hv];simp
      ·rw[Zc (by omega),decide_eq_false hv];simp
 ·unfold Zfj
  simp(disch:=omega)only[Zd]
  by_cases h1:0≤c.2
  ·rw[Zc h1,Xae h1];simp
  ·rw[Zd h1,decide_eq_false h1];simp
theorem ZbR (n a b:Int):ZbN n a b=some (decide (a≤n)&&decide (n≤b)):=by
 unfold ZbN
 by_cases h:a≤n
 ·rw[Zc h,Xae h];simp
 ·rw[Zd h,decide_eq_false h];simp
theorem Zbf (c:List (Int×Int)×Int) (h:c.1.length≤4000000000):Z3 c=some (ZD c):=by
 unfold Z3
 refine ZJ (fun s:Int×Int=>∃i:Nat,s.2=i∧i≤c.1.length∧s.1=(if i=0 then 0 else vof (c.1.getD (i - 1) (0,0)).2)∧∀j,j<i→Zft c.1 j=true) (fun s=>c.1.length - s.2.toNat) (fun _=>ZD c) ?_ _ ⟨0,rfl,Nat.zero_le _,rfl,fun j hj=>by omega⟩
 rintro⟨b,s⟩ ⟨i,rfl,hi,hb,hpre⟩
 dsimp only at hb ⊢
 unfold Zil
 rcases Xad i c.1.length with h1|h1
 ·have bad:Zft c.1 i=false→ZD c=false:=fun hq=>by
   unfold ZD
   rw[List.all_eq_false.2 ⟨i,Xay.2 h1,by rw[hq];simp⟩]
   rw[Xai]
  simp(disch:=omega)only[Zc,Zb,Zna,Ze,Xab]
  cases hl:ZX (c.1.getD i (0,0)).2 with
  |false=>
   right
   rw[bad (by unfold Zft;rw[hl,Xai]),cnf]
  |true=>
   have hl':=Zy.1 hl
   have hv1:1≤vof (c.1.getD i (0,0)).2:=by unfold vof;omega
   rw[cnt]
   rw[Zd4 (by omega),Ze]
   by_cases hv:vof (c.1.getD i (0,0)).2≤b
   ·right
    rw[Zc hv,bad ?_]
    unfold Zft
    by_cases h0:i=0
    ·subst h0;rw[if_pos rfl]at hb;omega
    ·rw[if_neg h0]at hb
     rw[show (i==0)=false by simpa using h0,decide_eq_false (show ¬vof (c.1.getD (i - 1) (0,0)).2<vof (c.1.getD i (0,0)).2 by omega)]
     simp
   ·rw[Zd hv,ZbR]
    rw[Ze]
    cases hw:(decide (1≤(c.1.getD i (0,0)).1)&&decide ((c.1.getD i (0,0)).1≤1000))with
    |false=>
     right
     rw[bad (by unfold Zft;rw[hw];simp),cnf]
    |true=>
     left
     rw[cnt,Ze,Zf (by omega) (by omega)]
     refine⟨_,rfl,⟨i+1,by simp,by omega,by simp,fun j hj=>?_⟩,by dsimp only;omega,trivial⟩
     rcases Xad j i with h2|h2
     ·exact hpre j h2
     ·have:j=i:=by omega
      subst this
      unfold Zft
      rw[hl,hw]
      by_cases h0:j=0
      ·rw[show (j==0)=true by simpa using h0];simp
      ·rw[if_neg h0]at hb
       rw[Xae (show vof (c.1.getD (j - 1) (0,0)).2<vof (c.1.getD j (0,0)).2 by omega)]
       simp
 ·right
  have:i=c.1.length:=by omega
  subst this
  dsimp only
  rw[Zd (by omega),ZbR,Ze]
  unfold ZD
  rw[Xar.2 (fun j hj=>hpre j (Xay.1 hj)),Xaj]
def ZeM (l:List (List (Int×Int)×Int)):Bool:=l.all ZD&&decide (l.length≤400)
theorem ZvX (l:List (List (Int×Int)×Int)) (h:ZhA l):Zjn l=some (ZeM l):=by
 have h1:=h.1
 unfold Zjn ZeM
 rw[ZeA l.length (fun i=>ZD (l.getD i ([],0))) false (decide (l.length≤400)),Zj6 l ZD ([],0)]
 ·cases l.all ZD<;>rfl
 ·intro i hi _
  have h2:=h.2 _ (Zz (d:=([],0)) hi)
  unfold Zg2
  simp(disch:=omega)only[Zc,Zb,Xab]
  rw[Zm2 _ (by omega)]
  simp(disch:=omega)only[XaP,Zf]
  cases ZD (l.getD i ([],0))<;>rfl
 ·unfold Zg2
  simp(disch:=omega)only[Zd]
  rw[decide_eq_decide.2 (show ((l.length:Int)≤400↔l.length≤400) by omega)]
theorem Zkq (l:List (List (Int×Int)×Int)) (h:ZhA l):Zgx l=some (ZeM l):=by
 have h1:=h.1
 unfold Zgx ZeM
 by_cases h4:l.length≤400
 ·rw[Zc (by omega),Xae h4]
  unfold Zrt Zca Zcr
  obtain⟨r,hr1,hr2⟩:=Zha (f:=Z0 l) l ([],0) (fun x=>!ZD x) (fun i hi=>by
   have h2:=h.2 _ (Zz (d:=([],0)) hi)
   unfold Z0 Zpd
   simp(disch:=omega)only[Zc,Zb,Xab]
   rw[Zbf _ (by omega)]
   simp(disch:=omega)only[XaP,Zf]
   cases ZD (l.getD i ([],0))<;>rfl) (by
   unfold Z0
   simp(disch:=omega)only[Zd])
  rw[hr1]
  simp only[XaP,hr2]
  rw[Xa3]
  simp
 ·rw[Zd (by omega),decide_eq_false h4]
  simp
def Zcy (v:List Bool) (c:List (Int×Int)):Int:=c.foldl (fun a t=>bif ZR v t.2 then a+t.1 else a) 0
def ZW (v:List Bool) (c:List (Int×Int)×Int):Bool:=decide (c.2≤Zcy v c.1)
theorem ZIk {c:List (Int×Int)×Int} (h:ZD c=true):∀i,i<c.1.length→((c.1.getD i (0,0)).2≠0 ∧ -12≤(c.1.getD i (0,0)).2∧(c.1.getD i (0,0)).2≤12)∧1≤(c.1.getD i (0,0)).1∧(c.1.getD i (0,0)).1≤1000:=by
 intro i hi
 unfold ZD at h
 simp only[Xag,Xar]at h
 have h1:=h.1 i (Xay.2 hi)
 refine⟨Zy.1 (ZBk h1),?_⟩
 unfold Zft at h1
 simp only[Xag,Xaf]at h1
 exact h1.2.1
theorem ZxW {l:List (List (Int×Int)×Int)} (h:ZeM l=true):∀x∈l,ZD x=true:=by
 unfold ZeM at h
 simp only[Xag,Xar]at h
 exact h.1
end Go.AE.Y
namespace Go.AE.Y
open Go Go.AE
abbrev ZG:=Int×List Int×List Int×Int×List (List Int)
abbrev Zr:=List Int×List ZG
def ZmI (l:List Int) (n:Int) (i:Nat):Bool:=(decide (0≤l.getD i 0)&&decide (l.getD i 0≤n - 1)) && !((l.take i).any (fun x=>l.getD i 0==x))
def Zo9 (l:List Int) (n:Int):Bool:=(List.range l.length).all (ZmI l n)
def Zqf (n:Int):Bool:=n != 0&&(decide (-9≤n)&&decide (n≤9))
def ZdX (n:Int):Bool:=decide (0≤n)&&decide (n≤3)
def ZzL (r:ZG):Bool:=decide ((r.2.2.1.length:Int)=r.2.1.length)&&((decide (-1000≤r.2.2.2.1)&&decide (r.2.2.2.1≤1000))&&r.2.2.1.all Zqf)
def ZxZ (r:ZG) (row:List Int):Bool:=decide ((row.length:Int)=r.2.1.length)&&row.all ZdX
def ZIT (r:ZG):Bool:=decide ((r.2.2.2.2.length:Int)≤8)&&r.2.2.2.2.all (ZxZ r)
def ZgY (r:ZG):Bool:=bif r.1==1 then ZzL r else bif r.1==3 then ZIT r else bif r.1==4 then decide (r.2.1.length=2)else r.1==2
def ZBc (r:ZG):Bool:=(r.1==1||(decide (r.2.2.1.length=0)&&r.2.2.2.1==0))&&(r.1==3||decide (r.2.2.2.2.length=0))
def ZfM (n:Int) (r:ZG):Bool:=Zo9 r.2.1 n&&(decide (1≤r.2.1.length)&&(ZBc r&&ZgY r))
def ZmA (l:List Int):Int:=l.foldl (fun a n=>a+(n+1)) 0
def ZE (m:Zr):Bool:=(decide (1≤m.1.length)&&decide (m.1.length≤5))&&(decide (m.2.length≤8)&&(m.1.all ZdX&&(decide (ZmA m.1≤12)&&m.2.all (ZfM m.1.length))))
def Ze3 (r:ZG):Prop:=r.2.1.length≤1048576∧r.2.2.1.length≤1048576∧r.2.2.2.2.length≤1048576∧∀x∈r.2.2.2.2,x.length≤1048576
def Zfo (m:Zr):Prop:=m.1.length≤1048576∧m.2.length≤1048576∧∀r∈m.2,Ze3 r
theorem ZtA (s:List Int) (v:Int) (h:s.length≤4000000000):Zcu s v=some (s.any (fun x=>v==x)):=by
 unfold Zcu ZkB
 obtain⟨r,hr1,hr2⟩:=Zha (f:=Zc1 s v) s 0 (fun x=>v==x) (fun i hi=>by
  unfold Zc1
  rw[Zc (by omega),Zb ⟨by omega,by omega⟩,Xab]
  cases v==s.getD i 0 with
  |true=>rw[ctt,ctt]
  |false=>rw[cff,cff,Zf (by omega) (by omega)]) (by
  unfold Zc1
  rw[Zd (by omega)])
 rw[hr1,Ze,hr2]
theorem ZKM {l:List Int} {i:Nat} (hi:i≤l.length) (v:Int):(l.take i).any (fun x=>v==x) = !(List.range i).all (fun k=>!(l.getD k 0==v)):=by
 have hl:(l.take i).length=i:=by rw[Xaz];omega
 have h:=Zj6 (l.take i) (fun x=>!(v==x)) 0
 rw[hl]at h
 rw[Xa3,←h]
 congr 1
 rw[Xbp,Xar,Xar]
 refine forall_congr' fun k=>forall_congr' fun hk=>?_
 have hk:=Xay.1 hk
 have e:(l.take i).getD k 0=l.getD k 0:=by rw[Xaa,XaD,if_pos hk,Xaa]
 rw[e]
 simp only[XaW,beq_eq_false_iff_ne,ne_eq]
 exact⟨fun h e=>h e.symm,fun h e=>h e.symm⟩
theorem Zx9 (l:List Int) (h:l.length≤4000000000):Zcd l=some (!l.all Zqf):=by
 unfold Zcd ZdN
 obtain⟨r,hr1,hr2⟩:=Zha (f:=ZbB l) l 0 (fun x=>!Zqf x) (fun i hi=>by
  unfold ZbB Zn5
  rw[Zc (by omega),Zb ⟨by omega,by omega⟩,Xab]
  unfold Zqf
  cases hz:(l.getD i 0==0)with
  |true=>rw[ctt,Ze,ctt,bne,hz];rfl
  |false=>
   rw[cff,ZbR,Ze,Ze,bne,hz,Xbd,Xaj]
   cases (decide (-9≤l.getD i 0)&&decide (l.getD i 0≤9))with
   |true=>rw[cnt,Zf (by omega) (by omega),cnt]
   |false=>rw[cnf,cnf]) (by
  unfold ZbB
  rw[Zd (by omega)])
 rw[hr1,Ze,hr2,Xa3]
 simp only[XbH]
theorem ZvV (l:List Int) (h:l.length≤4000000000):ZbZ l=some (!l.all ZdX):=by
 unfold ZbZ Zdt
 obtain⟨r,hr1,hr2⟩:=Zha (f:=Zbo l) l 0 (fun x=>!ZdX x) (fun i hi=>by
  unfold Zbo Zmm
  rw[Zc (by omega),Zb ⟨by omega,by omega⟩,Xab,ZbR,Ze,Ze]
  unfold ZdX
  cases (decide (0≤l.getD i 0)&&decide (l.getD i 0≤3))with
  |true=>rw[cnt,Zf (by omega) (by omega),cnt]
  |false=>rw[cnf,cnf]) (by
  unfold Zbo
  rw[Zd (by omega)])
 rw[hr1,Ze,hr2,Xa3]
 simp only[XbH]
theorem Zya (r0:ZG) (h:Ze3 r0):Zb0 r0.2.2.2.2 r0=some (!r0.2.2.2.2.all (ZxZ r0)):=by
 obtain⟨h1,h2,h3,h4⟩:=h
 unfold Zb0 Zdu
 obtain⟨r,hr1,hr2⟩:=Zha (f:=Zbp r0.2.2.2.2 r0) r0.2.2.2.2 [] (fun x=>!ZxZ r0 x) (fun i hi=>by
  have hx:=h4 _ (Zz (d:=[]) hi)
  unfold Zbp Zn6
  rw[Zc (by omega),Zb ⟨by omega,by omega⟩,Xab]
  unfold ZxZ
  by_cases hl:((r0.2.2.2.2.getD i []).length:Int)=r0.2.1.length
  ·rw[ZdM hl,ZvV _ (by omega),Ze,Ze,Xae hl,Xaj]
   cases (r0.2.2.2.2.getD i []).all ZdX with
   |true=>rw[cnt,Zf (by omega) (by omega),cnt]
   |false=>rw[cnf,cnf]
  ·rw[Zei hl,Ze,ctt,decide_eq_false hl,Xai,cnf]) (by
  unfold Zbp
  rw[Zd (by omega)])
 rw[hr1,Ze,hr2,Xa3]
 simp only[XbH]
theorem ZwC (r:ZG) (h:Ze3 r):Zej r ()=some (.inr (ZgY r)):=by
 obtain⟨h1,h2,h3,h4⟩:=h
 unfold Zej ZgY
 cases r.1==1 with
 |true=>
  rw[ctt,ctt]
  unfold ZzL
  by_cases hl:(r.2.2.1.length:Int)=r.2.1.length
  ·rw[Zx hl,Xae hl,Xaj,ZbR,Ze]
   cases (decide (-1000≤r.2.2.2.1)&&decide (r.2.2.2.1≤1000))with
   |true=>rw[ctt,Zx9 _ (by omega),Ze,Xaj,XbH]
   |false=>rw[cff,Xai]
  ·rw[Zt hl,decide_eq_false hl,Xai]
 |false=>
  rw[cff,cff]
  cases r.1==3 with
  |true=>
   rw[ctt,ctt]
   unfold ZIT
   by_cases hl:(r.2.2.2.2.length:Int)≤8
   ·rw[Zc hl,Xae hl,Xaj,Zya r ⟨h1,h2,h3,h4⟩,Ze,XbH]
   ·rw[Zd hl,decide_eq_false hl,Xai]
  |false=>
   rw[cff,cff]
   cases r.1==4 with
   |true=>
    rw[ctt,ctt]
    congr 2
    rw[Xbp,beq_iff_eq,decide_eq_true_iff]
    omega
   |false=>rw[cff,cff]
theorem Zy0 (r:ZG) (n:Int) (h:Ze3 r) (hn:0≤n∧n≤4000000000):ZmM r n=some (ZfM n r):=by
 have hs:=h
 obtain⟨h1,h2,h3,h4⟩:=h
 unfold ZmM ZfM Zo9
 rw[ZeA r.2.1.length (ZmI r.2.1 n) false (decide (1≤r.2.1.length)&&(ZBc r&&ZgY r))]
 ·cases (List.range r.2.1.length).all (ZmI r.2.1 n)<;>rfl
 ·intro i hi _
  unfold Zjj ZmI
  rw[Zc (by omega),Zb ⟨by omega,by omega⟩,Zf (by omega) (by omega),Xab,ZbR,Ze]
  cases (decide (0≤r.2.1.getD i 0)&&decide (r.2.1.getD i 0≤n - 1))with
  |false=>rw[cnf,Xai,cff]
  |true=>
   rw[cnt,Xaj,Zb ⟨by omega,by omega⟩,ZtA _ _ (by rw[Xaz];omega),Ze]
   cases (r.2.1.take i).any (fun x=>r.2.1.getD i 0==x)with
   |true=>rw[ctt,cnt]
   |false=>rw[cff,Zf (by omega) (by omega),cnf]
 ·unfold Zjj
  rw[Zd (by omega)]
  by_cases h0:r.2.1.length=0
  ·rw[Zx (by omega),show decide (1≤r.2.1.length)=false from decide_eq_false (by omega),Xai]
  ·rw[Zt (by omega),show decide (1≤r.2.1.length)=true from Xae (by omega),Xaj,ZwC r hs]
   unfold ZBc
   have e3:(r.1 != 3) = !(r.1==3):=rfl
   have e1:(r.1 != 1) = !(r.1==1):=rfl
   rw[e1,e3]
   have hrows:(cond (decide ((0:Int)<(r.2.2.2.2.length:Int))) (some (Sum.inr false)) (some (Sum.inr (ZgY r))):Option (Int⊕Bool))=some (Sum.inr (decide (r.2.2.2.2.length=0)&&ZgY r)):=by
    by_cases hq:(0:Int)<r.2.2.2.2.length
    ·rw[Zc hq,show decide (r.2.2.2.2.length=0)=false from decide_eq_false (by omega),Xai]
    ·rw[Zd hq,show decide (r.2.2.2.2.length=0)=true from Xae (by omega),Xaj]
   rw[hrows]
   cases r.1==1 with
   |true=>
    rw[cnt,XbW,Xaj]
    cases r.1==3 with
    |true=>rw[cnt,XbW,Xaj]
    |false=>rw[cnf,XbM]
   |false=>
    rw[cnf,XbM]
    by_cases hc:(0:Int)<r.2.2.1.length
    ·rw[Zc hc,show decide (r.2.2.1.length=0)=false from decide_eq_false (by omega),Xai,Xai,Xai]
    ·rw[Zd hc,show decide (r.2.2.1.length=0)=true from Xae (by omega),Xaj]
     have eb:(r.2.2.2.1 != 0) = !(r.2.2.2.1==0):=rfl
     rw[eb]
     cases r.2.2.2.1==0 with
     |false=>rw[cnf,Xai,Xai]
     |true=>
      rw[cnt,Xaj]
      cases r.1==3 with
      |true=>rw[cnt,XbW,Xaj]
      |false=>rw[cnf,XbM]
theorem Zxl:∀(l:List Int),l.all ZdX=true→0≤ZmA l∧ZmA l≤4*l.length:=by
 have key:∀(l:List Int) (a:Int),l.all ZdX=true→a≤l.foldl (fun a n=>a+(n+1)) a∧l.foldl (fun a n=>a+(n+1)) a≤a+4*l.length:=by
  intro l
  induction l with
  |nil=>intro a _;simp
  |cons x r ih=>
   intro a h
   rw[List.all_cons,Xag]at h
   have hx:=h.1
   unfold ZdX at hx
   simp only[Xag,Xaf]at hx
   obtain⟨i1,i2⟩:=ih (a+(x+1)) h.2
   rw[Xbl,Xap]
   omega
 intro l h
 have:=key l 0 h
 unfold ZmA
 omega
theorem ZDI (m:Zr) (h:Zfo m):ZbG m.2 m=some (!m.2.all (ZfM m.1.length)):=by
 obtain⟨h1,h2,h3⟩:=h
 unfold ZbG ZcP
 obtain⟨r,hr1,hr2⟩:=Zha (f:=Z8 m.2 m) m.2 (0,([],([],(0,[])))) (fun x=>!ZfM m.1.length x) (fun i hi=>by
  unfold Z8 Zm8
  rw[Zc (by omega),Zb ⟨by omega,by omega⟩,Xab,Zy0 _ _ (h3 _ (Zz hi)) ⟨by omega,by omega⟩,Ze,Ze]
  cases ZfM m.1.length (m.2.getD i (0,([],([],(0,[])))))with
  |true=>rw[cnt,Zf (by omega) (by omega),cnt]
  |false=>rw[cnf,cnf]) (by
  unfold Z8
  rw[Zd (by omega)])
 rw[hr1,Ze,hr2,Xa3]
 simp only[XbH]
theorem Zyi (l:List Int) (x:Int):ZmA (l++[x])=ZmA l+(x+1):=by unfold ZmA;rw[Xa6];rfl
theorem Zv1 {l:List Int} {i:Nat} (h:∀j,j<i→ZdX (l.getD j 0)=true):(l.take i).all ZdX=true:=by
 rw[Xar]
 intro x hx
 obtain⟨j,hj,rfl⟩:=Xan.1 hx
 rw[Xaz]at hj
 have:=h j (by omega)
 rw[Xaa,Xac (by omega)]at this
 rw[Xbb]
 exact this
theorem ZmX {l:List Int} {i:Nat} (h:i<l.length):l.take (i+1)=l.take i++[l.getD i 0]:=by
 rw[Xbh,Xaa,Xac h]
 rfl
theorem ZiG (m:Zr) (h:Zfo m):ZeZ m=some (ZE m):=by
 have hs:=h
 obtain⟨h1,h2,h3⟩:=h
 unfold ZeZ ZE
 rw[ZbR,Ze,show decide ((1:Int)≤m.1.length)=decide (1≤m.1.length) from decide_eq_decide.2 (by omega),show decide ((m.1.length:Int)≤5)=decide (m.1.length≤5) from decide_eq_decide.2 (by omega)]
 cases hw:(decide (1≤m.1.length)&&decide (m.1.length≤5))with
 |false=>rw[cnf,Xai]
 |true=>
  simp only[Xag,Xaf]at hw
  rw[cnt,Xaj]
  by_cases h8:m.2.length≤8
  ·rw[Zd (by omega),Xae h8,Xaj]
   refine ZJ (fun s:Int×Int=>∃i:Nat,s.2=i∧i≤m.1.length∧s.1=ZmA (m.1.take i)∧∀j,j<i→ZdX (m.1.getD j 0)=true) (fun s=>m.1.length - s.2.toNat) (fun _=>m.1.all ZdX&&(decide (ZmA m.1≤12)&&m.2.all (ZfM m.1.length))) ?_ _ ⟨0,rfl,Nat.zero_le _,rfl,fun j hj=>by omega⟩
   rintro⟨c,s⟩ ⟨i,rfl,hi,hc,hpre⟩
   dsimp only at hc ⊢
   subst hc
   have hb:=Zxl _ (Zv1 hpre)
   rw[Xaz]at hb
   unfold Zmj
   dsimp only
   rcases Xad i m.1.length with h5|h5
   ·rw[Zc (by omega),Zb ⟨by omega,by omega⟩,Xab,ZbR,Ze]
    cases hq:(decide (0≤m.1.getD i 0)&&decide (m.1.getD i 0≤3))with
    |false=>
     right
     rw[cnf,List.all_eq_false.2 ⟨_,Zz h5,by unfold ZdX;rw[hq];simp⟩,Xai]
    |true=>
     left
     have hq2:=hq
     simp only[Xag,Xaf]at hq2
     rw[cnt,Zf (by omega) (by omega),Zf (by omega) (by omega),Zf (by omega) (by omega)]
     refine⟨_,rfl,⟨i+1,by simp,by omega,?_,fun j hj=>?_⟩,by dsimp only;omega,rfl⟩
     ·dsimp only
      rw[ZmX h5,Zyi]
     ·rcases Xad j i with h6|h6
      ·exact hpre j h6
      ·rw[show j=i by omega];exact hq
   ·right
    have:i=m.1.length:=by omega
    subst this
    have hall:m.1.all ZdX=true:=by
     have:=Zv1 hpre
     rwa [Xa5 (Nat.le_refl _)]at this
    rw[Zd (by omega),hall,Xaj,Xa5 (Nat.le_refl _)]
    by_cases h12:ZmA m.1≤12
    ·rw[Zc h12,Xae h12,Xaj,ZDI m hs,Ze,XbH]
    ·rw[Zd h12,decide_eq_false h12,Xai]
  ·rw[Zc (by omega),decide_eq_false h8,Xai]
theorem ZCs {l:List Int} {i:Nat} (h:l.length≤4000000000) (hi:i<l.length):loop (ZjU l i) (0:Int)=some (bif (l.take i).any (fun x=>l.getD i 0==x)then Sum.inr false else Sum.inl ((i:Int)+1)):=by
 rw[ZKM (by omega),ZeA i (fun k=>!(l.getD k 0==l.getD i 0)) (Sum.inr false) (Sum.inl ((i:Int)+1))]
 ·cases (List.range i).all (fun k=>!(l.getD k 0==l.getD i 0))<;>rfl
 ·intro k hk _
  unfold ZjU
  rw[Zc (by omega),Zb ⟨by omega,by omega⟩,Zb ⟨by omega,by omega⟩,Xab,Xab]
  cases l.getD k 0==l.getD i 0 with
  |true=>rw[ctt,Xbf,cff]
  |false=>rw[cff,Zf (by omega) (by omega),Xbd,ctt]
 ·unfold ZjU
  rw[Zd (by omega),Zf (by omega) (by omega)]
theorem ZCr (m:Zr) (l:List Int) (h:l.length≤4000000000) (_hm:m.1.length≤4000000000):Zqp m l=some (Zo9 l m.1.length&&decide (1≤l.length)):=by
 unfold Zqp Zo9
 rw[ZeA l.length (ZmI l m.1.length) false (decide (1≤l.length))]
 ·cases (List.range l.length).all (ZmI l m.1.length)<;>rfl
 ·intro i hi _
  unfold ZmW ZmI
  rw[Zc (by omega),Zb ⟨by omega,by omega⟩,Xab]
  by_cases h1:l.getD i 0<0
  ·rw[Zc h1,decide_eq_false (show ¬0≤l.getD i 0 by omega),Xai,Xai,cff]
  ·rw[Zd h1,Zb ⟨by omega,by omega⟩,Xae (show 0≤l.getD i 0 by omega),Xaj]
   by_cases h2:(m.1.length:Int)≤l.getD i 0
   ·rw[Zc h2,decide_eq_false (show ¬l.getD i 0≤(m.1.length:Int) - 1 by omega),Xai,cff]
   ·rw[Zd h2,Xae (show l.getD i 0≤(m.1.length:Int) - 1 by omega),Xaj,ZCs h hi]
    cases (l.take i).any (fun x=>l.getD i 0==x)with
    |true=>rw[ctt,Xbf,cff]
    |false=>rw[cff,Xbd,ctt]
 ·unfold ZmW
  rw[Zd (by omega)]
  congr 2
  exact decide_eq_decide.2 (by omega)
theorem Zz1 (r:ZG) (h:Ze3 r):ZnP r=some (ZzL r):=by
 obtain⟨h1,h2,h3,h4⟩:=h
 unfold ZnP ZzL
 rw[←Zj6 r.2.2.1 Zqf 0,ZeA r.2.2.1.length (fun i=>Zqf (r.2.2.1.getD i 0)) false (decide ((r.2.2.1.length:Int)=r.2.1.length)&&(decide (-1000≤r.2.2.2.1)&&decide (r.2.2.2.1≤1000)))]
 ·cases (List.range r.2.2.1.length).all (fun i=>Zqf (r.2.2.1.getD i 0))with
  |true=>rw[ctt,Xb1]
  |false=>rw[cff,Xa2,Xa2]
 ·intro i hi _
  unfold ZkM Zqf
  rw[Zc (by omega),Zb ⟨by omega,by omega⟩,Xab]
  by_cases h5:r.2.2.1.getD i 0 < -9
  ·rw[Zc h5,decide_eq_false (show ¬ -9≤r.2.2.1.getD i 0 by omega),Xai,Xa2,cff]
  ·rw[Zd h5,Zb ⟨by omega,by omega⟩,Xae (show -9≤r.2.2.1.getD i 0 by omega),Xaj]
   by_cases h6:9<r.2.2.1.getD i 0
   ·rw[Zc h6,decide_eq_false (show ¬r.2.2.1.getD i 0≤9 by omega),Xa2,cff]
   ·rw[Zd h6,Zb ⟨by omega,by omega⟩,Xae (show r.2.2.1.getD i 0≤9 by omega),Xb1,bne]
    cases r.2.2.1.getD i 0==0 with
    |true=>rw[ctt,Xbf,cff]
    |false=>rw[cff,Zf (by omega) (by omega),Xbd,ctt]
 ·unfold ZkM
  rw[Zd (by omega)]
  by_cases hl:(r.2.2.1.length:Int)=r.2.1.length
  ·rw[Zx hl,Xae hl,Xaj]
   by_cases h5 : -1000≤r.2.2.2.1
   ·rw[Zc h5,Xae h5,Xaj]
   ·rw[Zd h5,decide_eq_false h5,Xai]
  ·rw[Zt hl,decide_eq_false hl,Xai]
theorem ZBh (r:ZG) (h:Ze3 r) {i:Nat} (hi:i<r.2.2.2.2.length):loop (ZiR r i) (0:Int)=some (bif (r.2.2.2.2.getD i []).all ZdX then Sum.inl ((i:Int)+1)else Sum.inr false):=by
 obtain⟨h1,h2,h3,h4⟩:=h
 have hx:=h4 _ (Zz (d:=[]) hi)
 rw[←Zj6 (r.2.2.2.2.getD i []) ZdX 0,ZeA (r.2.2.2.2.getD i []).length (fun k=>ZdX ((r.2.2.2.2.getD i []).getD k 0)) (Sum.inr false) (Sum.inl ((i:Int)+1))]
 ·intro k hk _
  unfold ZiR ZdX
  rw[Zb ⟨by omega,by omega⟩,Xab,Zc (by omega),Zb ⟨by omega,by omega⟩,Zb ⟨by omega,by omega⟩,Xab]
  by_cases h5:(r.2.2.2.2.getD i []).getD k 0<0
  ·rw[Zc h5,decide_eq_false (show ¬0≤(r.2.2.2.2.getD i []).getD k 0 by omega),Xai,cff]
  ·rw[Zd h5,Zb ⟨by omega,by omega⟩,Zb ⟨by omega,by omega⟩,Xae (show 0≤(r.2.2.2.2.getD i []).getD k 0 by omega),Xaj]
   by_cases h6:3<(r.2.2.2.2.getD i []).getD k 0
   ·rw[Zc h6,decide_eq_false (show ¬(r.2.2.2.2.getD i []).getD k 0≤3 by omega),cff]
   ·rw[Zd h6,Xae (show (r.2.2.2.2.getD i []).getD k 0≤3 by omega),Zf (by omega) (by omega),ctt]
 ·unfold ZiR
  rw[Zb ⟨by omega,by omega⟩,Xab,Zd (by omega),Zf (by omega) (by omega)]
theorem ZBg (r:ZG) (h:Ze3 r):Zps r=some (ZIT r):=by
 have hs:=h
 obtain⟨h1,h2,h3,h4⟩:=h
 unfold Zps ZIT
 rw[←Zj6 r.2.2.2.2 (ZxZ r) [],ZeA r.2.2.2.2.length (fun i=>ZxZ r (r.2.2.2.2.getD i [])) false (decide ((r.2.2.2.2.length:Int)≤8))]
 ·cases (List.range r.2.2.2.2.length).all (fun i=>ZxZ r (r.2.2.2.2.getD i []))with
  |true=>rw[ctt,Xb1]
  |false=>rw[cff,Xa2]
 ·intro i hi _
  unfold ZlU ZxZ
  rw[Zc (by omega),Zb ⟨by omega,by omega⟩,Xab]
  by_cases hl:((r.2.2.2.2.getD i []).length:Int)=r.2.1.length
  ·rw[ZdM hl,Xae hl,Xaj,ZBh r hs hi]
  ·rw[Zei hl,decide_eq_false hl,Xai,cff]
 ·unfold ZlU
  rw[Zd (by omega)]
theorem Zz3 (r:ZG) (h:Ze3 r):ZfE r ()=some (ZgY r):=by
 unfold ZfE ZgY
 cases h1:(r.1==1)with
 |true=>rw[ctt,ctt,Zz1 r h,Ze]
 |false=>
  rw[cff,cff]
  cases h2:(r.1==2)with
  |true=>
   have:r.1=2:=by simpa using h2
   rw[ctt,this]
   rfl
  |false=>
   rw[cff]
   cases h3:(r.1==3)with
   |true=>rw[ctt,ctt,ZBg r h,Ze]
   |false=>
    rw[cff,cff]
    cases h4:(r.1==4)with
    |true=>
     rw[ctt,ctt]
     congr 1
     rw[Xbp,beq_iff_eq,decide_eq_true_iff]
     omega
    |false=>rw[cff,cff]
theorem ZCq (m:Zr) (r:ZG) (h:Ze3 r) (hm:m.1.length≤4000000000):Zqo m r=some (ZfM m.1.length r):=by
 have hs:=h
 obtain⟨h1,h2,h3,h4⟩:=h
 unfold Zqo ZfM
 rw[ZCr m _ (by omega) hm,Ze,Zz3 r hs]
 cases Zo9 r.2.1 m.1.length with
 |false=>rw[Xai,Xai,cnf]
 |true=>
  rw[Xaj,Xaj]
  cases decide (1≤r.2.1.length)with
  |false=>rw[cnf,Xai]
  |true=>
   rw[cnt,Xaj]
   unfold ZBc
   have e3:(r.1 != 3) = !(r.1==3):=rfl
   have e1:(r.1 != 1) = !(r.1==1):=rfl
   rw[e1,e3]
   have hrows:(cond ((r.2.2.2.2.length:Int) != (0:Int)) (some false) (some (ZgY r)):Option Bool)=some (decide (r.2.2.2.2.length=0)&&ZgY r):=by
    by_cases hq:r.2.2.2.2.length=0
    ·rw[ZdM (by omega),Xae hq,Xaj]
    ·rw[Zei (by omega),decide_eq_false hq,Xai]
   rw[hrows]
   cases r.1==1 with
   |true=>
    rw[cnt,XbW,Xaj]
    cases r.1==3 with
    |true=>rw[cnt,XbW,Xaj]
    |false=>rw[cnf,XbM]
   |false=>
    rw[cnf,XbM]
    by_cases hc:r.2.2.1.length=0
    ·rw[ZdM (by omega),Xae hc,Xaj]
     have eb:(r.2.2.2.1 != 0) = !(r.2.2.2.1==0):=rfl
     rw[eb]
     cases r.2.2.2.1==0 with
     |false=>rw[cnf,Xai,Xai]
     |true=>
      rw[cnt,Xaj]
      cases r.1==3 with
      |true=>rw[cnt,XbW,Xaj]
      |false=>rw[cnf,XbM]
    ·rw[Zei (by omega),decide_eq_false hc,Xai,Xai,Xai]
theorem Zpm (m:Zr) (c:Int) (h:Zfo m):Zf4 m c=some ((decide (1≤m.1.length)&&decide (m.1.length≤5))&&(decide (m.2.length≤8)&&(decide (c≤12)&&m.2.all (ZfM m.1.length)))):=by
 obtain⟨h1,h2,h3⟩:=h
 unfold Zf4
 by_cases q1:1≤m.1.length
 ·rw[Zd (by omega),Xae q1,Xaj]
  by_cases q2:m.1.length≤5
  ·rw[Zd (by omega),Xae q2,Xaj]
   by_cases q3:c≤12
   ·rw[Zd (by omega),Xae q3,Xaj]
    by_cases q4:m.2.length≤8
    ·rw[Zd (by omega),Xae q4,Xaj,←Zj6 m.2 (ZfM m.1.length) (0,([],([],(0,[])))),
      ZeA m.2.length (fun i=>ZfM m.1.length (m.2.getD i (0,([],([],(0,[])))))) false true]
     ·cases (List.range m.2.length).all (fun i=>ZfM m.1.length (m.2.getD i (0,([],([],(0,[]))))))<;>rfl
     ·intro i hi _
      unfold ZiO
      rw[Zc (by omega),Zb ⟨by omega,by omega⟩,Xab,ZCq m _ (h3 _ (Zz hi)) (by omega),Ze]
      cases ZfM m.1.length (m.2.getD i (0,([],([],(0,[])))))with
      |true=>rw[cnt,Zf (by omega) (by omega),ctt]
      |false=>rw[cnf,cff]
     ·unfold ZiO
      rw[Zd (by omega)]
    ·rw[Zc (by omega),decide_eq_false q4,Xai]
   ·rw[Zc (by omega),decide_eq_false q3,Xai,Xa2]
  ·rw[Zc (by omega),decide_eq_false q2,Xai]
 ·rw[Zc (by omega),decide_eq_false q1,Xai,Xai]
theorem Zmv (m:Zr) (h:Zfo m):Zgh m=some (ZE m):=by
 have hs:=h
 obtain⟨h1,h2,h3⟩:=h
 unfold Zgh
 refine ZJ (fun s:Int×Int=>∃i:Nat,s.2=i∧i≤m.1.length∧i≤5∧s.1=ZmA (m.1.take i)∧∀j,j<i→ZdX (m.1.getD j 0)=true) (fun s=>m.1.length - s.2.toNat) (fun _=>ZE m) ?_ _ ⟨0,rfl,Nat.zero_le _,by omega,rfl,fun j hj=>by omega⟩
 rintro⟨c,s⟩ ⟨i,rfl,hi,hi5,hc,hpre⟩
 dsimp only at hc ⊢
 subst hc
 have hb:=Zxl _ (Zv1 hpre)
 rw[Xaz]at hb
 unfold Zmw
 dsimp only
 have ups:∀x:Option Bool,∀b,x=some b→(up x:Option ((Int×Int)⊕Bool))=some (.inr b):=fun x b hx=>by rw[hx];rfl
 rcases Xad i m.1.length with h5|h5
 ·rw[Zc (by omega)]
  by_cases h6:i<5
  ·rw[Zc (by omega),Zb ⟨by omega,by omega⟩,Xab]
   have bad:ZdX (m.1.getD i 0)=false→ZE m=false:=fun hq=>by
    unfold ZE
    rw[List.all_eq_false.2 ⟨_,Zz h5,by rw[hq];simp⟩,Xai,Xa2,Xa2]
   by_cases h7:m.1.getD i 0<0
   ·right
    rw[Zc h7,bad (by unfold ZdX;rw[decide_eq_false (by omega),Xai])]
   ·rw[Zd h7,Zb ⟨by omega,by omega⟩]
    by_cases h8:3<m.1.getD i 0
    ·right
     rw[Zc h8,bad (by unfold ZdX;rw[show decide (m.1.getD i 0≤3)=false from decide_eq_false (by omega),Xa2])]
    ·left
     rw[Zd h8,Zb ⟨by omega,by omega⟩,Zf (by omega) (by omega),Zf (by omega) (by omega),Zf (by omega) (by omega)]
     refine⟨_,rfl,⟨i+1,by simp,by omega,by omega,?_,fun j hj=>?_⟩,by dsimp only;omega,rfl⟩
     ·dsimp only
      rw[ZmX h5,Zyi]
      omega
     ·rcases Xad j i with h9|h9
      ·exact hpre j h9
      ·rw[show j=i by omega]
       unfold ZdX
       rw[Xae (by omega),Xae (by omega)];rfl
  ·right
   rw[Zd (by omega),ups _ _ (Zpm m _ hs)]
   unfold ZE
   rw[show decide (m.1.length≤5)=false from decide_eq_false (by omega),Xa2,Xai,Xai]
 ·right
  have:i=m.1.length:=by omega
  subst this
  have hall:m.1.all ZdX=true:=by
   have:=Zv1 hpre
   rwa [Xa5 (Nat.le_refl _)]at this
  rw[Zd (by omega),ups _ _ (Zpm m _ hs),Xa5 (Nat.le_refl _)]
  unfold ZE
  rw[hall,Xaj]
end Go.AE.Y
namespace Go.AE.Y
open Go Go.AE
theorem ZeB {m:Zr} (h:ZE m=true):1≤m.1.length∧m.1.length≤5∧m.2.length≤8:=by
 unfold ZE at h
 simp only[Xag,Xaf]at h
 exact⟨h.1.1,h.1.2,h.2.1⟩
theorem ZJi {l:List Int} {n:Int} (h:Zo9 l n=true) {i:Nat} (hi:i<l.length):0≤l.getD i 0∧l.getD i 0<n:=by
 unfold Zo9 at h
 have:=Xar.1 h i (Xay.2 hi)
 unfold ZmI at this
 simp only[Xag,Xaf]at this
 omega
end Go.AE.Y
namespace Go.AE.Y
open Go Go.AE
end Go.AE.Y
namespace Go.AE.Y
open Go Go.AE
def wtB (n:Int):Bool:=decide (-9≤n)&&decide (n≤9)
def Znc (m:Zr) (c:List Int):Bool:=decide (c.length=m.1.length)&&c.all wtB
def cellAt (m:Zr) (x:List Int) (i:Nat):Bool:=decide (0≤x.getD i 0)&&decide (x.getD i 0≤m.1.getD i 0)
def Z2 (m:Zr) (x:List Int):Bool:=decide (x.length=m.1.length)&&(List.range x.length).all (cellAt m x)
def ZcU (c x:List Int) (n:Nat):Int:=(List.range n).foldl (fun a i=>a+c.getD i 0*x.getD i 0) 0
theorem ZiS (c x:List Int) (n:Nat):ZcU c x (n+1)=ZcU c x n+c.getD n 0*x.getD n 0:=by
 unfold ZcU
 rw[Xbz,Xa6]
 rfl
theorem ZpD (m:Zr) (c:List Int) (hc:c.length≤1048576):Zht m c=some (Znc m c):=by
 unfold Zht Znc
 by_cases hl:c.length=m.1.length
 ·rw[Zx (by omega),Xae hl,Xaj]
  unfold Zc0 Zds
  obtain⟨r,hr1,hr2⟩:=Zha (f:=Zbn c) c 0 (fun x=>!wtB x) (fun i hi=>by
   unfold Zbn Zml
   rw[Zc (by omega),Zb ⟨by omega,by omega⟩,Xab,ZbR,Ze,Ze]
   unfold wtB
   cases (decide (-9≤c.getD i 0)&&decide (c.getD i 0≤9))with
   |true=>rw[cnt,Zf (by omega) (by omega),cnt]
   |false=>rw[cnf,cnf]) (by
   unfold Zbn
   rw[Zd (by omega)])
  rw[hr1,Ze,Ze,hr2,Xa3]
  simp only[XbH]
 ·rw[Zt (by omega),decide_eq_false hl,Xai]
theorem ZtY (m:Zr) (c:List Int) (h:Zfo m) (hc:c.length≤1048576):Zmz m c=some (ZE m&&Znc m c):=by
 unfold Zmz Znc
 rw[Zmv m h,Ze]
 cases hm:ZE m with
 |false=>rw[cnf,Xai]
 |true=>
  rw[cnt,Xaj]
  by_cases hl:c.length=m.1.length
  ·rw[ZdM (by omega),Xae hl,Xaj,←Zj6 c wtB 0,ZeA c.length (fun i=>wtB (c.getD i 0)) false true]
   ·cases (List.range c.length).all (fun i=>wtB (c.getD i 0))<;>rfl
   ·intro i hi _
    unfold ZlV wtB
    rw[Zc (by omega),Zb ⟨by omega,by omega⟩,Xab]
    by_cases q1:c.getD i 0 < -9
    ·rw[Zc q1,decide_eq_false (show ¬ -9≤c.getD i 0 by omega),Xai,cff]
    ·rw[Zd q1,Zb ⟨by omega,by omega⟩,Xae (show -9≤c.getD i 0 by omega),Xaj]
     by_cases q2:9<c.getD i 0
     ·rw[Zc q2,decide_eq_false (show ¬c.getD i 0≤9 by omega),cff]
     ·rw[Zd q2,Xae (show c.getD i 0≤9 by omega),Zf (by omega) (by omega),ctt]
   ·unfold ZlV
    rw[Zd (by omega)]
  ·rw[Zei (by omega),decide_eq_false hl,Xai]
theorem ZoH {c x:Int} (hc : -9≤c∧c≤9) (hx:0≤x∧x≤3) : -27≤c*x∧c*x≤27:=by
 have:x=0∨x=1∨x=2∨x=3:=by omega
 rcases this with rfl|rfl|rfl|rfl<;>omega
theorem ZBn {c x:List Int} {n:Nat} (hn:n≤5) (h:∀i,i<n → -27≤c.getD i 0*x.getD i 0∧c.getD i 0*x.getD i 0≤27) : -27*(n:Int)≤ZcU c x n∧ZcU c x n≤27*n:=by
 induction n with
 |zero=>simp[ZcU]
 |succ n ih=>
  have:=ih (by omega) (fun i hi=>h i (by omega))
  have:=h n (by omega)
  rw[ZiS]
  omega
theorem ZAF {c x:List Int} (hl:c.length=x.length) (hn:x.length≤5) (h:∀i,i<x.length → -27≤c.getD i 0*x.getD i 0∧c.getD i 0*x.getD i 0≤27):Zmn c x=some (ZcU c x x.length):=by
 unfold Zmn
 refine ZJ (fun s:Int×Int=>∃i:Nat,s.2=i∧i≤x.length∧s.1=ZcU c x i) (fun s=>x.length - s.2.toNat) (fun _=>ZcU c x x.length) ?_ _ ⟨0,rfl,Nat.zero_le _,rfl⟩
 rintro⟨a,s⟩ ⟨i,rfl,hi,ha⟩
 dsimp only at ha ⊢
 subst ha
 unfold Zpf
 dsimp only
 rcases Xad i x.length with h1|h1
 ·left
  have hb:=ZBn (c:=c) (x:=x) (n:=i) (by omega) (fun j hj=>h j (by omega))
  have hi2:=h i h1
  rw[Zc (by omega),Zb ⟨by omega,by omega⟩,Zb ⟨by omega,by omega⟩,Xab,Zf (by omega) (by omega),Zf (by omega) (by omega),Zf (by omega) (by omega)]
  exact⟨_,rfl,⟨i+1,by simp,by omega,by rw[ZiS]⟩,by dsimp only;omega,rfl⟩
 ·right
  have:i=x.length:=by omega
  subst this
  rw[Zd (by omega)]
theorem ZBi {c x:List Int} (hl:c.length=x.length) (hn:x.length≤5) (h:∀i,i<x.length → -27≤c.getD i 0*x.getD i 0∧c.getD i 0*x.getD i 0≤27):Zpt c x=some (ZcU c x x.length):=by
 unfold Zpt
 refine ZJ (fun s:Int×Int=>∃i:Nat,s.2=i∧i≤x.length∧s.1=ZcU c x i) (fun s=>x.length - s.2.toNat) (fun _=>ZcU c x x.length) ?_ _ ⟨0,rfl,Nat.zero_le _,rfl⟩
 rintro⟨a,s⟩ ⟨i,rfl,hi,ha⟩
 dsimp only at ha ⊢
 subst ha
 unfold Zpu
 dsimp only
 rcases Xad i x.length with h1|h1
 ·left
  have hb:=ZBn (c:=c) (x:=x) (n:=i) (by omega) (fun j hj=>h j (by omega))
  have hi2:=h i h1
  rw[Zc (by omega),Zb ⟨by omega,by omega⟩,Zb ⟨by omega,by omega⟩,Xab,Zf (by omega) (by omega),Zf (by omega) (by omega),Zf (by omega) (by omega)]
  exact⟨_,rfl,⟨i+1,by simp,by omega,by rw[ZiS]⟩,by dsimp only;omega,rfl⟩
 ·right
  have:i=x.length:=by omega
  subst this
  rw[Zd (by omega)]
end Go.AE.Y
namespace Go.AE.Y
open Go Go.AE
def ZMv (d:List (List Bool)):Prop:=d.length≤1048576∧∀x∈d,x.length≤1048576
theorem ZeJ {m:Zr} (hm:ZE m=true) {i:Nat} (hi:i<m.1.length):0≤m.1.getD i 0∧m.1.getD i 0≤3:=by
 unfold ZE at hm
 simp only[Xag,Xaf,Xar]at hm
 have h2:=hm.2.2.1 _ (Zz (l:=m.1) (i:=i) (d:=0) hi)
 unfold ZdX at h2
 simp only[Xag,Xaf]at h2
 omega
theorem ZcL {m:Zr} {x:List Int} (h:Z2 m x=true):x.length=m.1.length∧∀i,i<x.length→0≤x.getD i 0∧x.getD i 0≤m.1.getD i 0:=by
 unfold Z2 cellAt at h
 simp only[Xag,Xaf,Xar]at h
 exact⟨h.1,fun i hi=>h.2 i (Xay.2 hi)⟩
end Go.AE.Y
namespace Go.AE.Y
open Go Go.AE
structure RdOk (r:List Int×Int) (m:Int):Prop where
 byte:∀x∈r.1,0≤x∧x≤255
 len:r.1.length≤2000
 low:0≤r.2
 high:r.2≤m
theorem Zxm {b:List Int} (h:∀x∈b,0≤x∧x≤255) (i:Nat):0≤b.getD i 0∧b.getD i 0≤255:=by
 rcases Xad i b.length with hi|hi
 ·rw[Xaa,Xac hi]
  exact h _ (Xbt hi)
 ·rw[Xaa,Xaw hi]
  decide
theorem ZHq {n:Int} {r:List Int×Int} (h:RdOk r 1000000000) :
  ∃x,Zdi n r=some (x,(r.1,r.2+1))∧0≤x∧(1≤n→x<n)∧(n<1→x=0):=by
 obtain⟨b,p⟩:=r
 obtain⟨hb,hlen,hp1,hp2⟩:=h
 dsimp only at hb hlen hp1 hp2
 unfold Zdi
 dsimp only
 simp(disch:=omega)only[Zf]
 by_cases h1:n<1
 ·simp(disch:=omega)only[Zc]
  exact⟨0,rfl,by omega,by omega,fun _=>rfl⟩
 ·simp(disch:=omega)only[Zd]
  by_cases h2:b.length=0
  ·simp(disch:=omega)only[Zx]
   exact⟨0,rfl,by omega,by omega,fun _=>rfl⟩
  ·simp(disch:=omega)only[Zt,Zf]
   by_cases h3:p<b.length
   ·have e:p+1 - 1<(b.length:Int):=by omega
    have g:=Zxm hb (p+1 - 1).toNat
    simp(disch:=omega)only[Zc,Zb,Zf]
    exact⟨_,rfl,Int.emod_nonneg _ (by omega),fun _=>XbF _ (by omega),by omega⟩
   ·have r1:=Int.emod_nonneg (p+1 - 1) (show (b.length:Int)≠0 by omega)
    have r2:=XbF (p+1 - 1) (show (0:Int)<b.length by omega)
    have r3:=Int.emod_nonneg ((p+1 - 1)*7+3) (show (b.length:Int)≠0 by omega)
    have r4:=XbF ((p+1 - 1)*7+3) (show (0:Int)<b.length by omega)
    have r5:0≤(p+1 - 1) / (b.length:Int):=Int.ediv_nonneg (by omega) (by omega)
    have r6:(p+1 - 1) / (b.length:Int)≤p+1 - 1:=Int.ediv_le_self _ (by omega)
    have g1:=Zxm hb ((p+1 - 1) % (b.length:Int)).toNat
    have g2:=Zxm hb (((p+1 - 1)*7+3) % (b.length:Int)).toNat
    generalize hu:b.getD ((p+1 - 1) % (b.length:Int)).toNat 0=u at g1 ⊢
    generalize hv:b.getD (((p+1 - 1)*7+3) % (b.length:Int)).toNat 0=v at g2 ⊢
    generalize hq:(p+1 - 1) / (b.length:Int)=q at r5 r6 ⊢
    simp(disch:=omega)only[Zd,Zb,Zf]
    exact⟨_,rfl,Int.emod_nonneg _ (by omega),fun _=>XbF _ (by omega),by omega⟩
theorem ZMr {l:List Int} {r:List Int×Int} (h:RdOk r 1000000000) (hl:1≤l.length):∃x,Zbj l r=some (x,(r.1,r.2+1))∧x∈l:=by
 unfold Zbj
 obtain⟨x,h1,h2,h3,_⟩:=ZHq (n:=(l.length:Int)) h
 have h3:=h3 (by omega)
 rw[h1]
 simp only[XaP]
 rw[Zb ⟨h2,h3⟩]
 refine⟨_,rfl,?_⟩
 rw[Xaa,Xac (by omega)]
 exact Xbt _
theorem ZLZ {a:List Int} (h:∀x∈a,0≤x∧x≤255):∃r,Zpn a=some r∧RdOk r 0:=by
 unfold Zpn ZlK
 by_cases h1:a.length≤2000
 ·simp(disch:=omega)only[Zd]
  exact⟨_,rfl,h,h1,Xaq _,Xaq _⟩
 ·simp(disch:=omega)only[Zc,Zb]
  exact⟨_,rfl,fun x hx=>h x (List.mem_of_mem_take hx),by simp;omega,Xaq _,Xaq _⟩
end Go.AE.Y
namespace Go.AE.Y
open Go Go.AE
def small (n:Nat) (l:List Int):Prop:=l.length≤n∧∀x∈l,-13≤x∧x≤13
end Go.AE.Y
namespace Go.AE.Y
open Go Go.AE
theorem ZiZ {α:Type} (l:List α) (i j:Nat) (x d:α):(l.set i x).getD j d=if i=j∧i<l.length then x else l.getD j d:=by
 rw[Xaa,List.getElem?_set,Xaa]
 by_cases h:i=j
 ·subst h
  by_cases h2:i<l.length
  ·simp[h2]
  ·simp[h2]
 ·simp[h]
theorem ZU {α:Type} {l:List α} {i j:Nat} {x d:α} (h:i≠j):(l.set i x).getD j d=l.getD j d:=by rw[ZiZ,if_neg (by omega)]
theorem ZcM {α:Type} {l:List α} {i:Nat} {x d:α} (h:i<l.length):(l.set i x).getD i d=x:=by rw[ZiZ,if_pos ⟨rfl,h⟩]
end Go.AE.Y
namespace Go.AE.Y
open Go Go.AE
def Adv (r r':List Int×Int) (c:Int):Prop:=r'.1=r.1∧r.2≤r'.2∧r'.2≤r.2+c
theorem Adv.ok {r r':List Int×Int} {m m' c:Int} (h:RdOk r m) (a:Adv r r' c) (hm:m+c≤m'):RdOk r' m':=by
 obtain⟨a1,a2,a3⟩:=a
 have:=h.low
 have:=h.high
 exact⟨by rw[a1];exact h.byte,by rw[a1];exact h.len,by omega,by omega⟩
theorem Adv.refl (r:List Int×Int) {c:Int} (h:0≤c):Adv r r c:=⟨rfl,Xaq _,by omega⟩
theorem Adv.trans {r r' r'':List Int×Int} {c c' d:Int} (a:Adv r r' c) (b:Adv r' r'' c') (h:c+c'≤d):Adv r r'' d:=by
 obtain⟨a1,a2,a3⟩:=a
 obtain⟨b1,b2,b3⟩:=b
 exact⟨b1.trans a1,by omega,by omega⟩
theorem Zs2 {r:List Int×Int} (n:Int) (h:RdOk r 1000000000):∃x r',Zdi n r=some (x,r')∧Adv r r' 1∧0≤x∧(1≤n→x<n):=by
 obtain⟨x,h1,h2,h3,_⟩:=ZHq (n:=n) h
 exact⟨x,_,h1,⟨rfl,by (try dsimp only)<;>omega,by (try dsimp only)<;>omega⟩,h2,h3⟩
theorem Zgb {l:List Int} {r:List Int×Int} (h:RdOk r 1000000000) (hl:1≤l.length):∃x r',Zbj l r=some (x,r')∧Adv r r' 1∧x∈l:=by
 obtain⟨x,h1,h2⟩:=ZMr h hl
 exact⟨x,_,h1,⟨rfl,by (try dsimp only)<;>omega,by (try dsimp only)<;>omega⟩,h2⟩
end Go.AE.Y
namespace Go.AE.Y
open Go Go.AE
end Go.AE.Y
namespace Go.AE.Y
open Go Go.AE
theorem ZDE (a:List (Int×Int)) (h:a.length≤4000000000):ZfN a=some a:=by
 unfold ZfN
 refine ZxQ (fun hp=>by rw[hp]) ?_
 rw[Zb (by simp[Zl];omega),Xat]
theorem ZA3 (c:List (Int×Int)×Int) (h:c.1.length≤4000000000):Zeq c=some (c.2,c.1):=by
 unfold Zeq
 rw[ZDE _ h,Ze]
theorem ZJo (c:List (Int×Int)×Int) (h:c.1.length≤4000000000):Zql c=some (c.2,c.1):=by
 unfold Zql
 rw[Zb (by simp[Zl];omega),Xat]
theorem ZJs {α R:Type} {f:Int×List α→Option ((Int×List α)⊕R)} (l:List α) (d:α) (o0:List α) (fin:List α→R)
  (h:∀(i:Nat) (out:List α),i<l.length→out.length=o0.length+i→f (i,out)=some (.inl ((i:Int)+1,out++[l.getD i d]))) (hn:f (l.length,o0++l)=some (.inr (fin (o0++l)))) :
  loop f (0,o0)=some (fin (o0++l)):=by
 refine ZJ (fun s:Int×List α=>∃i:Nat,s.1=i∧i≤l.length∧s.2=o0++l.take i) (fun s=>l.length - s.1.toNat) (fun _=>fin (o0++l)) ?_ _ ⟨0,rfl,Nat.zero_le _,by simp⟩
 rintro⟨s,out⟩ ⟨i,rfl,hi,ho⟩
 dsimp only at ho ⊢
 rcases Xad i l.length with h1|h1
 ·left
  refine⟨_,h i out h1 (by rw[ho];simp;omega),⟨i+1,by simp,by omega,?_⟩,by dsimp only;omega,rfl⟩
  dsimp only
  rw[ho,List.take_succ_eq_append_getElem h1,XaK]
  congr 2
  simp[Xaa,h1]
 ·right
  have:i=l.length:=by omega
  subst this
  rw[XaA]at ho
  rw[ho,hn]
theorem ZbU {α β R:Type} {f:Int×List β→Option ((Int×List β)⊕R)} (l:List α) (d:α) (g:α→β) (o0:List β) (fin:List β→R)
  (h:∀(i:Nat) (out:List β),i<l.length→out.length=o0.length+i→f (i,out)=some (.inl ((i:Int)+1,out++[g (l.getD i d)]))) (hn:f (l.length,o0++l.map g)=some (.inr (fin (o0++l.map g)))) :
  loop f (0,o0)=some (fin (o0++l.map g)):=by
 refine ZJs (l.map g) (g d) o0 fin (fun i out hi ho=>?_) (by rw[Xak];exact hn)
 rw[Xak]at hi
 rw[h i out hi ho,Zmi l g i d (g d) hi]
end Go.AE.Y
namespace Go.AE.Y
open Go Go.AE
theorem Zeo {α:Type} {l:List α} {i:Nat} (d:α) (h:i<l.length):l.take (i+1)=l.take i++[l.getD i d]:=by
 rw[List.take_succ_eq_append_getElem h,Xaa,Xac h];rfl
end Go.AE.Y
namespace Go.AE.Y
open Go Go.AE
end Go.AE.Y
namespace Go.AE.Y
open Go Go.AE
end Go.AE.Y
namespace Go.AE.Y
open Go Go.AE
end Go.AE.Y
namespace Go.AE.Y
open Go Go.AE
end Go.AE.Y
namespace Go.AE.Y
open Go Go.AE
end Go.AE.Y
namespace Go.AE.Y
open Go Go.AE
def HdL {α:Type} (H:α→Int→Int→Prop):List α→Int→Int→Prop
 |[],k,k'=>k=k'
 |x::r,k,k'=>∃k1,H x k k1∧HdL H r k1 k'
theorem HdL.snoc {α:Type} {H:α→Int→Int→Prop} {x:α}:∀{l:List α} {k k1 k2:Int},HdL H l k k1→H x k1 k2→HdL H (l++[x]) k k2
 |[],_,_,_,h,hx=>⟨_,by rw[show _=_ from h];exact hx,rfl⟩
 |_::_,_,_,_,⟨k3,h1,h2⟩,hx=>⟨k3,h1,HdL.snoc h2 hx⟩
theorem HdL.mono {α:Type} {H:α→Int→Int→Prop} (hm:∀x k k',H x k k'→k≤k'):∀{l:List α} {k k':Int},HdL H l k k'→k≤k'
 |[],_,_,h=>by rw[show _=_ from h];exact Xaq _
 |_::_,_,_,⟨_,h1,h2⟩=>Int.le_trans (hm _ _ _ h1) (HdL.mono hm h2)
def HI (x k k':Int):Prop:=x=k∧k'=k+1
theorem HI.mono (x k k':Int) (h:HI x k k'):k≤k':=by have:=h.2;omega
def HII (x:List Int) (k k':Int):Prop:=HdL HI x k k'∧x.length≤4000000000
theorem HII.mono (x:List Int) (k k':Int) (h:HII x k k'):k≤k':=HdL.mono HI.mono h.1
def HR (r:Int×List Int×List Int×Int×List (List Int)) (k k':Int):Prop:=
 r.1=k∧∃k1 k2,HdL HI r.2.1 (k+1) k1∧HdL HI r.2.2.1 k1 k2∧r.2.2.2.1=k2∧HdL HII r.2.2.2.2 (k2+1) k'∧r.2.1.length≤4000000000∧r.2.2.1.length≤4000000000∧r.2.2.2.2.length≤4000000000
theorem HR.mono (r:Int×List Int×List Int×Int×List (List Int)) (k k':Int) (h:HR r k k'):k≤k':=by
 obtain⟨_,k1,k2,h1,h2,_,h3,_⟩:=h
 have:=HdL.mono HI.mono h1
 have:=HdL.mono HI.mono h2
 have:=HdL.mono HII.mono h3
 omega
end Go.AE.Y
namespace Go.AE.Y
open Go Go.AE
end Go.AE.Y
namespace Go.AE.Y
open Go Go.AE
def ZM (m:Zr) (i:Nat):Int:=ZmA (m.1.take i)
theorem ZfG {m:Zr} {i:Nat} (h:i<m.1.length):ZM m (i+1)=ZM m i+(m.1.getD i 0+1):=by
 unfold ZM
 rw[ZmX h,Zyi]
theorem Zgl {m:Zr} (hm:ZE m=true):∀i,i≤m.1.length→(i:Int)≤ZM m i∧ZM m i≤12:=by
 have hmono:∀i n,i+n=m.1.length→ZM m i≤ZM m m.1.length:=by
  intro i n
  induction n generalizing i with
  |zero=>intro h;rw[show i=m.1.length by omega];exact Xaq _
  |succ n ih=>
   intro h
   have h1:=ih (i+1) (by omega)
   rw[ZfG (by omega)]at h1
   have:=ZeJ hm (i:=i) (by omega)
   omega
 have hlo:∀i,i≤m.1.length→(i:Int)≤ZM m i:=by
  intro i
  induction i with
  |zero=>intro _;show ((0:Nat):Int)≤0;decide
  |succ n ih=>
   intro h
   have h1:=ih (by omega)
   rw[ZfG (by omega)]
   have:=ZeJ hm (i:=n) (by omega)
   omega
 intro i hi
 refine⟨hlo i hi,?_⟩
 have h1:=hmono i (m.1.length - i) (by omega)
 have h2:ZM m m.1.length≤12:=by
  unfold ZM
  rw[XaA]
  unfold ZE at hm
  simp only[Xag,Xaf]at hm
  exact hm.2.2.2.1
 omega
theorem ZiI {m:Zr} (hm:ZE m=true) {i k:Nat} (hi:i<m.1.length) (hk:k≤100):Zdo m i k=some (1+k+ZM m i):=by
 obtain⟨m1,m2,m3⟩:=ZeB hm
 unfold Zdo
 rw[Zf (by omega) (by omega),Zb ⟨by omega,by omega⟩]
 refine ZJ (fun s:Int×Int=>∃t:Nat,s.2=t∧t≤i∧s.1=1+k+ZM m t) (fun s=>i - s.2.toNat) (fun _=>1+k+ZM m i) ?_ _ ⟨0,rfl,Nat.zero_le _,by show (1:Int)+k=1+k+0;omega⟩
 rintro⟨v,s⟩ ⟨t,rfl,ht,rfl⟩
 dsimp only
 unfold ZjF
 dsimp only
 have hl:(m.1.take (i:Int).toNat).length=i:=by rw[Xaz];omega
 rw[hl]
 rcases Xad t i with h1|h1
 ·left
  have hg:(m.1.take (i:Int).toNat).getD (t:Int).toNat 0=m.1.getD t 0:=by
   rw[Xab,Xab,Xaa,List.getElem?_take_of_lt h1,Xaa]
  have hz:=ZeJ hm (i:=t) (by omega)
  have hb:=Zgl hm t (by omega)
  have hb':=ZfG (m:=m) (i:=t) (by omega)
  rw[hg,Zc (by omega),Zb ⟨by omega,by omega⟩,Zf (by omega) (by omega),Zf (by omega) (by omega),Zf (by omega) (by omega)]
  exact⟨_,rfl,⟨t+1,by simp,by omega,by rw[hb'];(try dsimp only)<;>omega⟩,by (try dsimp only)<;>omega,rfl⟩
 ·right
  have:t=i:=by omega
  subst this
  rw[Zd (by omega)]
theorem Zir {m:Zr} (hm:ZE m=true) {i k:Nat} (hi:i<m.1.length) (hk:k≤100):Zg5 m i k=some (1+k+ZM m i):=by
 obtain⟨m1,m2,m3⟩:=ZeB hm
 unfold Zg5
 rw[Zf (by omega) (by omega)]
 refine ZJ (fun s:Int×Int=>∃t:Nat,s.2=t∧t≤i∧s.1=1+k+ZM m t) (fun s=>i - s.2.toNat) (fun _=>1+k+ZM m i) ?_ _ ⟨0,rfl,Nat.zero_le _,by show (1:Int)+k=1+k+0;omega⟩
 rintro⟨v,s⟩ ⟨t,rfl,ht,rfl⟩
 dsimp only
 unfold Zry
 dsimp only
 rcases Xad t i with h1|h1
 ·left
  have hz:=ZeJ hm (i:=t) (by omega)
  have hb:=Zgl hm t (by omega)
  have hb':=ZfG (m:=m) (i:=t) (by omega)
  rw[Zc (by omega),Zb ⟨by omega,by omega⟩,Xab,Zf (by omega) (by omega),Zf (by omega) (by omega),Zf (by omega) (by omega)]
  exact⟨_,rfl,⟨t+1,by simp,by omega,by rw[hb'];(try dsimp only)<;>omega⟩,by (try dsimp only)<;>omega,rfl⟩
 ·right
  have:t=i:=by omega
  subst this
  rw[Zd (by omega)]
end Go.AE.Y
namespace Go.AE.Y
open Go Go.AE
def HT (x:Int×Int) (k k':Int):Prop:=x=(k,k+1)∧k'=k+2
theorem HT.mono (x:Int×Int) (k k':Int) (h:HT x k k'):k≤k':=by have:=h.2;omega
abbrev ZC:=Int×Int×Int×List (Int×Int)×Int
def ZFG (s:ZC):Prop:=s.2.2.2.1.length≤1048576
end Go.AE.Y
namespace Go.AE.Y
open Go Go.AE
set_option maxHeartbeats 400000
def ZsZ (c:Int) (b:Nat):Nat→List Int→List Int
 |0,o=>o
 |k+1,o=>(ZsZ c b k o).set (1+k+b) ((0 - c)*k)
def Zdj (m:Zr) (c:List Int):Nat→List Int
 |0=>List.replicate 13 0
 |n+1=>ZsZ (c.getD n 0) (ZM m n).toNat (m.1.getD n 0+1).toNat (Zdj m c n)
def Zpx (c:Int) (b:Nat):Nat→List (Int×Int)
 |0=>[]
 |k+1=>Zpx c b k++[((0 - c)*k,((1+k+b:Nat):Int))]
def ZnD (m:Zr) (c:List Int):Nat→List (Int×Int)
 |0=>[]
 |n+1=>ZnD m c n++Zpx (c.getD n 0) (ZM m n).toNat (m.1.getD n 0+1).toNat
def Zld (o:List Int) (t:Int×Int):List Int:=o.set t.2.toNat (o.getD t.2.toNat 0+t.1)
def ZcO (net:List Int):Nat→List (Int×Int)
 |0=>[]
 |n+1=>ZcO net n++(if 0<net.getD (n+1) 0 then[(net.getD (n+1) 0,((n+1:Nat):Int))]else if net.getD (n+1) 0<0 then[(0 - net.getD (n+1) 0,0 - ((n+1:Nat):Int))]else[])
def Zbq (net:List Int) (b:Int):Nat→Int
 |0=>b
 |n+1=>if net.getD (n+1) 0<0 then Zbq net b n - net.getD (n+1) 0 else Zbq net b n
abbrev Zm3:=Bool×Int×List (Int×Int)
def ZcV (net:List Int) (b:Int):Zm3:=bif ZD (ZcO net 12,max 0 (Zbq net b 12))then(true,max 0 (Zbq net b 12),ZcO net 12)else(false,0,[])
def Zr7 (m:Zr) (c:List Int) (most:Int):Zm3:=bif (ZE m&&Znc m c)&&(decide (-1000≤most)&&decide (most≤1000))then ZcV (Zdj m c m.1.length) (0 - most)else(false,0,[])
theorem ZvL (c:Int) (b:Nat) (o:List Int):∀k,(ZsZ c b k o).length=o.length
 |0=>rfl
 |k+1=>by unfold ZsZ;rw[Xam,ZvL]
theorem Zp2 (m:Zr) (c:List Int):∀n,(Zdj m c n).length=13
 |0=>rfl
 |n+1=>by unfold Zdj;rw[ZvL,Zp2]
theorem Zs0 {c:Int} {b:Nat} {o:List Int}:∀{k:Nat},b+k+1≤o.length→∀j,(ZsZ c b k o).getD j 0=if 1+b≤j∧j<1+b+k then(0 - c)*((j - (1+b):Nat):Int)else o.getD j 0
 |0,_,j=>by
  rw[if_neg (by omega)]
  rfl
 |k+1,h,j=>by
  have ih:=Zs0 (c:=c) (b:=b) (o:=o) (k:=k) (by omega) j
  have hl:=ZvL c b o k
  unfold ZsZ
  by_cases q:1+k+b=j
  ·rw[if_pos (by omega),←q,ZcM (by omega),show 1+k+b - (1+b)=k by omega]
  ·rw[ZU q,ih]
   by_cases q2:1+b≤j∧j<1+b+k
   ·rw[if_pos q2,if_pos (by omega)]
   ·rw[if_neg q2,if_neg (by omega)]
theorem ZfT {m:Zr} (hm:ZE m=true) {n:Nat} (hn:n<m.1.length):0≤ZM m n∧0≤m.1.getD n 0∧m.1.getD n 0≤3∧ZM m (n+1)=ZM m n+(m.1.getD n 0+1)∧ZM m (n+1)≤12:=by
 have h1:=Zgl hm n (by omega)
 have h2:=Zgl hm (n+1) (by omega)
 have h3:=ZeJ hm hn
 have h4:=ZfG (m:=m) hn
 omega
theorem Zq9 {m:Zr} {c:List Int} (hm:ZE m=true):∀n,n≤m.1.length→∀j,(j=0∨1+(ZM m n).toNat≤j)→(Zdj m c n).getD j 0=0
 |0,_,j,_=>by
  show (List.replicate 13 (0:Int)).getD j 0=0
  rw[Xaa]
  rcases Xad j 13 with h|h
  ·rw[XaO h];rfl
  ·rw[Xaw (by rw[XaG];exact h)];rfl
 |n+1,h,j,hj=>by
  obtain⟨b0,s0,s3,b1,b12⟩:=ZfT hm (show n<m.1.length by omega)
  have ih:=Zq9 (c:=c) hm n (by omega) j (by omega)
  unfold Zdj
  rw[Zs0 (by rw[Zp2];omega),if_neg (by omega),ih]
theorem ZFh {m:Zr} {c:List Int} (hm:ZE m=true):∀n,n≤m.1.length→∀i,i<n→∀k:Nat,(k:Int)≤m.1.getD i 0→(Zdj m c n).getD (1+k+(ZM m i).toNat) 0=(0 - c.getD i 0)*k
 |0,_,i,hi,_,_=>by omega
 |n+1,h,i,hi,k,hk=>by
  obtain⟨b0,s0,s3,b1,b12⟩:=ZfT hm (show n<m.1.length by omega)
  unfold Zdj
  rw[Zs0 (by rw[Zp2];omega)]
  rcases Xad i n with q|q
  ·have hmono:ZM m i+(m.1.getD i 0+1)≤ZM m n:=by
    have:∀d,i+1+d≤m.1.length→ZM m i+(m.1.getD i 0+1)≤ZM m (i+1+d):=by
     intro d
     induction d with
     |zero=>intro hd;have:=ZfT hm (show i<m.1.length by omega);show _≤ZM m (i+1);omega
     |succ d ih=>
      intro hd
      have h1:=ih (by omega)
      have h2:=ZfT hm (show i+1+d<m.1.length by omega)
      show _≤ZM m (i+1+d+1)
      omega
    have:=this (n - (i+1)) (by omega)
    rwa [show i+1+(n - (i+1))=n by omega]at this
   have hbi:=ZfT hm (show i<m.1.length by omega)
   rw[if_neg (by omega)]
   exact ZFh hm n (by omega) i q k hk
  ·have:i=n:=by omega
   subst this
   rw[if_pos (by omega),show 1+k+(ZM m i).toNat - (1+(ZM m i).toNat)=k by omega]
theorem ZJg {c:Int} {b:Nat} {o:List Int}:∀k,b+k+1≤o.length→(∀j,1+b≤j→j<1+b+k→o.getD j 0=0)→(Zpx c b k).foldl Zld o=ZsZ c b k o
 |0,_,_=>rfl
 |k+1,h,hz=>by
  unfold Zpx ZsZ
  rw[Xa6,ZJg k (by omega) (fun j h1 h2=>hz j h1 (by omega))]
  show Zld (ZsZ c b k o) _=_
  unfold Zld
  dsimp only
  rw[Xab,Zs0 (by omega),if_neg (by omega),hz _ (by omega) (by omega),XbX]
theorem ZER {m:Zr} {c:List Int} (hm:ZE m=true):∀n,n≤m.1.length→(ZnD m c n).foldl Zld (List.replicate 13 0)=Zdj m c n
 |0,_=>rfl
 |n+1,h=>by
  obtain⟨b0,s0,s3,b1,b12⟩:=ZfT hm (show n<m.1.length by omega)
  unfold ZnD Zdj
  rw[Xa6,ZER hm n (by omega),ZJg _ (by rw[Zp2];omega) (fun j h1 _=>Zq9 hm n (by omega) j (Or.inr (by omega)))]
def okT (t:Int×Int):Prop:=(-27≤t.1∧t.1≤27)∧1≤t.2∧t.2≤12
theorem Zyj {c:Int} {b:Nat} (hc : -9≤c∧c≤9):∀k,k≤4→b+k≤12→(Zpx c b k).length=k∧∀t∈Zpx c b k,okT t
 |0,_,_=>⟨rfl,fun t h=>absurd h XaB⟩
 |k+1,h,hb=>by
  obtain⟨i1,i2⟩:=Zyj (c:=c) (b:=b) hc k (by omega) (by omega)
  unfold Zpx
  refine⟨by rw[Xal,i1];rfl,fun t ht=>?_⟩
  rcases List.mem_append.1 ht with ht|ht
  ·exact i2 t ht
  ·rw[Xah]at ht
   subst ht
   have:=ZoH (c:=0 - c) (x:=(k:Int)) ⟨by omega,by omega⟩ ⟨by omega,by omega⟩
   exact⟨this,by (try dsimp only)<;>omega,by (try dsimp only)<;>omega⟩
theorem ZDi {m:Zr} {c:List Int} (hm:ZE m=true) (hc:∀i,-9≤c.getD i 0∧c.getD i 0≤9):∀n,n≤m.1.length→((ZnD m c n).length:Int)=ZM m n∧∀t∈ZnD m c n,okT t
 |0,_=>⟨rfl,fun t h=>absurd h XaB⟩
 |n+1,h=>by
  obtain⟨b0,s0,s3,b1,b12⟩:=ZfT hm (show n<m.1.length by omega)
  obtain⟨i1,i2⟩:=ZDi (c:=c) hm hc n (by omega)
  obtain⟨k1,k2⟩:=Zyj (b:=(ZM m n).toNat) (hc n) (m.1.getD n 0+1).toNat (by omega) (by omega)
  unfold ZnD
  refine⟨by rw[Xal,k1];omega,fun t ht=>?_⟩
  rcases List.mem_append.1 ht with ht|ht
  ·exact i2 t ht
  ·exact k2 t ht
theorem ZLz (l:List Int) (h:l.length=13):[(l.getD 0 0),(l.getD 1 0),(l.getD 2 0),(l.getD 3 0),(l.getD 4 0),(l.getD 5 0),(l.getD 6 0),(l.getD 7 0),(l.getD 8 0),(l.getD 9 0),(l.getD 10 0),(l.getD 11 0),(l.getD 12 0)]=l:=by
 match l,h with
 |[_,_,_,_,_,_,_,_,_,_,_,_,_],_=>rfl
theorem Zp5 (net:List Int):∀n,(ZcO net n).length≤n
 |0=>Nat.le_refl _
 |n+1=>by
  have:=Zp5 net n
  unfold ZcO
  rw[Xal]
  split
  ·rw[Xav];omega
  ·split
   ·rw[Xav];omega
   ·rw[Xao];omega
theorem ZvJ {net:List Int} {b:Int} (hn:∀j,-1000≤net.getD j 0∧net.getD j 0≤1000):∀n:Nat,b≤Zbq net b n∧Zbq net b n≤b+1000*n
 |0=>⟨Xaq _,by show b≤b+1000*((0:Nat):Int);omega⟩
 |n+1=>by
  have:=ZvJ (b:=b) hn n
  have:=hn (n+1)
  unfold Zbq
  split<;>omega
theorem Zwe (b:Int) (t:List (Int×Int)) (h:t.length≤1000):Zc9 b t=some (bif ZD (t,b)then(true,b,t)else(false,0,[])):=by
 unfold Zc9
 rw[Zbf (t,b) (by (try dsimp only)<;>omega),Ze]
 cases ZD (t,b)with
 |true=>rw[cnt,ctt]
 |false=>rw[cnf,cff]
theorem ZB1 {ts:List (Int×Int)} {b:Int} (hts:∀t∈ts,okT t) (hl:ts.length≤30) (hb : -2000≤b∧b≤2000):Zg8 ts b=some (ZcV (ts.foldl Zld (List.replicate 13 0)) b)∨(ts.foldl Zld (List.replicate 13 0)).getD 0 0≠0:=by
 by_cases h00:(ts.foldl Zld (List.replicate 13 0)).getD 0 0=0
 case neg=>exact Or.inr h00
 left
 unfold Zg8
 have hfl:∀n,n≤ts.length→((ts.take n).foldl Zld (List.replicate 13 0)).length=13∧∀j,-27*(n:Int)≤((ts.take n).foldl Zld (List.replicate 13 0)).getD j 0∧((ts.take n).foldl Zld (List.replicate 13 0)).getD j 0≤27*(n:Int):=by
  intro n
  induction n with
  |zero=>
   intro _
   rw[XaR]
   refine⟨rfl,fun j=>?_⟩
   have:(List.foldl Zld (List.replicate 13 (0:Int)) ([]:List (Int×Int))).getD j 0=0:=by
    show (List.replicate 13 (0:Int)).getD j 0=0
    rw[Xaa]
    rcases Xad j 13 with h|h
    ·rw[XaO h];rfl
    ·rw[Xaw (by rw[XaG];exact h)];rfl
   rw[this]
   omega
  |succ n ih=>
   intro hn
   obtain⟨i1,i2⟩:=ih (by omega)
   rw[Xbh,Xac (show n<ts.length by omega),Xa6]
   obtain⟨ok1,ok2⟩:=hts _ (Xbt (show n<ts.length by omega))
   generalize (ts.take n).foldl Zld (List.replicate 13 0)=o at i1 i2 ⊢
   show (Zld o ts[n]).length=13∧∀j,-27*((n+1:Nat):Int)≤(Zld o ts[n]).getD j 0∧(Zld o ts[n]).getD j 0≤27*((n+1:Nat):Int)
   unfold Zld
   refine⟨by rw[Xam];exact i1,fun j=>?_⟩
   have hj:=i2 j
   have hv:=i2 (ts[n]).2.toNat
   rw[ZiZ]
   split<;>omega
 refine ZJ (f:=Zhe ts) (fun s:Int×Int×List Int=>∃n:Nat,s.2.1=n∧n≤ts.length∧s.1=b∧s.2.2=(ts.take n).foldl Zld (List.replicate 13 0)) (fun s=>ts.length - s.2.1.toNat) (fun _=>ZcV (ts.foldl Zld (List.replicate 13 0)) b) ?_ _ ⟨0,rfl,Nat.zero_le _,rfl,rfl⟩
 rintro⟨b',s,o⟩ ⟨n,hs,hn,hb',ho⟩
 dsimp only at hs hb' ho ⊢
 subst hs
 subst hb'
 obtain⟨f1,f2⟩:=hfl n hn
 rw[←ho]at f1 f2
 unfold Zhe
 dsimp only
 rcases Xad n ts.length with h1|h1
 ·left
  obtain⟨⟨ok1,ok1'⟩,ok2,ok2'⟩:=hts _ (Zz (l:=ts) (i:=n) (d:=(0,0)) h1)
  have:=f2 (ts.getD n (0,0)).2.toNat
  rw[Zc (by omega),Zb ⟨by omega,by omega⟩,Xab,Zd (by omega),Zb ⟨rfl,⟨by omega,by omega⟩,by omega⟩,Zf (by omega) (by omega),Zb ⟨rfl,⟨by omega,by omega⟩,by omega⟩,Zf (by omega) (by omega)]
  refine⟨_,rfl,⟨n+1,by simp,by omega,rfl,?_⟩,by (try dsimp only)<;>omega,rfl⟩
  dsimp only
  rw[Xbh,Xac h1,Xa6,←ho]
  have e:ts.getD n (0,0)=ts[n]:=by rw[Xaa,Xac h1];rfl
  rw[e]
  rfl
 ·right
  have hnn:n=ts.length:=by omega
  rw[hnn,XaA]at ho
  rw[←ho]at h00 ⊢
  have hbd:∀j,-1000≤o.getD j 0∧o.getD j 0≤1000:=fun j=>by have:=f2 j;omega
  unfold ZjH
  dsimp only
  rw[Zd (by omega),Zb ⟨rfl,rfl,by omega⟩]
  have key:loop (ZfA o) (b',(0:Int),([]:List (Int×Int)))=some (ZcV o b'):=by
   refine ZJ (f:=ZfA o) (fun s:Int×Int×List (Int×Int)=>∃n:Nat,s.2.1=n∧n≤13∧s.1=Zbq o b' (n - 1)∧s.2.2=ZcO o (n - 1)) (fun s=>13 - s.2.1.toNat) (fun _=>ZcV o b') ?_ _ ⟨0,rfl,Nat.zero_le _,rfl,rfl⟩
   rintro⟨c,s,t⟩ ⟨n,hs,hn,hc,ht⟩
   dsimp only at hs hc ht ⊢
   subst hs
   subst hc
   subst ht
   have hpl:=Zp5 o (n - 1)
   have hnb:=ZvJ (b:=b') hbd (n - 1)
   unfold ZfA
   dsimp only
   rw[ZLz o f1,Xab]
   rcases Xad n 13 with h4|h4
   ·left
    have hbn:=hbd n
    rw[Zc (by omega),Zb ⟨⟨by omega,by omega⟩,by omega⟩]
    cases n with
    |zero=>
     rw[h00,Zd (by omega),Zd (by omega),Zf (by omega) (by omega)]
     exact⟨_,rfl,⟨1,rfl,by omega,rfl,rfl⟩,by (try dsimp only)<;>omega,rfl⟩
    |succ n=>
     rw[XbS]at hpl hnb ⊢
     by_cases q1:0<o.getD (n+1) 0
     ·rw[Zc q1,Zb (by simp[Zl];omega),Zf (by omega) (by omega)]
      refine⟨_,rfl,⟨n+2,by simp;omega,by omega,?_,?_⟩,by (try dsimp only)<;>omega,rfl⟩
      ·show Zbq o b' n=Zbq o b' (n+1)
       conv=>rhs;unfold Zbq
       rw[if_neg (by omega)]
      ·show _=ZcO o (n+1)
       conv=>rhs;unfold ZcO
       rw[if_pos q1]
     ·rw[Zd q1]
      by_cases q2:o.getD (n+1) 0<0
      ·unfold ZmL
       dsimp only
       rw[Zc q2,Zf (by omega) (by omega),Zf (by omega) (by omega),Zb (by simp[Zl];omega),Zf (by omega) (by omega),Zf (by omega) (by omega)]
       refine⟨_,rfl,⟨n+2,by simp;omega,by omega,?_,?_⟩,by (try dsimp only)<;>omega,rfl⟩
       ·show Zbq o b' n - _=Zbq o b' (n+1)
        conv=>rhs;unfold Zbq
        rw[if_pos q2]
       ·show _=ZcO o (n+1)
        conv=>rhs;unfold ZcO
        rw[if_neg q1,if_pos q2]
      ·rw[Zd q2,Zf (by omega) (by omega)]
       refine⟨_,rfl,⟨n+2,by simp;omega,by omega,?_,?_⟩,by (try dsimp only)<;>omega,rfl⟩
       ·show Zbq o b' n=Zbq o b' (n+1)
        conv=>rhs;unfold Zbq
        rw[if_neg q2]
       ·show _=ZcO o (n+1)
        conv=>rhs;unfold ZcO
        rw[if_neg q1,if_neg q2,Xax]
   ·right
    have h12:n - 1=12:=by omega
    rw[h12]at hpl ⊢
    have hv:Zc9 (max 0 (Zbq o b' 12)) (ZcO o 12)=some (ZcV o b'):=Zwe _ _ (by omega)
    unfold ZmK
    dsimp only
    rw[Zd (by omega),hv,Ze]
    generalize ZcV o b'=q
    rfl
  rw[key]
  generalize ZcV o b'=q
  rfl
theorem Zta {net:List Int} {b:Int} (hl:net.length=13) (hbd:∀j,-1000≤net.getD j 0∧net.getD j 0≤1000) (hb : -2000≤b∧b≤2000):Zk9 net b=some (ZcV net b):=by
 unfold Zk9
 refine ZJ (f:=ZkI net) (fun s:Int×Int×List (Int×Int)=>∃n:Nat,s.2.1=(n:Int)+1∧n≤12∧s.1=Zbq net b n∧s.2.2=ZcO net n) (fun s=>13 - s.2.1.toNat) (fun _=>ZcV net b) ?_ _ ⟨0,rfl,Nat.zero_le _,rfl,rfl⟩
 rintro⟨c,s,t⟩ ⟨n,hs,hn,hc,ht⟩
 dsimp only at hs hc ht ⊢
 subst hs
 subst hc
 subst ht
 have hpl:=Zp5 net n
 have hnb:=ZvJ (b:=b) hbd n
 have en:((n:Int)+1).toNat=n+1:=by omega
 unfold ZkI
 dsimp only
 rcases Xad n 12 with h4|h4
 ·left
  have hbn:=hbd (n+1)
  rw[Zc (by omega),Zb ⟨by omega,by omega⟩,en]
  unfold ZkH
  rw[en]
  by_cases q1:0<net.getD (n+1) 0
  ·rw[Zc q1,Zb ⟨by omega,by omega⟩,Zb (by simp[Zl];omega),Zb ⟨by omega,by omega⟩,Zd (by omega),Zf (by omega) (by omega)]
   refine⟨_,rfl,⟨n+1,by simp,by omega,?_,?_⟩,by (try dsimp only)<;>omega,rfl⟩
   ·show Zbq net b n=Zbq net b (n+1)
    conv=>rhs;unfold Zbq
    rw[if_neg (by omega)]
   ·show _=ZcO net (n+1)
    conv=>rhs;unfold ZcO
    rw[if_pos q1]
    rfl
  ·rw[Zd q1,Zb ⟨by omega,by omega⟩]
   by_cases q2:net.getD (n+1) 0<0
   ·unfold Zok
    rw[Zc q2,Zb ⟨by omega,by omega⟩,Zf (by omega) (by omega),Zf (by omega) (by omega),Zb (by simp[Zl];omega),Zb ⟨by omega,by omega⟩,en,Zf (by omega) (by omega),Zf (by omega) (by omega)]
    refine⟨_,rfl,⟨n+1,by simp,by omega,?_,?_⟩,by (try dsimp only)<;>omega,rfl⟩
    ·show Zbq net b n - _=Zbq net b (n+1)
     conv=>rhs;unfold Zbq
     rw[if_pos q2]
    ·show _=ZcO net (n+1)
     conv=>rhs;unfold ZcO
     rw[if_neg q1,if_pos q2]
     rfl
   ·rw[Zd q2,Zf (by omega) (by omega)]
    refine⟨_,rfl,⟨n+1,by simp,by omega,?_,?_⟩,by (try dsimp only)<;>omega,rfl⟩
    ·show Zbq net b n=Zbq net b (n+1)
     conv=>rhs;unfold Zbq
     rw[if_neg q2]
    ·show _=ZcO net (n+1)
     conv=>rhs;unfold ZcO
     rw[if_neg q1,if_neg q2,Xax]
 ·right
  have:n=12:=by omega
  subst this
  have fin:∀x:Int,x=max 0 (Zbq net b 12)→ZhD (ZcO net 12) x=some (ZcV net b):=fun x hx=>by
   subst hx
   unfold ZhD ZcV
   rw[Zm2 _ (by (try dsimp only)<;>omega),Ze]
   cases ZD (ZcO net 12,max 0 (Zbq net b 12))with
   |true=>rw[cnt,ctt]
   |false=>rw[cnf,cff]
  unfold Zoj
  dsimp only
  rw[Zd (by omega)]
  by_cases q:Zbq net b 12<0
  ·rw[Zc q,fin 0 (by omega)];rfl
  ·rw[Zd q,fin _ (by omega)];rfl
theorem ZAZ {m:Zr} {c:List Int} (h:Znc m c=true):c.length=m.1.length∧∀i,-9≤c.getD i 0∧c.getD i 0≤9:=by
 unfold Znc wtB at h
 simp only[Xag,Xaf,Xar]at h
 refine⟨h.1,fun i=>?_⟩
 rcases Xad i c.length with h1|h1
 ·exact h.2 _ (Zz h1)
 ·rw[Xaa,Xaw h1]
  decide
theorem ZvK {m:Zr} {c:List Int} (hm:ZE m=true) (hc:∀i,-9≤c.getD i 0∧c.getD i 0≤9):∀n,n≤m.1.length→∀j,-27≤(Zdj m c n).getD j 0∧(Zdj m c n).getD j 0≤27
 |0,_,j=>by
  have:=Zq9 (c:=c) hm 0 (by omega)
  have h0:(Zdj m c 0).getD j 0=0:=by
   rcases Xad 0 j with h|h
   ·exact this j (Or.inr (by show 1+(ZmA []).toNat≤j;exact h))
   ·exact this j (Or.inl (by omega))
  rw[h0]
  omega
 |n+1,h,j=>by
  obtain⟨b0,s0,s3,b1,b12⟩:=ZfT hm (show n<m.1.length by omega)
  have ih:=ZvK hm hc n (by omega) j
  unfold Zdj
  rw[Zs0 (by rw[Zp2];omega)]
  split
  ·have hcn:=hc n
   exact ZoH ⟨by omega,by omega⟩ ⟨by omega,by omega⟩
  ·exact ih
theorem ZsO (m:Zr) (c:List Int) (most:Int) (h:Zfo m) (hc:c.length≤1048576):ZeF m c most=some (Zr7 m c most):=by
 unfold ZeF Zr7
 rw[ZiG m h,Ze]
 cases hm:ZE m with
 |false=>rw[cnf];rfl
 |true=>
  rw[cnt,ZpD m c hc,Ze]
  cases ho:Znc m c with
  |false=>rw[cnf];rfl
  |true=>
   rw[cnt,ZbR,Ze]
   cases hq:decide (-1000≤most)&&decide (most≤1000)with
   |false=>rw[cnf];rfl
   |true=>
    rw[Xag,Xaf,Xaf]at hq
    obtain⟨m1,m2,m3⟩:=ZeB hm
    obtain⟨c1,c2⟩:=ZAZ ho
    rw[cnt,show ((true&&true)&&true)=true from rfl,ctt]
    refine ZJ (f:=ZeT m c most) (fun s:Int×List (Int×Int)=>∃n:Nat,s.1=n∧n≤m.1.length∧s.2=ZnD m c n) (fun s=>m.1.length - s.1.toNat) (fun _=>ZcV (Zdj m c m.1.length) (0 - most)) ?_ _ ⟨0,rfl,Nat.zero_le _,rfl⟩
    rintro⟨s,t⟩ ⟨n,hs,hn,ht⟩
    dsimp only at hs ht ⊢
    subst hs
    subst ht
    obtain⟨t1,t2⟩:=ZDi (c:=c) hm c2 n hn
    unfold ZeT
    dsimp only
    rcases Xad n m.1.length with h1|h1
    ·left
     obtain⟨b0,s0,s3,b1,b12⟩:=ZfT hm h1
     rw[Zc (by omega),Zb ⟨by omega,by omega⟩,Xab,Zf (by omega) (by omega)]
     refine⟨((n:Int)+1,ZnD m c (n+1)),?_,⟨n+1,by simp,by omega,rfl⟩,by (try dsimp only)<;>omega,rfl⟩
     refine ZJ (f:=ZeU m c n) (fun s:Int×List (Int×Int)=>∃k:Nat,s.1=k∧k≤(m.1.getD n 0+1).toNat∧s.2=ZnD m c n++Zpx (c.getD n 0) (ZM m n).toNat k) (fun s=>(m.1.getD n 0+1).toNat - s.1.toNat) (fun _=>.inl ((n:Int)+1,ZnD m c (n+1))) ?_ _ ⟨0,rfl,Nat.zero_le _,(Xax _).symm⟩
     rintro⟨s,t⟩ ⟨k,hs,hk,ht⟩
     dsimp only at hs ht ⊢
     subst hs
     subst ht
     have hcn:=c2 n
     obtain⟨k1,k2⟩:=Zyj (b:=(ZM m n).toNat) hcn k (by omega) (by omega)
     unfold ZeU
     dsimp only
     rw[Xab]
     rcases Xad k (m.1.getD n 0+1).toNat with h2|h2
     ·left
      have hmb:=ZoH (c:=0 - c.getD n 0) (x:=(k:Int)) ⟨by omega,by omega⟩ ⟨by omega,by omega⟩
      rw[Zc (by omega),Zb ⟨by omega,by omega⟩,Zf (by omega) (by omega),Zf (by omega) (by omega),ZiI hm h1 (by omega),Ze,Zb (by simp only[Xal,Zl,Xap,Xao];omega),Zf (by omega) (by omega)]
      refine⟨_,rfl,⟨k+1,by simp,by omega,?_⟩,by (try dsimp only)<;>omega,rfl⟩
      dsimp only
      rw[XaK]
      congr 1
      conv=>rhs;unfold Zpx
      rw[show (1+(k:Int)+ZM m n)=((1+k+(ZM m n).toNat:Nat):Int) by omega]
     ·right
      have:k=(m.1.getD n 0+1).toNat:=by omega
      rw[Zd (by omega),Zf (by omega) (by omega),this]
      rfl
    ·right
     have hnn:n=m.1.length:=by omega
     subst hnn
     have hb12:=(Zgl hm m.1.length (Nat.le_refl _)).2
     unfold Zhq
     rw[Zd (by omega),Zf (by omega) (by omega)]
     rcases ZB1 (b:=0 - most) t2 (by omega) ⟨by omega,by omega⟩with e|e
     ·rw[e,Ze,ZER hm _ (Nat.le_refl _)]
      generalize ZcV (Zdj m c m.1.length) (0 - most)=q
      rfl
     ·rw[ZER hm _ (Nat.le_refl _)]at e
      exact absurd (Zq9 hm _ (Nat.le_refl _) 0 (Or.inl rfl)) e
theorem Zs8 (m:Zr) (c:List Int) (most:Int) (h:Zfo m) (hc:c.length≤1048576):Zgf m c most=some (Zr7 m c most):=by
 unfold Zgf Zr7
 rw[ZtY m c h hc,Ze]
 cases hmo:ZE m&&Znc m c with
 |false=>rw[cnf,Xai,cff]
 |true=>
  rw[Xag]at hmo
  obtain⟨hm,ho⟩:=hmo
  rw[cnt,Xaj]
  by_cases q1 : -1000≤most
  case neg=>rw[Zc (by omega),decide_eq_false q1,Xai,cff]
  rw[Zd (by omega),Xae q1,Xaj]
  by_cases q2:most≤1000
  case neg=>rw[Zc (by omega),decide_eq_false q2,cff]
  rw[Zd (by omega),Xae q2,ctt,Zb ⟨by omega,by simp only[Zl];omega,rfl⟩]
  obtain⟨m1,m2,m3⟩:=ZeB hm
  obtain⟨c1,c2⟩:=ZAZ ho
  refine ZJ (f:=Ze4 m c most) (fun s:Int×List Int=>∃n:Nat,s.1=n∧n≤m.1.length∧s.2=Zdj m c n) (fun s=>m.1.length - s.1.toNat) (fun _=>ZcV (Zdj m c m.1.length) (0 - most)) ?_ _ ⟨0,rfl,Nat.zero_le _,rfl⟩
  rintro⟨s,t⟩ ⟨n,hs,hn,ht⟩
  dsimp only at hs ht ⊢
  subst hs
  subst ht
  have hnl:=Zp2 m c n
  unfold Ze4
  dsimp only
  rcases Xad n m.1.length with h1|h1
  ·left
   obtain⟨b0,s0,s3,b1,b12⟩:=ZfT hm h1
   rw[Zc (by omega)]
   refine⟨((n:Int)+1,Zdj m c (n+1)),?_,⟨n+1,by simp,by omega,rfl⟩,by (try dsimp only)<;>omega,rfl⟩
   refine ZJ (f:=Ze5 m c n) (fun s:Int×List Int=>∃k:Nat,s.1=k∧k≤(m.1.getD n 0+1).toNat∧s.2=ZsZ (c.getD n 0) (ZM m n).toNat k (Zdj m c n)) (fun s=>(m.1.getD n 0+1).toNat - s.1.toNat) (fun _=>.inl ((n:Int)+1,Zdj m c (n+1))) ?_ _ ⟨0,rfl,Nat.zero_le _,rfl⟩
   rintro⟨s,t⟩ ⟨k,hs,hk,ht⟩
   dsimp only at hs ht ⊢
   subst hs
   subst ht
   have hcn:=c2 n
   have hkl:=ZvL (c.getD n 0) (ZM m n).toNat (Zdj m c n) k
   unfold Ze5
   dsimp only
   rw[Zb ⟨by omega,by omega⟩,Xab]
   rcases Xad k (m.1.getD n 0+1).toNat with h2|h2
   ·left
    have hmb:=ZoH (c:=0 - c.getD n 0) (x:=(k:Int)) ⟨by omega,by omega⟩ ⟨by omega,by omega⟩
    rw[Zc (by omega),Zb ⟨by omega,by omega⟩,Zf (by omega) (by omega),Zf (by omega) (by omega),Zir hm h1 (by omega),Ze,Zb ⟨by omega,by omega⟩,Zf (by omega) (by omega)]
    refine⟨_,rfl,⟨k+1,by simp,by omega,?_⟩,by (try dsimp only)<;>omega,rfl⟩
    dsimp only
    conv=>rhs;unfold ZsZ
    rw[show (1+(k:Int)+ZM m n).toNat=1+k+(ZM m n).toNat by omega]
   ·right
    have:k=(m.1.getD n 0+1).toNat:=by omega
    rw[Zd (by omega),Zf (by omega) (by omega),this]
    rfl
  ·right
   have hnn:n=m.1.length:=by omega
   subst hnn
   unfold ZhB
   rw[Zd (by omega),Zf (by omega) (by omega),Zta hnl (fun j=>by have:=ZvK hm c2 m.1.length (Nat.le_refl _) j;omega) ⟨by omega,by omega⟩,Ze]
   generalize ZcV (Zdj m c m.1.length) (0 - most)=q
   rfl
end Go.AE.Y
namespace Go.AE.Y
open Go Go.AE
theorem RdOk.wk {r:List Int×Int} {m m':Int} (h:RdOk r m) (hm:m≤m'):RdOk r m':=⟨h.byte,h.len,h.low,by have:=h.high;omega⟩
theorem ZrM {r:List Int×Int} {l:List Int} (h:RdOk r 1000000000):∃r' l',ZdQ r l=some (r',l')∧Adv r r' 1∧l'.length=l.length:=by
 unfold ZdQ
 by_cases h1:(1:Int)<l.length
 ·obtain⟨x,r1,e1,a1,_⟩:=Zs2 3 h
  rw[Zc h1,e1,Ze]
  dsimp only
  cases (x==0)with
  |true=>
   rw[ctt,Zb ⟨by omega,by omega⟩,Zb ⟨by omega,by omega⟩,Zb ⟨by omega,by omega⟩,Zb ⟨by omega,by rw[Xam];omega⟩]
   exact⟨_,_,rfl,a1,by rw[Xam,Xam]⟩
  |false=>
   rw[cff]
   exact⟨_,_,rfl,a1,rfl⟩
 ·rw[Zd h1]
  exact⟨_,_,rfl,Adv.refl r (by omega),rfl⟩
theorem ZwQ {r:List Int×Int} {a2:Int} (h:RdOk r 1000000000) (ha:1≤a2∧a2≤6) {f:Int×List Int→Option ((Int×List Int)⊕((List Int×Int)×List Int))} (hf:f=Zlw a2 r∨f=Zlx a2 r) :
  ∃o,loop f ((0:Int),[])=some o∧(Adv r o.1 1∧a2≤o.2.length∧o.2.length≤6):=by
 refine Zb4 (f:=f) (fun s=>0≤s.1∧s.1≤a2∧(s.2.length:Int)=s.1) (fun s=>(a2 - s.1).toNat) (fun o=>Adv r o.1 1∧a2≤o.2.length∧o.2.length≤6) ?_ _ ⟨Xaq _,by (try dsimp only)<;>omega,rfl⟩
 rintro⟨i,l⟩ ⟨g1,g2,g3⟩
 dsimp only at g1 g2 g3 ⊢
 have e:f (i,l)=cond (decide (i<a2)) (rq (l.length+[i].length≤Zl) <|rq (i64 (i+1)) <|some (.inl (i+1,l++[i]))) (up (ZdQ r l)):=by
  rcases hf with rfl|rfl<;>rfl
 rw[e]
 by_cases h1:i<a2
 ·left
  rw[Zc h1,Zb (by simp[Zl];omega),Zf (by omega) (by omega)]
  exact⟨_,rfl,⟨by (try dsimp only)<;>omega,by (try dsimp only)<;>omega,by simp;omega⟩,by (try dsimp only)<;>omega⟩
 ·right
  obtain⟨r',l',e1,a1,m1⟩:=ZrM (l:=l) h
  rw[Zd h1,e1]
  exact⟨_,rfl,a1,by (try dsimp only)<;>omega,by (try dsimp only)<;>omega⟩
theorem ZrL {r:List Int×Int} {a2:Int} {l:List Int} (h:RdOk r 1000000000) (ha:1≤a2∧a2≤6) (hl:l.length≤6) :
  ∃o,Zfq a2 r l=some o∧(Adv r o.1 1∧a2≤o.2.length∧o.2.length≤6):=by
 unfold Zfq
 by_cases h1:(l.length:Int)<a2
 ·rw[Zc h1]
  exact ZwQ h ha (Or.inl rfl)
 ·rw[Zd h1,Zt (by omega)]
  obtain⟨r',l',e1,a1,m1⟩:=ZrM (l:=l) h
  exact⟨_,e1,a1,by (try dsimp only)<;>omega,by (try dsimp only)<;>omega⟩
theorem ZuR {r:List Int×Int} {a2:Int} {o1:List Int} (o2:List ZG) (h:RdOk r 900000000) (ha:1≤a2∧a2≤6) (ho:o1.length≤6) :
  ∃r' l,ZhE a2 r o1 o2=some (r',l)∧Adv r r' 7∧a2≤l.length∧l.length≤6:=by
 unfold ZhE
 have key:=Zb4 (f:=Zh6 a2 o1) (fun s=>0≤s.1∧s.1≤o1.length∧Adv r s.2.1 s.1∧(s.2.2.length:Int)≤s.1) (fun s=>(o1.length - s.1).toNat)
  (fun o=>Adv r o.1 7∧a2≤o.2.length∧o.2.length≤6) ?_ ((0:Int),r,[]) ⟨Xaq _,by (try dsimp only)<;>omega,Adv.refl r (Xaq _),by simp⟩
 ·obtain⟨⟨r',l⟩,q1,q2⟩:=key
  exact⟨r',l,q1,q2⟩
 rintro⟨i,q,l⟩ ⟨g1,g2,g3,g4⟩
 dsimp only at g1 g2 g3 g4 ⊢
 have hq:RdOk q 900000006:=g3.ok h (by omega)
 unfold Zh6
 dsimp only
 by_cases h1:i<o1.length
 ·left
  obtain⟨x,q1,e1,a1,_⟩:=Zs2 3 (hq.wk (by omega))
  rw[Zc h1,e1,Ze]
  dsimp only
  by_cases h2:0<x
  ·rw[Zc h2,Zb (by simp[Zl];omega),Zf (by omega) (by omega)]
   exact⟨_,rfl,⟨by (try dsimp only)<;>omega,by (try dsimp only)<;>omega,g3.trans a1 (Xaq _),by simp;omega⟩,by (try dsimp only)<;>omega⟩
  ·rw[Zd h2,Zf (by omega) (by omega)]
   exact⟨_,rfl,⟨by (try dsimp only)<;>omega,by (try dsimp only)<;>omega,g3.trans a1 (Xaq _),by (try dsimp only)<;>omega⟩,by (try dsimp only)<;>omega⟩
 ·right
  rw[Zd h1]
  have key2:∃o,Zh4 a2 o1 (q,l)=some o∧(Adv q o.1 1∧a2≤o.2.length∧o.2.length≤6):=by
   unfold Zh4
   refine Zb4 (f:=Zh5 a2 o1 q) (fun s=>0≤s.1∧s.1≤o1.length∧s.2.length≤6) (fun s=>(o1.length - s.1).toNat) _ ?_ ((0:Int),l) ⟨Xaq _,by (try dsimp only)<;>omega,by (try dsimp only)<;>omega⟩
   rintro⟨j,l⟩ ⟨k1,k2,k3⟩
   dsimp only at k1 k2 k3 ⊢
   unfold Zh5
   dsimp only
   by_cases h2:(l.length:Int)<a2
   ·rw[Zc h2]
    by_cases h3:j<o1.length
    ·left
     rw[Zc h3]
     by_cases h4:(l.length:Int)=0
     ·rw[Zx h4,Zb (by simp[Zl];omega),Zf (by omega) (by omega)]
      exact⟨_,rfl,⟨by (try dsimp only)<;>omega,by (try dsimp only)<;>omega,by simp;omega⟩,by (try dsimp only)<;>omega⟩
     ·rw[Zt h4,Zf (by omega) (by omega),Zb ⟨by omega,by omega⟩]
      by_cases h5:l.getD ((l.length:Int) - 1).toNat 0<j
      ·rw[Zc h5,Zb (by simp[Zl];omega),Zf (by omega) (by omega)]
       exact⟨_,rfl,⟨by (try dsimp only)<;>omega,by (try dsimp only)<;>omega,by simp;omega⟩,by (try dsimp only)<;>omega⟩
      ·rw[Zd h5,Zf (by omega) (by omega)]
       exact⟨_,rfl,⟨by (try dsimp only)<;>omega,by (try dsimp only)<;>omega,k3⟩,by (try dsimp only)<;>omega⟩
    ·right
     obtain⟨o,e1,q1⟩:=ZrL (hq.wk (show (900000006:Int)≤1000000000 by omega)) ha k3
     rw[Zd h3,e1]
     exact⟨o,rfl,q1⟩
   ·right
    obtain⟨o,e1,q1⟩:=ZrL (hq.wk (show (900000006:Int)≤1000000000 by omega)) ha k3
    rw[Zd h2,e1]
    exact⟨o,rfl,q1⟩
  obtain⟨o,e1,q1,q2⟩:=key2
  rw[e1]
  exact⟨o,rfl,g3.trans q1 (by omega),q2⟩
def okR (r:ZG):Prop:=r.2.1.length≤8∧r.2.2.1.length≤8∧r.2.2.2.2.length≤8∧∀x∈r.2.2.2.2,x.length≤8
def okM (m:Zr):Prop:=m.1.length≤8∧m.2.length≤8∧∀r∈m.2,okR r
theorem okM.small {m:Zr} (h:okM m):Zfo m:=
 ⟨by have:=h.1;omega,by have:=h.2.1;omega,fun r hr=>⟨by have:=(h.2.2 r hr).1;omega,by have:=(h.2.2 r hr).2.1;omega,by have:=(h.2.2 r hr).2.2.1;omega,fun x hx=>by have:=(h.2.2 r hr).2.2.2 x hx;omega⟩⟩
theorem ZCn {r:List Int×Int} {o1:List Int} (o2:List ZG) (h:RdOk r 800000000) (ho:o1.length≤6) :
  ∃r' a b c d e,ZkL r o1 o2=some (r',a,b,c,d,e)∧Adv r r' 200∧c.length≤6∧d.length≤6∧e.length≤8∧∀x∈e,x.length≤6:=by
 unfold ZkL
 obtain⟨k,r1,e1,a1,_⟩:=Zgb (l:=[1,2,3,4,1]) (h.wk (by omega)) (by decide)
 have h1:RdOk r1 800000001:=a1.ok h (by omega)
 obtain⟨r2,l,e2,a2,m1,m2⟩:=ZuR (a2:=1) o2 (h1.wk (by omega)) (by omega) ho
 have h2:RdOk r2 800000008:=a2.ok h1 (by omega)
 rw[e1,Ze]
 dsimp only
 rw[e2,Ze]
 dsimp only
 cases (k==1)with
 |true=>
  rw[ctt]
  have key:=Zb4 (f:=Zh1 (k,r1) (r2,l)) (fun s=>0≤s.1∧s.1≤l.length∧Adv r2 s.2.1 s.1∧(s.2.2.length:Int)≤s.1) (fun s=>(l.length - s.1).toNat)
   (fun o=>Adv r2 o.1 7∧o.2.2.2.1.length≤6∧o.2.2.2.2.1.length≤6∧o.2.2.2.2.2=[]) ?_ ((0:Int),r2,[]) ⟨Xaq _,by (try dsimp only)<;>omega,Adv.refl r2 (Xaq _),by simp⟩
  ·obtain⟨⟨r',a,b,c,d,e⟩,q1,q2,q3,q4,q5⟩:=key
   dsimp only at q2 q3 q4 q5
   subst q5
   exact⟨r',a,b,c,d,[],q1,(a1.trans a2 (Xaq _)).trans q2 (by omega),q3,q4,by simp,by simp⟩
  rintro⟨i,q,c⟩ ⟨g1,g2,g3,g4⟩
  dsimp only at g1 g2 g3 g4 ⊢
  have hq:RdOk q 800000014:=g3.ok h2 (by omega)
  unfold Zh1
  dsimp only
  by_cases h3:i<l.length
  ·left
   obtain⟨x,q1,e3,a3,_⟩:=Zgb (l:=[1,-1,2,1,-2,3]) (hq.wk (by omega)) (by decide)
   rw[Zc h3,e3,Ze,Zb (by simp[Zl];omega),Zf (by omega) (by omega)]
   exact⟨_,rfl,⟨by (try dsimp only)<;>omega,by (try dsimp only)<;>omega,g3.trans a3 (Xaq _),by simp;omega⟩,by (try dsimp only)<;>omega⟩
  ·right
   obtain⟨x,q1,e3,a3,_⟩:=Zgb (l:=[1,2,0,-1,3,-3,4]) (hq.wk (by omega)) (by decide)
   rw[Zd h3]
   unfold Zlu
   dsimp only
   rw[e3,Ze]
   exact⟨_,rfl,g3.trans a3 (by omega),m2,by (try dsimp only)<;>omega,rfl⟩
 |false=>
  rw[cff]
  cases (k==3)with
  |true=>
   rw[ctt]
   obtain⟨n,r3,e3,a3,m3⟩:=Zgb (l:=[3,4,2,6,0,8]) (h2.wk (by omega)) (by decide)
   have hn:0≤n∧n≤8:=by simp only[XaC,XaB,or_false]at m3;omega
   rw[e3,Ze]
   dsimp only
   have key:=Zb4 (f:=Zh2 (k,r1) (r2,l)) (fun s=>0≤s.1∧s.1≤n∧Adv r2 s.2.1 (1+6*(n - s.1))∧(s.2.2.length:Int)≤n - s.1∧∀x∈s.2.2,x.length≤6) (fun s=>s.1.toNat)
    (fun o=>Adv r2 o.1 50∧o.2.2.2.1.length≤6∧o.2.2.2.2.1=[]∧o.2.2.2.2.2.length≤8∧∀x∈o.2.2.2.2.2,x.length≤6) ?_ (n,r3,[]) ⟨by (try dsimp only)<;>omega,by (try dsimp only)<;>omega,Adv.trans a3 (Adv.refl r3 (c:=0) (by omega)) (by (try dsimp only)<;>omega),by simp,by simp⟩
   ·obtain⟨⟨r',a,b,c,d,e⟩,q1,q2,q3,q4,q5,q6⟩:=key
    dsimp only at q2 q3 q4 q5 q6
    subst q4
    exact⟨r',a,b,c,[],e,q1,(a1.trans a2 (Xaq _)).trans q2 (by omega),q3,by simp,q5,q6⟩
   rintro⟨i,q,e⟩ ⟨g1,g2,g3,g4,g5⟩
   dsimp only at g1 g2 g3 g4 g5 ⊢
   have hq:RdOk q 800000057:=g3.ok h2 (by omega)
   unfold Zh2
   dsimp only
   by_cases h3:0<i
   ·left
    rw[Zc h3]
    obtain⟨o,w1,o',w2,w3⟩:=Zb4 (f:=Zh3 (r2,l) i e) (fun s=>0≤s.1∧s.1≤l.length∧Adv q s.2.1 s.1∧(s.2.2.length:Int)≤s.1) (fun s=>(l.length - s.1).toNat)
     (fun o=>∃o':Int×(List Int×Int)×List (List Int),o = .inl o'∧(o'.1=i - 1∧Adv q o'.2.1 6∧∃x:List Int,o'.2.2=e++[x]∧x.length≤6)) (by
      rintro⟨j,p,v⟩ ⟨k1,k2,k3,k4⟩
      dsimp only at k1 k2 k3 k4 ⊢
      have hp:RdOk p 800000064:=k3.ok hq (by omega)
      unfold Zh3
      dsimp only
      by_cases h4:j<l.length
      ·left
       obtain⟨x,p1,e4,a4,_⟩:=Zs2 4 (hp.wk (by omega))
       rw[Zc h4,e4,Ze,Zb (by simp[Zl];omega),Zf (by omega) (by omega)]
       exact⟨_,rfl,⟨by (try dsimp only)<;>omega,by (try dsimp only)<;>omega,k3.trans a4 (Xaq _),by simp;omega⟩,by (try dsimp only)<;>omega⟩
      ·right
       rw[Zd h4]
       unfold Zlv
       dsimp only
       rw[Zb (by simp[Zl];omega),Zf (by omega) (by omega)]
       exact⟨_,rfl,_,rfl,rfl,k3.trans (Adv.refl p (c:=0) (by omega)) (by omega),v,rfl,by (try dsimp only)<;>omega⟩) ((0:Int),q,[]) ⟨Xaq _,by (try dsimp only)<;>omega,Adv.refl q (Xaq _),by simp⟩
    subst w2
    obtain⟨i',q',e'⟩:=o'
    obtain⟨y1,y2,x,y3,y4⟩:=w3
    dsimp only at y1 y2 y3
    subst y1 y3
    refine⟨_,w1,⟨by (try dsimp only)<;>omega,by (try dsimp only)<;>omega,g3.trans y2 (by (try dsimp only)<;>omega),by simp;omega,fun z hz=>?_⟩,by (try dsimp only)<;>omega⟩
    rcases List.mem_append.1 hz with hz|hz
    ·exact g5 z hz
    ·rw[Xah.1 hz];exact y4
   ·right
    rw[Zd h3]
    exact⟨_,rfl,g3.trans (Adv.refl q (c:=0) (by omega)) (by omega),m2,rfl,by (try dsimp only)<;>omega,g5⟩
  |false=>
   rw[cff]
   cases (k==4)with
   |true=>
    rw[ctt]
    obtain⟨r3,l3,e3,a3,m3,m4⟩:=ZuR (a2:=2) o2 (h2.wk (by omega)) (by omega) ho
    rw[e3,Ze,Zb ⟨by omega,by (try dsimp only)<;>omega⟩]
    exact⟨_,_,_,_,_,_,rfl,(a1.trans a2 (Xaq _)).trans a3 (by omega),by simp;omega,by simp,by simp,by simp⟩
   |false=>
    rw[cff]
    exact⟨_,_,_,_,_,_,rfl,a1.trans a2 (by omega),m2,by simp,by simp,by simp⟩
theorem ZLn {l:List Int} (h:∀x∈l,0≤x∧x≤3) {i:Nat} (hi:i<l.length):0≤l.getD i 0∧l.getD i 0≤3:=h _ (Zz hi)
theorem Zye {r:List Int×Int} {l:List Int} (h:RdOk r 700000100) (hl:l.length≤6):∃o,ZlQ r l=some o∧(Adv r o.1 1001∧o.2.1=l∧o.2.2.length≤4∧∀r∈o.2.2,okR r):=by
 unfold ZlQ
 obtain⟨n,r1,e1,a1,m1⟩:=Zgb (l:=[2,3,1,4,0]) (h.wk (by omega)) (by decide)
 have hn:0≤n∧n≤4:=by simp only[XaC,XaB,or_false]at m1;omega
 rw[e1,Ze]
 dsimp only
 refine Zb4 (f:=ZlR l) (fun s=>0≤s.1∧s.1≤n∧Adv r s.2.1 (1+200*(n - s.1))∧(s.2.2.length:Int)≤n - s.1∧∀r∈s.2.2,okR r) (fun s=>s.1.toNat) _ ?_ (n,r1,[]) ⟨by (try dsimp only)<;>omega,by (try dsimp only)<;>omega,Adv.trans a1 (Adv.refl r1 (c:=0) (by omega)) (by (try dsimp only)<;>omega),by simp,by simp⟩
 rintro⟨i,q,e⟩ ⟨g1,g2,g3,g4,g5⟩
 dsimp only at g1 g2 g3 g4 g5 ⊢
 have hq:RdOk q 700001101:=g3.ok h (by omega)
 unfold ZlR
 dsimp only
 by_cases h3:0<i
 ·left
  obtain⟨q1,a,b,c,d,t,e2,a2,m2,m3,m4,m5⟩:=ZCn (o1:=l) e (hq.wk (by omega)) hl
  rw[Zc h3,e2,Ze]
  dsimp only
  rw[Zb (by simp[Zl];omega),Zf (by omega) (by omega)]
  refine⟨_,rfl,⟨by (try dsimp only)<;>omega,by (try dsimp only)<;>omega,g3.trans a2 (by (try dsimp only)<;>omega),by simp;omega,fun z hz=>?_⟩,by (try dsimp only)<;>omega⟩
  rcases List.mem_append.1 hz with hz|hz
  ·exact g5 z hz
  ·rw[Xah.1 hz]
   exact⟨by (try dsimp only)<;>omega,by (try dsimp only)<;>omega,by (try dsimp only)<;>omega,fun x hx=>by have:=m5 x hx;omega⟩
 ·right
  rw[Zd h3]
  exact⟨_,rfl,g3.trans (Adv.refl q (c:=0) (by omega)) (by omega),rfl,by (try dsimp only)<;>omega,g5⟩
theorem Zyf {l:List Int} (h:∀x∈l,0≤x∧x≤3) (h2:2≤l.length) (h4:l.length≤4) :
  loop (Zgi l) ((0:Int),(0:Int))=some (.inl ((0:Int),l.take (l.length - 1)))∧4≤l.length∨∃n,loop (Zgi l) ((0:Int),(0:Int))=some (.inl (n,l))∧n≠0:=by
 have key:=Zb4 (f:=Zgi l) (fun s=>∃i:Nat,s.2=i∧i≤l.length∧(i:Int)≤s.1∧s.1≤4*i) (fun s=>l.length - s.2.toNat)
  (fun o=>o = .inl ((0:Int),l.take (l.length - 1))∧4≤l.length∨∃n,o = .inl (n,l)∧n≠0) ?_ ((0:Int),(0:Int)) ⟨0,rfl,Nat.zero_le _,Xaq _,Xaq _⟩
 ·obtain⟨o,q1,⟨rfl,q2⟩|⟨n,rfl,q2⟩⟩:=key
  ·exact Or.inl ⟨q1,q2⟩
  ·exact Or.inr ⟨n,q1,q2⟩
 rintro⟨a,s⟩ ⟨i,rfl,hi,g1,g2⟩
 dsimp only at g1 g2 ⊢
 unfold Zgi
 dsimp only
 rcases Xad i l.length with h1|h1
 ·left
  have:=ZLn h h1
  rw[Zc (by omega),Zb ⟨by omega,by omega⟩,Xab,Zf (by omega) (by omega),Zf (by omega) (by omega),Zf (by omega) (by omega)]
  exact⟨_,rfl,⟨i+1,by simp,by omega,by (try dsimp only)<;>omega,by (try dsimp only)<;>omega⟩,by (try dsimp only)<;>omega⟩
 ·right
  have:i=l.length:=by omega
  subst this
  rw[Zd (by omega)]
  by_cases h5:12<a
  ·rw[Zc h5,Zf (by omega) (by omega),Zb ⟨by omega,by omega⟩]
   exact⟨_,rfl,Or.inl ⟨by rw[show ((l.length:Int) - 1).toNat=l.length - 1 by omega],by omega⟩⟩
  ·rw[Zd h5]
   exact⟨_,rfl,Or.inr ⟨a,rfl,by omega⟩⟩
theorem ZBf {r:List Int×Int} (h:RdOk r 700000000):∃r' m,Zpr r=some (r',m)∧Adv r r' 1100∧m.1.length≤4∧m.2.length≤4∧∀r∈m.2,okR r:=by
 unfold Zpr
 obtain⟨n,r1,e1,a1,m1⟩:=Zgb (l:=[3,2,4,3]) (h.wk (by omega)) (by decide)
 have hn:2≤n∧n≤4:=by simp only[XaC,XaB,or_false]at m1;omega
 rw[e1,Ze]
 dsimp only
 have key:=Zb4 (f:=ZlT) (fun s=>0≤s.1∧s.1≤n∧Adv r s.2.1 (1+(n - s.1))∧(s.2.2.length:Int)=n - s.1∧∀x∈s.2.2,0≤x∧x≤3) (fun s=>s.1.toNat)
  (fun o=>Adv r o.1 1100∧o.2.1.length≤4∧o.2.2.length≤4∧∀r∈o.2.2,okR r) ?_ (n,r1,[]) ⟨by (try dsimp only)<;>omega,by (try dsimp only)<;>omega,Adv.trans a1 (Adv.refl r1 (c:=0) (by omega)) (by (try dsimp only)<;>omega),by simp,by simp⟩
 ·obtain⟨⟨r',m⟩,q1,q2⟩:=key
  exact⟨r',m,q1,q2⟩
 rintro⟨i,q,l⟩ ⟨g1,g2,g3,g4,g5⟩
 dsimp only at g1 g2 g3 g4 g5 ⊢
 have hq:RdOk q 700000005:=g3.ok h (by omega)
 unfold ZlT
 dsimp only
 by_cases h3:0<i
 ·left
  obtain⟨x,q1,e2,a2,m2⟩:=Zgb (l:=[2,1,3,2,0]) (hq.wk (by omega)) (by decide)
  have hx:0≤x∧x≤3:=by simp only[XaC,XaB,or_false]at m2;omega
  rw[Zc h3,e2,Ze,Zb (by simp[Zl];omega),Zf (by omega) (by omega)]
  refine⟨_,rfl,⟨by (try dsimp only)<;>omega,by (try dsimp only)<;>omega,g3.trans a2 (by (try dsimp only)<;>omega),by simp;omega,fun z hz=>?_⟩,by (try dsimp only)<;>omega⟩
  rcases List.mem_append.1 hz with hz|hz
  ·exact g5 z hz
  ·rw[Xah.1 hz];exact hx
 ·right
  rw[Zd h3]
  have key2:∃o,ZlP (q,l)=some o∧(Adv q o.1 1001∧o.2.1.length≤4∧o.2.2.length≤4∧∀r∈o.2.2,okR r):=by
   unfold ZlP
   refine Zb4 (f:=ZlS q) (fun s=>(s.1=0∧2≤s.2.length∨s.1≠0)∧s.2.length≤4∧∀x∈s.2,0≤x∧x≤3) (fun s=>if s.1=0 then 1+s.2.length else 0) _ ?_ ((0:Int),l) ⟨Or.inl ⟨rfl,by (try dsimp only)<;>omega⟩,by (try dsimp only)<;>omega,g5⟩
   rintro⟨a,l⟩ ⟨k1,k2,k3⟩
   dsimp only at k1 k2 k3 ⊢
   unfold ZlS
   dsimp only
   by_cases h4:a=0
   ·left
    subst h4
    rw[Zx rfl]
    have k1:2≤l.length:=by rcases k1 with k1|k1<;>omega
    rcases Zyf k3 k1 k2 with⟨w1,w2⟩|⟨n',w1,w2⟩
    ·rw[w1]
     refine⟨_,rfl,⟨Or.inl ⟨rfl,by (try dsimp only)<;>(rw[Xaz];omega)⟩,by (try dsimp only)<;>(rw[Xaz];omega),fun x hx=>k3 x (List.mem_of_mem_take hx)⟩,?_⟩
     dsimp only
     rw[if_pos rfl,if_pos rfl,Xaz]
     omega
    ·rw[w1]
     refine⟨_,rfl,⟨Or.inr w2,k2,k3⟩,?_⟩
     dsimp only
     rw[if_neg w2,if_pos rfl]
     omega
   ·right
    rw[Zt h4]
    obtain⟨o,w1,w2,w3,w4⟩:=Zye (l:=l) (hq.wk (show (700000005:Int)≤700000100 by omega)) (by omega)
    rw[w1]
    exact⟨_,rfl,w2,by rw[w3];omega,w4⟩
  obtain⟨o,w1,w2,w3⟩:=key2
  rw[w1]
  exact⟨_,rfl,g3.trans w2 (by omega),w3⟩
theorem Zpw {α:Type} {l:List α} {i:Nat} (d:α) (h:i<l.length):l.take (i+1)=l.take i++[l.getD i d]:=by
 rw[Xbh,Xac h,Xaa,Xac h]
 rfl
theorem ZCm (m:Zr) (h:Zfo m):Zqm m=some m:=by
 have hb:∀{n:Nat},n≤1048576→n+1≤Zl:=fun h=>by simp only[Zl];omega
 have hb':∀{n:Nat},n≤1048576→0+n≤Zl:=fun h=>by simp only[Zl];omega
 unfold Zqm
 change rq _ (loop _ _)=_
 rw[Zb (by simp only[Xao];exact hb' h.1)]
 have hh:m.2.length≤1048576:=h.2.1
 refine ZJ (fun s:Int×List ZG=>∃i:Nat,s.1=i∧i≤m.2.length∧s.2=m.2.take i) (fun s=>m.2.length - s.1.toNat) (fun _=>m) ?_ _ ⟨0,rfl,Nat.zero_le _,rfl⟩
 rintro⟨a,out⟩ ⟨i,rfl,hi,rfl⟩
 dsimp only
 unfold Zqa
 dsimp only
 rcases Xad i m.2.length with h1|h1
 ·left
  have hr:=h.2.2 _ (Zz (l:=m.2) (i:=i) (d:=(0,[],[],0,[])) h1)
  obtain⟨hr1,hr2,hr3,hr4⟩:=hr
  rw[Zc (by omega),Zb ⟨by omega,by omega⟩]
  show ∃s',rq _ (rq _ _)=_∧_
  rw[Xab]
  rw[Zb (by simp only[Xao];exact hb' hr1),Zb (by simp only[Xao];exact hb' hr2)]
  show ∃s',loop (Zhh m (i:Int) (m.2.take i)) ((0:Int),[])=_∧_
  have e:loop (Zhh m (i:Int) (m.2.take i)) ((0:Int),[])=some (.inl ((i:Int)+1,m.2.take (i+1))):=by
   refine ZJ (f:=Zhh m (i:Int) (m.2.take i)) (fun s:Int×List (List Int)=>∃k:Nat,s.1=k∧k≤(m.2.getD i (0,[],[],0,[])).2.2.2.2.length∧s.2=(m.2.getD i (0,[],[],0,[])).2.2.2.2.take k) (fun s=>(m.2.getD i (0,[],[],0,[])).2.2.2.2.length - s.1.toNat) (fun _=>.inl ((i:Int)+1,m.2.take (i+1))) ?_ _ ⟨0,rfl,Nat.zero_le _,rfl⟩
   rintro⟨b,t⟩ ⟨k,rfl,hk,rfl⟩
   dsimp only
   unfold Zhh
   dsimp only
   rw[Xab]
   rcases Xad k (m.2.getD i (0,[],[],0,[])).2.2.2.2.length with h2|h2
   ·left
    have hx:=hr4 _ (Zz (l:=(m.2.getD i (0,[],[],0,[])).2.2.2.2) (i:=k) (d:=[]) h2)
    rw[Zc (by omega),Zb ⟨by omega,by omega⟩,Xab]
    rw[Zb (by simp only[Xao];exact hb' hx),Zb (by rw[Xav,Xaz];exact hb (by omega)),Zf (by omega) (by omega),Xat]
    exact⟨_,rfl,⟨k+1,by simp,by omega,by rw[Zpw [] h2]⟩,by (try dsimp only)<;>omega,rfl⟩
   ·right
    have:k=(m.2.getD i (0,[],[],0,[])).2.2.2.2.length:=by omega
    rw[Zd (by omega)]
    change up (rq _ (rq _ (some _)))=_
    rw[Xab,Zb (by rw[Xav,Xaz];exact hb (by omega)),Zf (by omega) (by omega),Xat,Xat,this,XaA,Zpw (0,[],[],0,[]) h1]
    rfl
  rw[e]
  exact⟨_,rfl,⟨i+1,by simp,by omega,rfl⟩,by (try dsimp only)<;>omega,rfl⟩
 ·right
  have:i=m.2.length:=by omega
  rw[Zd (by omega),this,XaA,Xat]
theorem ZuF {l:List ZG} (h:∀r∈l,okR r) {r:ZG} (hr:okR r) (i:Nat):∀x∈l.set i r,okR x:=fun x hx=>by
 rcases List.mem_or_eq_of_mem_set hx with hx|hx
 ·exact h x hx
 ·rw[hx];exact hr
theorem Zz2 {m:Zr} {r:List Int×Int} (h:RdOk r 700100000) (hm:m.1.length≤4∧m.2.length≤4∧∀r∈m.2,okR r) :
  ∃r' m',ZnQ m r=some (r',m')∧Adv r r' 2∧m'.1.length≤6∧m'.2.length≤4∧∀r∈m'.2,okR r:=by
 obtain⟨s,t⟩:=m
 obtain⟨m1,m2,m3⟩:=hm
 dsimp only at m1 m2 m3
 unfold ZnQ
 obtain⟨x,r1,e1,a1,_⟩:=Zs2 50 (h.wk (show (700100000:Int)≤1000000000 by omega))
 have h1:RdOk r1 700100001:=a1.ok h (by omega)
 have h1':RdOk r1 1000000000:=h1.wk (by omega)
 rw[ZCm _ (okM.small ⟨by (try dsimp only)<;>omega,by (try dsimp only)<;>omega,m3⟩),Ze,e1,Ze]
 dsimp only
 have a1':Adv r r1 2:=a1.trans (Adv.refl r1 (c:=0) (by omega)) (by omega)
 have gt:t.getD 0 (0,[],[],0,[])∈t∨t=[]:=by
  cases t with
  |nil=>exact Or.inr rfl
  |cons y z=>exact Or.inl (Xau ..)
 cases (x==0)with
 |true=>
  rw[ctt]
  by_cases hl:(0:Int)<s.length
  ·obtain⟨y,r2,e2,a2,_⟩:=Zgb (l:=[-1,4,3,9223372036854775807]) h1' (by simp)
   rw[Zc hl,e2,Ze,Zb ⟨by omega,hl⟩]
   exact⟨_,_,rfl,a1.trans a2 (by omega),by (try dsimp only)<;>(rw[Xam];omega),m2,m3⟩
  ·rw[Zd hl]
   exact⟨_,_,rfl,a1',by (try dsimp only)<;>omega,m2,m3⟩
 |false=>
  rw[cff]
  cases (x==1)with
  |true=>
   rw[ctt]
   obtain⟨⟨r',m'⟩,q1,q2⟩:=Zb4 (f:=ZkN (s,t) (x,r1)) (fun s=>s.length≤6) (fun s=>6 - s.length) (fun o=>o.1=r1∧o.2.1.length≤6∧o.2.2=t) (by
    intro v hv
    unfold ZkN
    by_cases h2:(v.length:Int)≤5
    ·left
     rw[Zc h2,Zb (by simp[Zl];omega)]
     exact⟨_,rfl,by simp;omega,by simp;omega⟩
    ·right
     rw[Zd h2]
     exact⟨_,rfl,rfl,by (try dsimp only)<;>omega,rfl⟩) s (by (try dsimp only)<;>omega)
   dsimp only at q2
   obtain⟨rfl,q3,q4⟩:=q2
   rw[←q4]at m2 m3
   exact⟨_,_,q1,a1',q3,m2,m3⟩
  |false=>
   rw[cff]
   cases (x==2)with
   |true=>
    rw[ctt]
    by_cases hl:(0:Int)<t.length
    ·obtain⟨y,r2,e2,a2,_⟩:=Zgb (l:=[0,5,1,2,3]) h1' (by simp)
     have gm:=gt.resolve_right (by rintro rfl;simp at hl)
     rw[Zc hl,e2,Ze,Zb ⟨by omega,hl⟩]
     refine⟨_,_,rfl,a1.trans a2 (by omega),by (try dsimp only)<;>omega,by (try dsimp only)<;>(rw[Xam];omega),ZuF m3 ?_ _⟩
     obtain⟨w1,w2,w3,w4⟩:=m3 _ gm
     exact⟨w1,w2,w3,w4⟩
    ·rw[Zd hl]
     exact⟨_,_,rfl,a1',by (try dsimp only)<;>omega,m2,m3⟩
   |false=>
    rw[cff]
    cases (x==3)with
    |true=>
     rw[ctt]
     by_cases hl:(0:Int)<t.length
     ·rw[Zc hl,Zf (by omega) (by omega),Zb ⟨by omega,by omega⟩]
      have e:((t.length:Int) - 1).toNat=t.length - 1:=by omega
      have gm:=Zz (l:=t) (i:=t.length - 1) (d:=(0,[],[],0,[])) (by omega)
      rw[e]
      have gm':=m3 _ gm
      have es:∀v:ZG,(t.set (t.length - 1) v).getD (t.length - 1) (0,[],[],0,[])=v:=fun v=>by
       rw[Xaa,List.getElem?_set_self (by omega)]
       rfl
      rw[es]
      by_cases h2:(0:Int)<(t.getD (t.length - 1) (0,[],[],0,[])).2.1.length
      ·obtain⟨y,r2,e2,a2,_⟩:=Zgb (l:=[-1,5,1,0]) h1' (by simp)
       rw[Zc h2,Zf (by omega) (by omega),Zb ⟨by omega,by omega⟩,e2,Ze,Zb ⟨by omega,h2⟩]
       refine⟨_,_,rfl,a1.trans a2 (by omega),by (try dsimp only)<;>omega,by (try dsimp only)<;>(rw[Xam,Xam];omega),ZuF (ZuF m3 gm' _) ?_ _⟩
       obtain⟨w1,w2,w3,w4⟩:=gm'
       exact⟨by (try dsimp only)<;>(rw[Xam];omega),w2,w3,w4⟩
      ·rw[Zd h2]
       exact⟨_,_,rfl,a1',by (try dsimp only)<;>omega,by (try dsimp only)<;>(rw[Xam];omega),ZuF m3 gm' _⟩
     ·rw[Zd hl]
      exact⟨_,_,rfl,a1',by (try dsimp only)<;>omega,m2,m3⟩
    |false=>
     rw[cff]
     cases (x==4)with
     |true=>
      rw[ctt]
      by_cases hl:(0:Int)<t.length
      ·obtain⟨y,r2,e2,a2,_⟩:=Zgb (l:=[1001,-1001,1000]) h1' (by simp)
       have gm:=gt.resolve_right (by rintro rfl;simp at hl)
       rw[Zc hl,e2,Ze,Zb ⟨by omega,hl⟩]
       refine⟨_,_,rfl,a1.trans a2 (by omega),by (try dsimp only)<;>omega,by (try dsimp only)<;>(rw[Xam];omega),ZuF m3 ?_ _⟩
       obtain⟨w1,w2,w3,w4⟩:=m3 _ gm
       exact⟨w1,w2,w3,w4⟩
      ·rw[Zd hl]
       exact⟨_,_,rfl,a1',by (try dsimp only)<;>omega,m2,m3⟩
     |false=>
      rw[cff]
      cases (x==5)with
      |true=>
       rw[ctt]
       exact⟨_,_,rfl,a1',by simp,by simp,by simp⟩
      |false=>
       rw[cff]
       exact⟨_,_,rfl,a1',by (try dsimp only)<;>omega,m2,m3⟩
end Go.AE.Y
namespace Go.AE.Y
open Go Go.AE
def okDm (d:List (List Bool)):Prop:=d.length≤8∧∀x∈d,x.length≤8
theorem okDm.small {d:List (List Bool)} (h:okDm d):ZMv d:=⟨by have:=h.1;omega,fun x hx=>by have:=h.2 x hx;omega⟩
end Go.AE.Y
namespace Go.AE.Y
open Go Go.AE
theorem ZCu {r:List Int×Int} {o1:List Int} (o2:List ZG) (h:RdOk r 710000000) (ho:o1.length≤8):∃r' l,ZkV r o1 o2=some (r',l)∧Adv r r' 10∧l.length≤9:=by
 unfold ZkV
 have key:=Zb4 (f:=Zh7 o1) (fun s=>0≤s.1∧s.1≤o1.length∧Adv r s.2.1 s.1∧(s.2.2.length:Int)≤s.1) (fun s=>(o1.length - s.1).toNat)
  (fun o=>Adv r o.1 10∧o.2.length≤9) ?_ ((0:Int),r,[]) ⟨Xaq _,by (try dsimp only)<;>omega,Adv.refl r (Xaq _),by simp⟩
 ·obtain⟨⟨r',l⟩,q1,q2⟩:=key
  exact⟨r',l,q1,q2⟩
 rintro⟨i,q,l⟩ ⟨g1,g2,g3,g4⟩
 dsimp only at g1 g2 g3 g4 ⊢
 have hq:RdOk q 710000008:=g3.ok h (by omega)
 unfold Zh7
 dsimp only
 by_cases h1:i<o1.length
 ·left
  obtain⟨x,q1,e1,a1,_⟩:=Zgb (l:=[1,-1,2,0,-2,3]) (hq.wk (by omega)) (by decide)
  rw[Zc h1,e1,Ze,Zb (by simp[Zl];omega),Zf (by omega) (by omega)]
  exact⟨_,rfl,⟨by (try dsimp only)<;>omega,by (try dsimp only)<;>omega,g3.trans a1 (Xaq _),by simp;omega⟩,by (try dsimp only)<;>omega⟩
 ·right
  obtain⟨x,q1,e1,a1,_⟩:=Zs2 30 (hq.wk (show (710000008:Int)≤1000000000 by omega))
  have hq1:RdOk q1 710000009:=a1.ok hq (by omega)
  rw[Zd h1]
  unfold Zlz
  dsimp only
  rw[e1,Ze]
  dsimp only
  cases (x==0)with
  |true=>
   rw[ctt]
   by_cases h2:(0:Int)<l.length
   ·obtain⟨y,q2,e2,a2,_⟩:=Zgb (l:=[10,-10,9,9223372036854775807]) (hq1.wk (by omega)) (by simp)
    rw[Zc h2,e2,Ze,Zb ⟨by omega,h2⟩]
    exact⟨_,rfl,(g3.trans a1 (Xaq _)).trans a2 (by omega),by (try dsimp only)<;>(rw[Xam];omega)⟩
   ·rw[Zd h2]
    exact⟨_,rfl,g3.trans a1 (by omega),by (try dsimp only)<;>omega⟩
  |false=>
   rw[cff]
   cases (x==1)with
   |true=>
    rw[ctt,Zb (by simp[Zl];omega)]
    exact⟨_,rfl,g3.trans a1 (by omega),by simp;omega⟩
   |false=>
    rw[cff]
    exact⟨_,rfl,g3.trans a1 (by omega),by (try dsimp only)<;>omega⟩
theorem ZMs {m:Zr} (h:m.1.length≤6∧m.2.length≤4∧∀r∈m.2,okR r):okM m:=⟨by have:=h.1;omega,by have:=h.2.1;omega,h.2.2⟩
end Go.AE.Y
namespace Go.AE.Y
open Go Go.AE
noncomputable def ZsM (m:Zr) (x:List Int):Nat→List Bool
 |0=>List.replicate 12 false
 |n+1=>(ZsM m x n).set (x.getD n 0+ZM m n).toNat true
theorem ZEH (m:Zr) (x:List Int):∀n,(ZsM m x n).length=12
 |0=>by unfold ZsM;exact XaG
 |n+1=>by unfold ZsM;rw[Xam,ZEH m x n]
theorem ZCR {m:Zr} {x:List Int} (hm:ZE m=true) (hx:Z2 m x=true) {i:Nat} (hi:i<x.length):0≤x.getD i 0∧x.getD i 0≤3∧0≤ZM m i∧x.getD i 0+ZM m i<12∧x.getD i 0+ZM m i<ZM m (i+1):=by
 obtain⟨x1,x2⟩:=ZcL hx
 have h1:=Zgl hm (i+1) (by omega)
 have h2:=Zgl hm i (by omega)
 rw[ZfG (by omega)]at h1 ⊢
 have h3:=x2 i hi
 have h4:=ZeJ hm (i:=i) (by omega)
 omega
theorem ZtC {m:Zr} (hm:ZE m=true):∀i k,i+k≤m.1.length→ZM m i≤ZM m (i+k)
 |i,0,_=>Xaq _
 |i,k+1,h=>by
  have:=ZtC hm i k (by omega)
  rw[show i+(k+1)=(i+k)+1 by omega,ZfG (by omega)]
  have:=ZeJ hm (i:=i+k) (by omega)
  omega
theorem ZEG {m:Zr} {x:List Int} (hm:ZE m=true) (hx:Z2 m x=true):∀n,n≤x.length→∀c,c<n→∀k:Nat,(k:Int)≤m.1.getD c 0→(ZsM m x n).getD ((k:Int)+ZM m c).toNat false=decide (x.getD c 0=k)
 |0,_,c,hc,_,_=>by omega
 |n+1,hn,c,hc,k,hk=>by
  obtain⟨x1,x2⟩:=ZcL hx
  obtain⟨c1,c2,c3,c4,c5⟩:=ZCR hm hx (i:=n) (by omega)
  have hb:=(Zgl hm c (by omega)).1
  unfold ZsM
  by_cases e:c=n
  ·subst e
   by_cases hk':x.getD c 0=k
   ·rw[hk',ZcM (by rw[ZEH];omega)]
    simp
   ·rw[ZU (by omega),decide_eq_false hk']
    have key:∀n,n≤c→(ZsM m x n).getD ((k:Int)+ZM m c).toNat false=false:=by
     intro n
     induction n with
     |zero=>
      intro _
      unfold ZsM
      rw[Xaa,List.getElem?_replicate]
      split<;>rfl
     |succ n ih=>
      intro h
      unfold ZsM
      obtain⟨d1,d2,d3,d4,d5⟩:=ZCR hm hx (i:=n) (by omega)
      have:=ZtC hm (n+1) (c - (n+1)) (by omega)
      rw[show n+1+(c - (n+1))=c by omega]at this
      rw[ZU (by omega)]
      exact ih (by omega)
    exact key c (Nat.le_refl _)
  ·have h1:(k:Int)+ZM m c<ZM m n:=by
    have:=ZtC hm (c+1) (n - (c+1)) (by omega)
    rw[show c+1+(n - (c+1))=n by omega]at this
    rw[ZfG (by omega)]at this
    omega
   rw[ZU (by omega)]
   exact ZEG hm hx n (by omega) c (by omega) k hk
end Go.AE.Y
namespace Go.AE.Y
open Go Go.AE
end Go.AE.Y
namespace Go.AE.Y
open Go Go.AE
end Go.AE.Y
namespace Go.AE.Y
open Go Go.AE
def Zep (net:List Int) (v:List Bool):Nat→Int
 |0=>0
 |n+1=>Zep net v n+(bif v.getD n false then net.getD (n+1) 0 else 0)
theorem Zqb (v:List Bool) (a b:List (Int×Int)):Zcy v (a++b)=Zcy v a+Zcy v b:=by
 have key:∀(l:List (Int×Int)) (x:Int),l.foldl (fun a t=>bif ZR v t.2 then a+t.1 else a) x=x+l.foldl (fun a t=>bif ZR v t.2 then a+t.1 else a) 0:=by
  intro l
  induction l with
  |nil=>intro x;simp
  |cons t l ih=>
   intro x
   rw[Xbl,Xbl,ih,ih (bif ZR v t.2 then 0+t.1 else 0)]
   cases ZR v t.2 with
   |true=>rw[ctt,ctt];omega
   |false=>rw[cff,cff];omega
 unfold Zcy
 rw[Xa6,key b]
theorem ZCw {net:List Int} {v:List Bool} {b:Int}:∀n,Zcy v (ZcO net n)=Zep net v n+(Zbq net b n - b)∧0≤Zcy v (ZcO net n)
 |0=>⟨by show (0:Int)=0+(b - b);omega,Xaq _⟩
 |n+1=>by
  obtain⟨i1,i2⟩:=ZCw (net:=net) (v:=v) (b:=b) n
  have ev:vof ((n+1:Nat):Int) - 1=n:=by unfold vof;omega
  have ev':vof (0 - ((n+1:Nat):Int)) - 1=n:=by unfold vof;omega
  unfold ZcO
  rw[Zqb]
  by_cases q1:0<net.getD (n+1) 0
  ·have e:Zcy v [(net.getD (n+1) 0,((n+1:Nat):Int))]=bif v.getD n false then net.getD (n+1) 0 else 0:=by
    unfold Zcy
    rw[Xbl,List.foldl_nil]
    unfold ZR
    dsimp only
    rw[ev,Xab,Xae (by omega)]
    cases v.getD n false with
    |true=>simp
    |false=>simp
   have h1:Zbq net b (n+1)=Zbq net b n:=by
    conv=>lhs;unfold Zbq
    rw[if_neg (by omega)]
   have h2:Zep net v (n+1)=Zep net v n+(bif v.getD n false then net.getD (n+1) 0 else 0):=rfl
   rw[if_pos q1,e,h1,h2]
   cases v.getD n false with
   |true=>rw[ctt];omega
   |false=>rw[cff];omega
  ·by_cases q2:net.getD (n+1) 0<0
   ·have e:Zcy v [(0 - net.getD (n+1) 0,0 - ((n+1:Nat):Int))]=bif v.getD n false then 0 else 0 - net.getD (n+1) 0:=by
     unfold Zcy
     rw[Xbl,List.foldl_nil]
     unfold ZR
     dsimp only
     rw[ev',Xab,decide_eq_false (by omega)]
     cases v.getD n false with
     |true=>simp
     |false=>simp
    have h1:Zbq net b (n+1)=Zbq net b n - net.getD (n+1) 0:=by
     conv=>lhs;unfold Zbq
     rw[if_pos q2]
    have h2:Zep net v (n+1)=Zep net v n+(bif v.getD n false then net.getD (n+1) 0 else 0):=rfl
    rw[if_neg q1,if_pos q2,e,h1,h2]
    cases v.getD n false with
    |true=>rw[ctt,ctt];omega
    |false=>rw[cff,cff];omega
   ·have h1:Zbq net b (n+1)=Zbq net b n:=by
     conv=>lhs;unfold Zbq
     rw[if_neg q2]
    have h2:Zep net v (n+1)=Zep net v n+(bif v.getD n false then net.getD (n+1) 0 else 0):=rfl
    have h3:net.getD (n+1) 0=0:=by omega
    have h4:Zcy v []=0:=rfl
    rw[if_neg q1,if_neg q2,h1,h2,h3,h4]
    cases v.getD n false with
    |true=>rw[ctt];omega
    |false=>rw[cff];omega
theorem ZBm {net:List Int} {v:List Bool} {b:Nat} {c x s:Int} (hx:0≤x∧x≤s) (hn:∀k:Nat,(k:Int)≤s→net.getD (b+k+1) 0=(0 - c)*k) (hv:∀k:Nat,(k:Int)≤s→v.getD (b+k) false=decide (x=k)):∀k:Nat,(k:Int)≤s+1→Zep net v (b+k)=Zep net v b+(if x<k then(0 - c)*x else 0)
 |0,_=>by rw[if_neg (by omega)];simp
 |k+1,h=>by
  have ih:=ZBm hx hn hv k (by omega)
  show Zep net v (b+k)+(bif v.getD (b+k) false then net.getD (b+k+1) 0 else 0)=_
  rw[ih,hv k (by omega),hn k (by omega)]
  by_cases q:x=(k:Int)
  ·rw[Xae q,ctt,if_neg (by omega),if_pos (by omega),q]
   omega
  ·rw[decide_eq_false q,cff]
   by_cases q2:x<(k:Int)
   ·rw[if_pos q2,if_pos (by omega)];omega
   ·rw[if_neg q2,if_neg (by omega)];omega
theorem ZDk {net:List Int} {v:List Bool} {b:Nat} (h:∀j,1+b≤j→net.getD j 0=0):∀d,Zep net v (b+d)=Zep net v b
 |0=>rfl
 |d+1=>by
  show Zep net v (b+d)+(bif v.getD (b+d) false then net.getD (b+d+1) 0 else 0)=_
  rw[ZDk h d,h (b+d+1) (by omega)]
  cases v.getD (b+d) false with
  |true=>rw[ctt];omega
  |false=>rw[cff];omega
end Go.AE.Y
namespace Go.AE.Y
open Go Go.AE
set_option maxHeartbeats 400000
def Zm4 (s:Int×List Int) (t:Int×Int):Int×List Int:=if t.2<0 then(s.1 - t.1,s.2.set (0 - t.2).toNat (s.2.getD (0 - t.2).toNat 0 - t.1))else(s.1,s.2.set t.2.toNat (s.2.getD t.2.toNat 0+t.1))
def ZcZ (ts:List (Int×Int)) (b:Int):Int×List Int:=ts.foldl Zm4 (b,List.replicate 13 0)
def okS (t:Int×Int):Prop:=(-1000≤t.1∧t.1≤1000)∧ZX t.2=true
theorem ZD8 (j:Nat):(List.replicate 13 (0:Int)).getD j 0=0:=by
 rw[Xaa]
 rcases Xad j 13 with h|h
 ·rw[XaO h];rfl
 ·rw[Xaw (by rw[XaG];exact h)];rfl
theorem Zra {ts:List (Int×Int)} {b:Int} {n:Nat} (h:n<ts.length):ZcZ (ts.take (n+1)) b=Zm4 (ZcZ (ts.take n) b) (ts.getD n (0,0)):=by
 unfold ZcZ
 rw[Zeo (0,0) h,Xa6]
 rfl
theorem ZvM {ts:List (Int×Int)} {b:Int} (h:∀t∈ts,okS t):∀n:Nat,n≤ts.length→(ZcZ (ts.take n) b).2.length=13∧(ZcZ (ts.take n) b).2.getD 0 0=0∧(b - 1000*n≤(ZcZ (ts.take n) b).1∧(ZcZ (ts.take n) b).1≤b+1000*n)∧∀j,-1000*(n:Int)≤(ZcZ (ts.take n) b).2.getD j 0∧(ZcZ (ts.take n) b).2.getD j 0≤1000*(n:Int)
 |0,_=>by
  rw[XaR]
  refine⟨rfl,rfl,⟨by show b - _≤b;omega,by show b≤b+_;omega⟩,fun j=>?_⟩
  show _≤(List.replicate 13 (0:Int)).getD j 0∧(List.replicate 13 (0:Int)).getD j 0≤_
  rw[ZD8]
  omega
 |n+1,hn=>by
  obtain⟨i1,i2,i3,i4⟩:=ZvM h n (by omega)
  obtain⟨o1,o2⟩:=h _ (Zz (l:=ts) (i:=n) (d:=(0,0)) (by omega))
  have hl:=Zy.1 o2
  rw[Zra (by omega)]
  generalize ZcZ (ts.take n) b=s at i1 i2 i3 i4
  generalize ts.getD n (0,0)=t at o1 hl
  unfold Zm4
  by_cases q:t.2<0
  ·rw[if_pos q]
   dsimp only
   refine⟨by rw[Xam];exact i1,by rw[ZU (by omega)];exact i2,⟨by omega,by omega⟩,fun j=>?_⟩
   have hj:=i4 j
   have hv:=i4 (0 - t.2).toNat
   rw[ZiZ]
   split<;>omega
  ·rw[if_neg q]
   dsimp only
   refine⟨by rw[Xam];exact i1,by rw[ZU (by omega)];exact i2,⟨by omega,by omega⟩,fun j=>?_⟩
   have hj:=i4 j
   have hv:=i4 t.2.toNat
   rw[ZiZ]
   split<;>omega
theorem Zqi {net:List Int} {b K:Int} (hK:0≤K) (hn:∀j,0 - K≤net.getD j 0∧net.getD j 0≤K):∀n:Nat,b≤Zbq net b n∧Zbq net b n≤b+K*n
 |0=>⟨Xaq _,by show b≤b+K*((0:Nat):Int);omega⟩
 |n+1=>by
  have:=Zqi (b:=b) hK hn n
  have:=hn (n+1)
  have e:K*((n+1:Nat):Int)=K*n+K:=by rw[Int.natCast_add,Int.mul_add];simp
  unfold Zbq
  split<;>omega
theorem ZzF {o:List Int} {b:Int} (f1:o.length=13) (h00:o.getD 0 0=0) (hbd:∀j,-100000≤o.getD j 0∧o.getD j 0≤100000) (hb : -100000≤b∧b≤100000):ZjH (b,o)=some (ZcV o b):=by
 unfold ZjH
 dsimp only
 rw[Zb ⟨rfl,rfl,by omega⟩]
 refine ZJ (f:=ZfA o) (fun s:Int×Int×List (Int×Int)=>∃n:Nat,s.2.1=n∧n≤13∧s.1=Zbq o b (n - 1)∧s.2.2=ZcO o (n - 1)) (fun s=>13 - s.2.1.toNat) (fun _=>ZcV o b) ?_ _ ⟨0,rfl,Nat.zero_le _,rfl,rfl⟩
 rintro⟨c,s,t⟩ ⟨n,hs,hn,hc,ht⟩
 dsimp only at hs hc ht ⊢
 subst hs
 subst hc
 subst ht
 have hpl:=Zp5 o (n - 1)
 have hnb:=Zqi (net:=o) (b:=b) (K:=100000) (by omega) (fun j=>by have:=hbd j;omega) (n - 1)
 unfold ZfA
 dsimp only
 rw[ZLz o f1,Xab]
 rcases Xad n 13 with h4|h4
 ·left
  have hbn:=hbd n
  rw[Zc (by omega),Zb ⟨⟨by omega,by omega⟩,by omega⟩]
  cases n with
  |zero=>
   rw[h00,Zd (by omega),Zd (by omega),Zf (by omega) (by omega)]
   exact⟨_,rfl,⟨1,rfl,by omega,rfl,rfl⟩,by (try dsimp only)<;>omega,rfl⟩
  |succ n=>
   rw[XbS]at hpl hnb ⊢
   by_cases q1:0<o.getD (n+1) 0
   ·rw[Zc q1,Zb (by simp[Zl];omega),Zf (by omega) (by omega)]
    refine⟨_,rfl,⟨n+2,by simp;omega,by omega,?_,?_⟩,by (try dsimp only)<;>omega,rfl⟩
    ·show Zbq o b n=Zbq o b (n+1)
     conv=>rhs;unfold Zbq
     rw[if_neg (by omega)]
    ·show _=ZcO o (n+1)
     conv=>rhs;unfold ZcO
     rw[if_pos q1]
   ·rw[Zd q1]
    by_cases q2:o.getD (n+1) 0<0
    ·unfold ZmL
     dsimp only
     rw[Zc q2,Zf (by omega) (by omega),Zf (by omega) (by omega),Zb (by simp[Zl];omega),Zf (by omega) (by omega),Zf (by omega) (by omega)]
     refine⟨_,rfl,⟨n+2,by simp;omega,by omega,?_,?_⟩,by (try dsimp only)<;>omega,rfl⟩
     ·show Zbq o b n - _=Zbq o b (n+1)
      conv=>rhs;unfold Zbq
      rw[if_pos q2]
     ·show _=ZcO o (n+1)
      conv=>rhs;unfold ZcO
      rw[if_neg q1,if_pos q2]
    ·rw[Zd q2,Zf (by omega) (by omega)]
     refine⟨_,rfl,⟨n+2,by simp;omega,by omega,?_,?_⟩,by (try dsimp only)<;>omega,rfl⟩
     ·show Zbq o b n=Zbq o b (n+1)
      conv=>rhs;unfold Zbq
      rw[if_neg q2]
     ·show _=ZcO o (n+1)
      conv=>rhs;unfold ZcO
      rw[if_neg q1,if_neg q2,Xax]
 ·right
  have h12:n - 1=12:=by omega
  rw[h12]at hpl ⊢
  have hv:Zc9 (max 0 (Zbq o b 12)) (ZcO o 12)=some (ZcV o b):=Zwe _ _ (by omega)
  unfold ZmK
  dsimp only
  rw[Zd (by omega),hv,Ze]
  generalize ZcV o b=q
  rfl
theorem ZtQ {ts:List (Int×Int)} {b:Int} (hts:∀t∈ts,okS t) (hl:ts.length≤50) (hb : -50000≤b∧b≤50000):Zg8 ts b=some (ZcV (ZcZ ts b).2 (ZcZ ts b).1):=by
 unfold Zg8
 refine ZJ (f:=Zhe ts) (fun s:Int×Int×List Int=>∃n:Nat,s.2.1=n∧n≤ts.length∧(s.1,s.2.2)=ZcZ (ts.take n) b) (fun s=>ts.length - s.2.1.toNat) (fun _=>ZcV (ZcZ ts b).2 (ZcZ ts b).1) ?_ _ ⟨0,rfl,Nat.zero_le _,rfl⟩
 rintro⟨b',s,o⟩ ⟨n,hs,hn,ho⟩
 dsimp only at hs ho ⊢
 subst hs
 obtain⟨f1,f2,f3,f4⟩:=ZvM (b:=b) hts n hn
 have e1:b'=(ZcZ (ts.take n) b).1:=by rw[←ho]
 have e2:o=(ZcZ (ts.take n) b).2:=by rw[←ho]
 rw[←e1]at f3
 rw[←e2]at f1 f2 f4
 unfold Zhe
 dsimp only
 rcases Xad n ts.length with h1|h1
 ·left
  obtain⟨⟨ok1,ok1'⟩,ok2⟩:=hts _ (Zz (l:=ts) (i:=n) (d:=(0,0)) h1)
  have hlit:=Zy.1 ok2
  rw[Zc (by omega),Zb ⟨by omega,by omega⟩,Xab]
  by_cases q:(ts.getD n (0,0)).2<0
  ·have:=f4 (0 - (ts.getD n (0,0)).2).toNat
   rw[Zc q,Zf (by omega) (by omega),Zf (by omega) (by omega),Zb ⟨rfl,⟨by omega,by omega⟩,by omega⟩,Zf (by omega) (by omega),Zb ⟨rfl,⟨by omega,by omega⟩,by omega⟩,Zf (by omega) (by omega)]
   refine⟨_,rfl,⟨n+1,by simp,by omega,?_⟩,by (try dsimp only)<;>omega,rfl⟩
   dsimp only
   rw[Zra h1,←ho]
   unfold Zm4
   rw[if_pos q]
  ·have:=f4 (ts.getD n (0,0)).2.toNat
   rw[Zd q,Zb ⟨rfl,⟨by omega,by omega⟩,by omega⟩,Zf (by omega) (by omega),Zb ⟨rfl,⟨by omega,by omega⟩,by omega⟩,Zf (by omega) (by omega)]
   refine⟨_,rfl,⟨n+1,by simp,by omega,?_⟩,by (try dsimp only)<;>omega,rfl⟩
   dsimp only
   rw[Zra h1,←ho]
   unfold Zm4
   rw[if_neg q]
 ·right
  have hnn:n=ts.length:=by omega
  rw[Zd (by omega),ZzF f1 f2 (fun j=>by have:=f4 j;omega) ⟨by omega,by omega⟩]
  rw[hnn,XaA]at ho
  rw[←ho]
  generalize ZcV o b'=q
  rfl
theorem ZDj (v:List Bool):∀n,Zep (List.replicate 13 0) v n=0
 |0=>rfl
 |n+1=>by
  unfold Zep
  rw[ZDj v n,ZD8]
  cases v.getD n false<;>rfl
theorem Zyk {net:List Int} {v:List Bool} {j:Nat} {x:Int} (hj:j+1<net.length):∀n,Zep (net.set (j+1) (net.getD (j+1) 0+x)) v n=Zep net v n+(if j<n then(bif v.getD j false then x else 0)else 0)
 |0=>by show (0:Int)=0+_;rw[if_neg (by omega)];rfl
 |n+1=>by
  unfold Zep
  rw[Zyk hj n]
  by_cases e:j=n
  ·subst e
   rw[ZcM hj,if_neg (by omega),if_pos (by omega)]
   cases v.getD j false with
   |true=>rw[ctt,ctt,ctt];omega
   |false=>rw[cff,cff,cff,Int.add_zero]
  ·rw[ZU (by omega)]
   by_cases q:j<n
   ·rw[if_pos q,if_pos (by omega)];omega
   ·rw[if_neg q,if_neg (by omega)];omega
theorem Zv0 (v:List Bool) (t:Int×Int):Zcy v [t]=bif ZR v t.2 then t.1 else 0:=by
 unfold Zcy
 rw[Xbl,List.foldl_nil]
 cases ZR v t.2 with
 |true=>rw[ctt,ctt,XbX]
 |false=>rw[cff,cff]
theorem ZIZ {s:Int×List Int} {t:Int×Int} {v:List Bool} (hs:s.2.length=13) (ht:ZX t.2=true):Zep (Zm4 s t).2 v 12 - (Zm4 s t).1=Zep s.2 v 12 - s.1+Zcy v [t]:=by
 have hl:=Zy.1 ht
 rw[Zv0]
 unfold Zm4 ZR
 by_cases q:t.2<0
 ·rw[if_pos q]
  dsimp only
  obtain⟨j,hj⟩:∃j:Nat,(0 - t.2).toNat=j+1:=⟨(0 - t.2).toNat - 1,by omega⟩
  have ev:(vof t.2 - 1).toNat=j:=by unfold vof;omega
  rw[hj,show s.2.getD (j+1) 0 - t.1=s.2.getD (j+1) 0+(0 - t.1) by omega,Zyk (by omega),if_pos (by omega),ev,decide_eq_false (show ¬0<t.2 by omega)]
  cases v.getD j false with
  |true=>rw[ctt,show (true==false)=false from rfl,cff];omega
  |false=>rw[cff,show (false==false)=true from rfl,ctt];omega
 ·rw[if_neg q]
  dsimp only
  obtain⟨j,hj⟩:∃j:Nat,t.2.toNat=j+1:=⟨t.2.toNat - 1,by omega⟩
  have ev:(vof t.2 - 1).toNat=j:=by unfold vof;omega
  rw[hj,Zyk (by omega),if_pos (by omega),ev,Xae (show 0<t.2 by omega)]
  cases v.getD j false with
  |true=>rw[ctt,show (true==true)=true from rfl,ctt];omega
  |false=>rw[cff,show (false==true)=false from rfl,cff];omega
theorem ZC7 {ts:List (Int×Int)} {b:Int} {v:List Bool} (h:∀t∈ts,okS t):∀n,n≤ts.length→Zep (ZcZ (ts.take n) b).2 v 12 - (ZcZ (ts.take n) b).1=Zcy v (ts.take n) - b
 |0,_=>by
  rw[XaR]
  show Zep (List.replicate 13 0) v 12 - b=0 - b
  rw[ZDj]
 |n+1,hn=>by
  have ih:=ZC7 (b:=b) (v:=v) h n (by omega)
  rw[Zra (by omega),ZIZ (ZvM h n (by omega)).1 (h _ (Zz (l:=ts) (i:=n) (d:=(0,0)) (by omega))).2,ih,Zeo (0,0) (by omega),Zqb]
  omega
theorem ZC9 {ts:List (Int×Int)} {b:Int} {v:List Bool} (h:∀t∈ts,okS t):ZW v (ZcO (ZcZ ts b).2 12,max 0 (Zbq (ZcZ ts b).2 (ZcZ ts b).1 12))=decide (b≤Zcy v ts):=by
 have h1:=ZC7 (b:=b) (v:=v) h ts.length (Nat.le_refl _)
 rw[XaA]at h1
 obtain⟨h2,h3⟩:=ZCw (net:=(ZcZ ts b).2) (v:=v) (b:=(ZcZ ts b).1) 12
 unfold ZW
 dsimp only
 rw[decide_eq_decide]
 omega
end Go.AE.Y
namespace Go.AE.Y
open Go Go.AE
theorem ZJW {c x:List Int} {n:Nat} (h:∀i,i<n → -27≤c.getD i 0*x.getD i 0∧c.getD i 0*x.getD i 0≤27) : -27*(n:Int)≤ZcU c x n∧ZcU c x n≤27*n:=by
 induction n with
 |zero=>simp[ZcU]
 |succ n ih=>
  have:=ih (fun i hi=>h i (by omega))
  have:=h n (by omega)
  rw[ZiS]
  omega
theorem Zvi {m:Zr} {x:List Int} (h:Z2 m x=true):x.length=m.1.length∧∀i,i<x.length→0≤x.getD i 0∧x.getD i 0≤m.1.getD i 0:=by
 unfold Z2 cellAt at h
 simp only[Xag,Xaf,Xar]at h
 exact⟨h.1,fun i hi=>h.2 i (Xay.2 hi)⟩
theorem ZCc {m:Zr} (hm:ZE m=true) {i:Nat} (hi:i<m.1.length):0≤m.1.getD i 0∧m.1.getD i 0≤3:=by
 unfold ZE at hm
 simp only[Xag,Xaf,Xar]at hm
 have h2:=hm.2.2.1 _ (Zz (l:=m.1) (i:=i) (d:=0) hi)
 unfold ZdX at h2
 simp only[Xag,Xaf]at h2
 omega
def Zk6 (v:List Int) (i:Nat):Bool:=!((v.take i).any (fun x=>v.getD i 0==x))
def ZtN (v:List Int):Bool:=(List.range v.length).all (Zk6 v)
def holdsB (r:ZG) (v:List Int):Bool:=
 bif r.1==1 then decide (r.2.2.2.1≤ZcU r.2.2.1 v v.length)else bif r.1==2 then ZtN v else bif r.1==3 then r.2.2.2.2.any (fun row=>row==v)else decide (v.getD 0 0<v.getD 1 0)
def Zb5 (l x:List Int):List Int:=l.map (fun v=>x.getD v.toNat 0)
def ZcH (m:Zr) (x:List Int):Bool:=m.2.all (fun r=>holdsB r (Zb5 r.2.1 x))
structure ZD0 (r:ZG) (v:List Int):Prop where
 len:v.length=r.2.1.length
 few:v.length≤1048576
 dig:∀i,0≤v.getD i 0∧v.getD i 0≤3
theorem ZvS {n:Int} {r:ZG} (h:ZfM n r=true):(∀i,i<r.2.1.length→0≤r.2.1.getD i 0∧r.2.1.getD i 0<n)∧1≤r.2.1.length∧ZgY r=true:=by
 unfold ZfM at h
 simp only[Xag,Xaf]at h
 exact⟨fun i hi=>ZJi h.1 hi,h.2.1,h.2.2.2⟩
theorem ZMo {r:ZG} (h:ZgY r=true) (h1:r.1=1):r.2.2.1.length=r.2.1.length∧∀i,-9≤r.2.2.1.getD i 0∧r.2.2.1.getD i 0≤9:=by
 unfold ZgY ZzL at h
 rw[beq_iff_eq.2 h1,cond_true]at h
 simp only[Xag,Xaf,Xar]at h
 refine⟨by omega,fun i=>?_⟩
 rcases Xad i r.2.2.1.length with h2|h2
 ·have:=h.2.2 _ (Zz (d:=0) h2)
  unfold Zqf at this
  simp only[Xag,Xaf]at this
  exact this.2
 ·rw[Xaa,Xaw h2]
  decide
theorem ZHh {r:ZG} (h:ZgY r=true) (h1:r.1≠1) (h2:r.1≠2) (h3:r.1≠3):r.1=4∧r.2.1.length=2:=by
 unfold ZgY at h
 rw[beq_eq_false_iff_ne.2 h1,beq_eq_false_iff_ne.2 h3,beq_eq_false_iff_ne.2 h2,cond_false,cond_false]at h
 by_cases h4:r.1=4
 ·rw[beq_iff_eq.2 h4,cond_true,decide_eq_true_iff]at h
  exact⟨h4,h⟩
 ·rw[beq_eq_false_iff_ne.2 h4,cond_false]at h
  cases h
theorem ZFb {r:ZG} {v:List Int} (h:ZgY r=true) (h1:r.1=1) (hv:ZD0 r v) {f:Int×Int→Option ((Int×Int)⊕Bool)} (hf:(∀a i:Int,f (a,i)=cond (decide (i<(v.length:Int))) (
   rq (0≤i∧i<v.length) <|rq (0≤i∧i<r.2.2.1.length) <|rq (i64 ((r.2.2.1.getD i.toNat 0)*(v.getD i.toNat 0))) <|rq (i64 (a+((r.2.2.1.getD i.toNat 0)*(v.getD i.toNat 0)))) <|rq (i64 (i+(1:Int))) <|
   some (.inl ((a+((r.2.2.1.getD i.toNat 0)*(v.getD i.toNat 0))),(i+(1:Int))))) (some (.inr (decide (r.2.2.2.1≤a)))))∨∀a i:Int,f (a,i)=cond (decide (i<(v.length:Int))) (
   rq (0≤i∧i<r.2.2.1.length) <|rq (0≤i∧i<v.length) <|rq (i64 ((r.2.2.1.getD i.toNat 0)*(v.getD i.toNat 0))) <|rq (i64 (a+((r.2.2.1.getD i.toNat 0)*(v.getD i.toNat 0)))) <|rq (i64 (i+(1:Int))) <|
   some (.inl ((a+((r.2.2.1.getD i.toNat 0)*(v.getD i.toNat 0))),(i+(1:Int))))) (some (.inr (decide (r.2.2.2.1≤a))))) :
  loop f ((0:Int),(0:Int))=some (decide (r.2.2.2.1≤ZcU r.2.2.1 v v.length)):=by
 obtain⟨k1,k2⟩:=ZMo h h1
 have hl:=hv.len
 have hfew:=hv.few
 refine ZJ (f:=f) (fun s:Int×Int=>∃i:Nat,s.2=i∧i≤v.length∧s.1=ZcU r.2.2.1 v i) (fun s=>v.length - s.2.toNat) (fun _=>decide (r.2.2.2.1≤ZcU r.2.2.1 v v.length)) ?_ _ ⟨0,rfl,Nat.zero_le _,rfl⟩
 rintro⟨a,s⟩ ⟨i,rfl,hi,ha⟩
 dsimp only at ha ⊢
 subst ha
 have e:=hf.imp (fun q=>q (ZcU r.2.2.1 v i) (i:Int)) (fun q=>q (ZcU r.2.2.1 v i) (i:Int))
 rcases Xad i v.length with h2|h2
 ·left
  have hb:=ZJW (c:=r.2.2.1) (x:=v) (n:=i) (fun j _=>ZoH (k2 j) (hv.dig j))
  have hm:=ZoH (k2 i) (hv.dig i)
  refine⟨(ZcU r.2.2.1 v (i+1),(i:Int)+1),?_,⟨i+1,by simp,by omega,rfl⟩,by (try dsimp only)<;>omega,rfl⟩
  rcases e with e|e
  ·rw[e,Zc (by omega),Zb ⟨by omega,by omega⟩,Zb ⟨by omega,by omega⟩,Xab,Zf (by omega) (by omega),Zf (by omega) (by omega),Zf (by omega) (by omega),ZiS]
  ·rw[e,Zc (by omega),Zb ⟨by omega,by omega⟩,Zb ⟨by omega,by omega⟩,Xab,Zf (by omega) (by omega),Zf (by omega) (by omega),Zf (by omega) (by omega),ZiS]
 ·right
  have:i=v.length:=by omega
  subst this
  rcases e with e|e<;>rw[e,Zd (by omega)]
theorem ZEZ {v:List Int} (hv:v.length≤1048576):loop (Zf0 v) (0:Int)=some (ZtN v):=by
 unfold ZtN
 rw[ZeA v.length (Zk6 v) false true]
 ·cases (List.range v.length).all (Zk6 v)<;>rfl
 ·intro i hi _
  unfold Zf0 Zk6
  rw[Zc (by omega),Zb ⟨by omega,by omega⟩,Zb ⟨by omega,by omega⟩,Xab,ZtA _ _ (by rw[Xaz];omega),Ze]
  cases (v.take i).any (fun x=>v.getD i 0==x)with
  |true=>rw[ctt,Xbf,cff]
  |false=>rw[cff,Zf (by omega) (by omega),Xbd,ctt]
 ·unfold Zf0
  rw[Zd (by omega)]
theorem ZDX (v:List Int) (y:Int) {k:Nat} (h:k<v.length):(v.take (k+1)).any (fun x=>y==x)=((v.take k).any (fun x=>y==x)||y==v.getD k 0):=by
 rw[ZmX h,List.any_append]
 simp only[List.any_cons,List.any_nil,Bool.or_false]
theorem ZFP {v:List Int} (hv:v.length≤1048576) {i:Nat} (hi:i<v.length):loop (ZiQ v i) (0:Int)=some (bif Zk6 v i then .inl ((i:Int)+1)else .inr false):=by
 refine ZJ (f:=ZiQ v i) (fun s:Int=>∃k:Nat,s=k∧k≤i∧(v.take k).any (fun x=>v.getD i 0==x)=false) (fun s=>i - s.toNat) (fun _=>bif Zk6 v i then .inl ((i:Int)+1)else .inr false) ?_ _ ⟨0,rfl,Nat.zero_le _,rfl⟩
 rintro s ⟨k,rfl,hk,ha⟩
 unfold ZiQ
 rcases Xad k i with h1|h1
 ·have hs:=ZDX v (v.getD i 0) (k:=k) (by omega)
  rw[ha,XbM]at hs
  rw[Zc (by omega),Zb ⟨by omega,by omega⟩,Zb ⟨by omega,by omega⟩,Xab,Xab]
  by_cases hq:v.getD k 0=v.getD i 0
  ·right
   have:Zk6 v i=false:=by
    unfold Zk6
    rw[beq_iff_eq.2 hq.symm]at hs
    have hm:∃x∈v.take i,(v.getD i 0==x)=true:=by
     obtain⟨x,hx,hx2⟩:=Xbm.1 hs
     exact⟨x,(List.take_subset_take_left v (by omega)) hx,hx2⟩
    rw[Xbm.2 hm,Xbf]
   rw[Zx hq,this,cff]
  ·left
   rw[Zt hq,Zf (by omega) (by omega)]
   rw[beq_eq_false_iff_ne.2 (fun e=>hq e.symm)]at hs
   exact⟨_,rfl,⟨k+1,by simp,by omega,hs⟩,by omega,rfl⟩
 ·right
  have:k=i:=by omega
  subst this
  unfold Zk6
  rw[Zd (by omega),Zf (by omega) (by omega),ha,Xbd,ctt]
theorem ZFO {v:List Int} (hv:v.length≤1048576):loop (ZiP v) (0:Int)=some (ZtN v):=by
 unfold ZtN
 rw[ZeA v.length (Zk6 v) false true]
 ·cases (List.range v.length).all (Zk6 v)<;>rfl
 ·intro i hi _
  unfold ZiP
  rw[Zc (by omega),ZFP hv hi]
 ·unfold ZiP
  rw[Zd (by omega)]
def Zrd (a b:List Int) (i:Nat):Bool:=a.getD i 0==b.getD i 0
theorem Zzh (a b:List Int):(decide (a.length=b.length)&&(List.range a.length).all (Zrd a b))=(a==b):=by
 rw[Xbp]
 simp only[Xag,Xaf,Xar,Xay,beq_iff_eq,Zrd]
 constructor
 ·rintro⟨h1,h2⟩
  apply XbP h1
  intro j j1 j2
  have:=h2 j j1
  rwa [Xaa,Xac j1,Xaa,Xac j2]at this
 ·rintro rfl
  exact⟨rfl,fun _ _=>rfl⟩
theorem ZEi (a b:List Int) (ha:a.length≤1048576):ZkA a b=some (a==b):=by
 unfold ZkA
 rw[←Zzh]
 by_cases hl:a.length=b.length
 ·rw[ZdM (by omega),Xae hl,Xaj,ZeA a.length (Zrd a b) false true]
  ·cases (List.range a.length).all (Zrd a b)<;>rfl
  ·intro i hi _
   unfold ZhT Zrd
   rw[Zc (by omega),Zb ⟨by omega,by omega⟩,Zb ⟨by omega,by omega⟩,Xab]
   by_cases hq:a.getD i 0=b.getD i 0
   ·rw[ZdM hq,Zf (by omega) (by omega),beq_iff_eq.2 hq,ctt]
   ·rw[Zei hq,beq_eq_false_iff_ne.2 hq,cff]
  ·unfold ZhT
   rw[Zd (by omega)]
 ·rw[Zei (by omega),decide_eq_false hl,Xai]
theorem ZCo (a b:List Int) (ha:a.length≤1048576):Zqn a b=some (a==b):=by
 unfold Zqn
 rw[←Zzh]
 by_cases hl:a.length=b.length
 ·rw[ZdM (by omega),Xae hl,Xaj,ZeA a.length (Zrd a b) false true]
  ·cases (List.range a.length).all (Zrd a b)<;>rfl
  ·intro i hi _
   unfold ZmU Zrd
   rw[Zc (by omega),Zb ⟨by omega,by omega⟩,Zb ⟨by omega,by omega⟩,Xab]
   by_cases hq:a.getD i 0=b.getD i 0
   ·rw[ZdM hq,Zf (by omega) (by omega),beq_iff_eq.2 hq,ctt]
   ·rw[Zei hq,beq_eq_false_iff_ne.2 hq,cff]
  ·unfold ZmU
   rw[Zd (by omega)]
 ·rw[Zei (by omega),decide_eq_false hl,Xai]
theorem Zq1 {r:ZG} {v:List Int} (hs:Ze3 r) (h:ZgY r=true) (hv:ZD0 r v):ZiH r v=some (holdsB r v):=by
 obtain⟨s1,s2,s3,s4⟩:=hs
 unfold ZiH holdsB
 by_cases h1:r.1=1
 ·rw[Zx h1,beq_iff_eq.2 h1,ctt,ZFb h h1 hv (f:=Zmk r v) (Or.inl (fun _ _=>rfl))]
 ·rw[Zt h1,beq_eq_false_iff_ne.2 h1,cff]
  by_cases h2:r.1=2
  ·rw[Zx h2,beq_iff_eq.2 h2,ctt,ZEZ hv.few]
  ·rw[Zt h2,beq_eq_false_iff_ne.2 h2,cff]
   by_cases h3:r.1=3
   ·rw[Zx h3,beq_iff_eq.2 h3,ctt]
    unfold ZcS Zdk
    obtain⟨q,hq1,hq2⟩:=Zha (f:=Zbl r.2.2.2.2 v) r.2.2.2.2 [] (fun row=>row==v) (fun i hi=>by
     have hx:=s4 _ (Zz (l:=r.2.2.2.2) (i:=i) (d:=[]) hi)
     unfold Zbl Zm9
     rw[Zc (by omega),Zb ⟨by omega,by omega⟩,Xab,ZEi _ _ hx,Ze,Ze]
     cases r.2.2.2.2.getD i []==v with
     |true=>rw[ctt,ctt]
     |false=>rw[cff,cff,Zf (by omega) (by omega)]) (by
     unfold Zbl
     rw[Zd (by omega)])
    rw[hq1,Ze,Ze,hq2]
   ·obtain⟨_,k2⟩:=ZHh h h1 h2 h3
    have hl:=hv.len
    rw[Zt h3,beq_eq_false_iff_ne.2 h3,cff,Zb ⟨by omega,by omega⟩,Zb ⟨by omega,by omega⟩]
    rfl
theorem ZDW {r:ZG} {v:List Int} (hs:Ze3 r) (h:ZgY r=true) (hv:ZD0 r v):ZlM r v=some (holdsB r v):=by
 obtain⟨s1,s2,s3,s4⟩:=hs
 unfold ZlM holdsB
 by_cases h1:r.1=1
 ·rw[Zx h1,beq_iff_eq.2 h1,ctt,ZFb h h1 hv (f:=Zpq r v) (Or.inr (fun _ _=>rfl))]
 ·rw[Zt h1,beq_eq_false_iff_ne.2 h1,cff]
  by_cases h2:r.1=2
  ·rw[Zx h2,beq_iff_eq.2 h2,ctt,ZFO hv.few]
  ·rw[Zt h2,beq_eq_false_iff_ne.2 h2,cff]
   by_cases h3:r.1=3
   ·rw[Zt (by omega),beq_iff_eq.2 h3,ctt,ZeA r.2.2.2.2.length (fun i=>!(r.2.2.2.2.getD i []==v)) true false]
    ·rw[Zj6 r.2.2.2.2 (fun row=>!(row==v)) [],Xa3]
     cases r.2.2.2.2.all (fun row=>!(row==v))<;>rfl
    ·intro i hi _
     have hx:=s4 _ (Zz (l:=r.2.2.2.2) (i:=i) (d:=[]) hi)
     unfold ZlN
     rw[Zc (by omega),Zb ⟨by omega,by omega⟩,Xab,ZCo _ _ hx,Ze]
     cases r.2.2.2.2.getD i []==v with
     |true=>rw[ctt,Xbf,cff]
     |false=>rw[cff,Zf (by omega) (by omega),Xbd,ctt]
    ·unfold ZlN
     rw[Zd (by omega)]
   ·obtain⟨k1,k2⟩:=ZHh h h1 h2 h3
    have hl:=hv.len
    rw[Zx k1,beq_eq_false_iff_ne.2 h3,cff,Zb ⟨by omega,by omega⟩,Zb ⟨by omega,by omega⟩]
    rfl
theorem ZzV {m:Zr} {r:ZG} {x:List Int} (hm:ZE m=true) (hs:Ze3 r) (hx:Z2 m x=true) (hr:ZfM m.1.length r=true):ZD0 r (Zb5 r.2.1 x):=by
 obtain⟨x1,x2⟩:=Zvi hx
 obtain⟨r1,r2,r3⟩:=ZvS hr
 refine⟨by unfold Zb5;rw[Xak],by unfold Zb5;rw[Xak];exact hs.1,fun i=>?_⟩
 rcases Xad i r.2.1.length with h1|h1
 ·unfold Zb5
  rw[Zmi r.2.1 (fun v=>x.getD v.toNat 0) i 0 0 h1]
  have q1:=r1 i h1
  have q2:=x2 (r.2.1.getD i 0).toNat (by omega)
  have q3:=ZCc hm (i:=(r.2.1.getD i 0).toNat) (by omega)
  omega
 ·rw[Xaa,Xaw (by unfold Zb5;rw[Xak];exact h1)]
  decide
theorem ZAD {m:Zr} {r:ZG} {x:List Int} (hm:ZE m=true) (hs:Ze3 r) (hx:Z2 m x=true) (hr:ZfM m.1.length r=true):Zpb r x=some (holdsB r (Zb5 r.2.1 x)):=by
 obtain⟨x1,x2⟩:=Zvi hx
 obtain⟨r1,r2,r3⟩:=ZvS hr
 have hs1:=hs.1
 unfold Zpb
 refine ZJ (f:=ZlH r x) (fun s:Int×List Int=>∃i:Nat,s.1=i∧i≤r.2.1.length∧s.2=Zb5 (r.2.1.take i) x) (fun s=>r.2.1.length - s.1.toNat) (fun _=>holdsB r (Zb5 r.2.1 x)) ?_ _ ⟨0,rfl,Nat.zero_le _,rfl⟩
 rintro⟨s,v⟩ ⟨i,rfl,hi,rfl⟩
 dsimp only
 unfold ZlH
 dsimp only
 rcases Xad i r.2.1.length with h1|h1
 ·left
  have q1:=r1 i h1
  have hl:(Zb5 (r.2.1.take i) x).length=i:=by unfold Zb5;rw[Xak,Xaz];omega
  rw[Zc (by omega),Zb ⟨by omega,by omega⟩,Xab,Zb ⟨by omega,by omega⟩,Zb (by rw[hl,Xav];simp only[Zl];omega),Zf (by omega) (by omega)]
  refine⟨_,rfl,⟨i+1,by simp,by omega,?_⟩,by (try dsimp only)<;>omega,rfl⟩
  unfold Zb5
  rw[ZmX h1,Xa0]
  rfl
 ·right
  have:i=r.2.1.length:=by omega
  subst this
  unfold Zpc
  rw[Zd (by omega),XaA,Zq1 hs r3 (ZzV hm hs hx hr),Ze]
  rfl
theorem ZBe {m:Zr} {r:ZG} {x:List Int} (hm:ZE m=true) (hs:Ze3 r) (hx:Z2 m x=true) (hr:ZfM m.1.length r=true):Zpp r x=some (holdsB r (Zb5 r.2.1 x)):=by
 obtain⟨x1,x2⟩:=Zvi hx
 obtain⟨r1,r2,r3⟩:=ZvS hr
 have hs1:=hs.1
 unfold Zpp
 refine ZJ (f:=ZlO r x) (fun s:Int×List Int=>∃i:Nat,s.1=i∧i≤r.2.1.length∧s.2=Zb5 (r.2.1.take i) x) (fun s=>r.2.1.length - s.1.toNat) (fun _=>holdsB r (Zb5 r.2.1 x)) ?_ _ ⟨0,rfl,Nat.zero_le _,rfl⟩
 rintro⟨s,v⟩ ⟨i,rfl,hi,rfl⟩
 dsimp only
 unfold ZlO
 dsimp only
 rcases Xad i r.2.1.length with h1|h1
 ·left
  have q1:=r1 i h1
  have hl:(Zb5 (r.2.1.take i) x).length=i:=by unfold Zb5;rw[Xak,Xaz];omega
  rw[Zc (by omega),Zb ⟨by omega,by omega⟩,Xab,Zb ⟨by omega,by omega⟩,Zb (by rw[hl,Xav];simp only[Zl];omega),Zf (by omega) (by omega)]
  refine⟨_,rfl,⟨i+1,by simp,by omega,?_⟩,by (try dsimp only)<;>omega,rfl⟩
  unfold Zb5
  rw[ZmX h1,Xa0]
  rfl
 ·right
  have:i=r.2.1.length:=by omega
  subst this
  rw[Zd (by omega),XaA,ZDW hs r3 (ZzV hm hs hx hr)]
  rfl
theorem ZvH {m:Zr} (hm:ZE m=true):∀r∈m.2,ZfM m.1.length r=true:=by
 unfold ZE at hm
 simp only[Xag,Xar]at hm
 exact hm.2.2.2.2
theorem ZB2 {m:Zr} {x:List Int} (h:Zfo m) (hm:ZE m=true) (hx:Z2 m x=true):Zji m x=some (ZcH m x):=by
 have h2:=h.2.1
 unfold Zji Zcl Zcx ZcH
 obtain⟨q,hq1,hq2⟩:=Zha (f:=Z4 m.2 x) m.2 (0,[],[],0,[]) (fun r=>!holdsB r (Zb5 r.2.1 x)) (fun i hi=>by
  have hr:=Zz (l:=m.2) (i:=i) (d:=(0,[],[],0,[])) hi
  unfold Z4 Zlr
  rw[Zc (by omega),Zb ⟨by omega,by omega⟩,Xab,ZAD hm (h.2.2 _ hr) hx (ZvH hm _ hr),Ze,Ze]
  cases holdsB (m.2.getD i (0,[],[],0,[])) (Zb5 (m.2.getD i (0,[],[],0,[])).2.1 x)with
  |true=>rw[Xbf,cff,cff,Zf (by omega) (by omega)]
  |false=>rw[Xbd,ctt,ctt]) (by
  unfold Z4
  rw[Zd (by omega)])
 rw[hq1,Ze,Ze,hq2,Xa3]
 simp only[XbH]
end Go.AE.Y
namespace Go.AE.Y
open Go Go.AE
def ZfD (s:List Int):Nat→List Int→Bool×List Int
 |0,x=>(false,x)
 |n+1,x=>bif decide (x.getD n 0<s.getD n 0)then(true,x.set n (x.getD n 0+1))else ZfD s n (x.set n 0)
def Zmq (x:List Int):Nat→Int
 |0=>0
 |n+1=>4*Zmq x n+x.getD n 0
def Dig (s x:List Int):Prop:=∀i,0≤x.getD i 0∧x.getD i 0≤s.getD i 0
theorem ZzQ (s:List Int) (n:Nat) (x:List Int):ZfD s (n+1) x=bif decide (x.getD n 0<s.getD n 0)then(true,x.set n (x.getD n 0+1))else ZfD s n (x.set n 0):=rfl
theorem Zyy (s:List Int):∀n x,(ZfD s n x).2.length=x.length
 |0,_=>rfl
 |n+1,x=>by
  unfold ZfD
  cases decide (x.getD n 0<s.getD n 0)with
  |true=>rw[ctt];exact Xam
  |false=>rw[cff,Zyy s n];exact Xam
theorem Zys {s x:List Int} (h:Dig s x) {n:Nat} {v:Int} (h0:0≤v) (h1:v≤s.getD n 0):Dig s (x.set n v):=by
 intro i
 rw[ZiZ]
 by_cases hi:n=i∧n<x.length
 ·rw[if_pos hi,←hi.1];exact⟨h0,h1⟩
 ·rw[if_neg hi];exact h i
theorem ZHp {s:List Int}:∀n x,Dig s x→Dig s (ZfD s n x).2
 |0,_,h=>h
 |n+1,x,h=>by
  have hn:=h n
  unfold ZfD
  cases hq:decide (x.getD n 0<s.getD n 0)with
  |true=>
   have:=of_decide_eq_true hq
   rw[ctt]
   exact Zys h (by omega) (by omega)
  |false=>
   rw[cff]
   exact ZHp n _ (Zys h (by omega) (by omega))
theorem ZFn {s:List Int}:∀n x,n≤x.length→(ZfD s n x).1=true→∃k,k<n∧(ZfD s n x).2.getD k 0=x.getD k 0+1∧(∀j,j<k→(ZfD s n x).2.getD j 0=x.getD j 0)∧∀j,k<j→j<n→(ZfD s n x).2.getD j 0=0
 |0,_,_,h=>by cases h
 |n+1,x,hl,h=>by
  unfold ZfD at h ⊢
  cases hq:decide (x.getD n 0<s.getD n 0)with
  |true=>
   rw[ctt]
   refine⟨n,by omega,ZcM (by omega),fun j hj=>ZU (by omega),fun j h1 h2=>by omega⟩
  |false=>
   rw[hq,cff]at h
   rw[cff]
   obtain⟨k,k1,k2,k3,k4⟩:=ZFn n (x.set n 0) (by rw[Xam];omega) h
   have hn:(ZfD s n (x.set n 0)).2.getD n 0=0:=by
    have:∀n' y,n'≤n→(ZfD s n' y).2.getD n 0=y.getD n 0:=by
     intro n'
     induction n' with
     |zero=>intro y _;rfl
     |succ a ih=>
      intro y ha
      unfold ZfD
      cases decide (y.getD a 0<s.getD a 0)with
      |true=>rw[ctt];exact ZU (by omega)
      |false=>rw[cff,ih _ (by omega)];exact ZU (by omega)
    rw[this n _ (Nat.le_refl _)]
    exact ZcM (by omega)
   refine⟨k,by omega,by rw[k2,ZU (by omega)],fun j hj=>by rw[k3 j hj,ZU (by omega)],fun j h1 h2=>?_⟩
   rcases Xad j n with h3|h3
   ·exact k4 j h1 h3
   ·rw[show j=n by omega];exact hn
theorem ZMq {x y:List Int} {k:Nat} (h1:y.getD k 0=x.getD k 0+1) (h2:∀j,j<k→y.getD j 0=x.getD j 0) (h3:∀i,x.getD i 0≤3) {n:Nat} (h4:∀j,k<j→j<n→y.getD j 0=0) :
  (∀j,j≤k→Zmq y j=Zmq x j)∧(k<n→Zmq x n+1≤Zmq y n):=by
 have e:∀j,j≤k→Zmq y j=Zmq x j:=by
  intro j
  induction j with
  |zero=>intro _;rfl
  |succ j ih=>
   intro hj
   unfold Zmq
   rw[ih (by omega),h2 j (by omega)]
 refine⟨e,?_⟩
 induction n with
 |zero=>intro h;omega
 |succ n ih=>
  intro hk
  unfold Zmq
  rcases Xad k n with h5|h5
  ·have:=ih (fun j a b=>h4 j a (by omega)) h5
   have:=h4 n h5 (by omega)
   have:=h3 n
   omega
  ·have:k=n:=by omega
   subst this
   rw[e k (Nat.le_refl _),h1]
   omega
theorem ZDa {x:List Int} (h:∀i,0≤x.getD i 0∧x.getD i 0≤3):∀n:Nat,0≤Zmq x n∧Zmq x n+1≤((4^n:Nat):Int)
 |0=>⟨Xaq _,by show (0:Int)+1≤((4^0:Nat):Int);decide⟩
 |n+1=>by
  have ih:=ZDa h n
  have:=h n
  have e:((4^(n+1):Nat):Int)=4*((4^n:Nat):Int):=by rw[Nat.pow_succ];omega
  rw[e]
  unfold Zmq
  omega
theorem Ze9 {m:Zr} {x:List Int} (hx:Z2 m x=true):x.length=m.1.length∧Dig m.1 x:=by
 obtain⟨x1,x2⟩:=Zvi hx
 refine⟨x1,fun i=>?_⟩
 rcases Xad i x.length with h|h
 ·exact x2 i h
 ·rw[Xaa,Xaw h,Xaa,Xaw (by omega)]
  decide
theorem ZCT {m:Zr} {x:List Int} (hl:x.length=m.1.length) (h:Dig m.1 x):Z2 m x=true:=by
 unfold Z2 cellAt
 simp only[Xag,Xaf,Xar]
 exact⟨hl,fun i _=>h i⟩
theorem ZtH {m:Zr} {x:List Int} (hm:ZE m=true) (h:Dig m.1 x):∀i,0≤x.getD i 0∧x.getD i 0≤3:=by
 intro i
 have h1:=h i
 rcases Xad i m.1.length with h2|h2
 ·have:=ZCc hm h2
  omega
 ·have e:m.1.getD i 0=0:=by rw[Xaa,Xaw h2];rfl
  omega
def ZbO (m:Zr) (x:List Int):Bool×List Int:=ZfD m.1 x.length x
def muF (x:List Int):Nat:=1024 - (Zmq x x.length).toNat
theorem ZmO {m:Zr} {x:List Int} (hx:Z2 m x=true):Z2 m (ZbO m x).2=true:=by
 obtain⟨x1,x2⟩:=Ze9 hx
 exact ZCT (by unfold ZbO;rw[Zyy];exact x1) (ZHp _ _ x2)
theorem Zq8 {m:Zr} {x:List Int} (hm:ZE m=true) (hx:Z2 m x=true):1≤muF x∧0≤Zmq x x.length∧Zmq x x.length≤1023:=by
 obtain⟨x1,x2⟩:=Ze9 hx
 obtain⟨m1,m2,m3⟩:=ZeB hm
 have hb:=ZDa (ZtH hm x2) x.length
 have h4:4^x.length≤4^5:=Nat.pow_le_pow_right (by decide) (by omega)
 have h5:(4:Nat)^5=1024:=by decide
 unfold muF
 omega
theorem Zsd {m:Zr} {x:List Int} (hm:ZE m=true) (hx:Z2 m x=true) (h:(ZbO m x).1=true):muF (ZbO m x).2<muF x:=by
 obtain⟨x1,x2⟩:=Ze9 hx
 have hp:=Zq8 hm hx
 have hp':=Zq8 hm (ZmO hx)
 have hl:(ZbO m x).2.length=x.length:=Zyy _ _ _
 obtain⟨k,k1,k2,k3,k4⟩:=ZFn (s:=m.1) x.length x (Nat.le_refl _) h
 have:=(ZMq k2 k3 (fun i=>(ZtH hm x2 i).2) k4).2 k1
 unfold muF at *
 rw[hl]at hp' ⊢
 have e:Zmq (ZbO m x).2 x.length=Zmq (ZfD m.1 x.length x).2 x.length:=rfl
 omega
theorem ZCp {m:Zr} {x:List Int} (hm:ZE m=true) (hx:Z2 m x=true):ZnB m x=some (ZbO m x):=by
 obtain⟨x1,x2⟩:=Ze9 hx
 obtain⟨m1,m2,m3⟩:=ZeB hm
 unfold ZnB ZbO
 rw[Xat,Zb (by simp only[Xao,Zl];omega),Zf (by omega) (by omega)]
 refine ZJ (f:=ZmV m) (fun s:Int×List Int=>∃n:Nat,s.1=(n:Int) - 1∧n≤x.length∧s.2.length=x.length∧Dig m.1 s.2) (fun s=>(s.1+1).toNat) (fun s=>ZfD m.1 (s.1+1).toNat s.2) ?_ _ ⟨x.length,rfl,Nat.le_refl _,rfl,x2⟩ |>.trans ?_
 ·rintro⟨s,y⟩ ⟨n,hs,hn,hl,hd⟩
  dsimp only at hs hl hd ⊢
  subst hs
  unfold ZmV
  dsimp only
  cases n with
  |zero=>
   right
   rw[Zd (by omega)]
   rfl
  |succ n=>
   have e:(((n+1:Nat):Int) - 1).toNat=n:=by omega
   have e':(((n+1:Nat):Int) - 1+1).toNat=n+1:=by omega
   have hz:=ZtH hm hd n
   rw[Zc (by omega),Zb ⟨by omega,by omega⟩,Zb ⟨by omega,by omega⟩,e,e',ZzQ]
   cases hq:decide (y.getD n 0<m.1.getD n 0)with
   |true=>
    right
    rw[ctt,ctt,Zb ⟨by omega,by omega⟩,Zf (by omega) (by omega),Zb ⟨by omega,by omega⟩]
   |false=>
    left
    rw[cff,cff,Zb ⟨by omega,by omega⟩,Zf (by omega) (by omega)]
    refine⟨_,rfl,⟨n,by (try dsimp only)<;>omega,by omega,by (try dsimp only)<;>(rw[Xam];exact hl),Zys hd (by omega) (by have:=hd n;omega)⟩,by (try dsimp only)<;>omega,?_⟩
    dsimp only
    rw[show (((n+1:Nat):Int) - 1 - 1+1).toNat=n by omega]
 ·dsimp only
  rw[show ((x.length:Int) - 1+1).toNat=x.length by omega]
theorem ZCN {s:List Int} (h:s.length≤1048576):ZbT s=some s:=by
 unfold ZbT
 refine ZxQ (fun e=>by rw[e]) ?_
 rw[Zb (by simp only[Xao,Zl];omega),Xat]
theorem Zpz {m:Zr} (hm:ZE m=true):Z2 m (List.replicate m.1.length 0)=true:=by
 refine ZCT XaG (fun i=>?_)
 have e:(List.replicate m.1.length (0:Int)).getD i 0=0:=by
  rw[Xaa]
  rcases Xad i m.1.length with h|h
  ·rw[XaO h];rfl
  ·rw[Xaw (by rw[XaG];exact h)];rfl
 rw[e]
 rcases Xad i m.1.length with h|h
 ·have:=ZCc hm h
  omega
 ·rw[Xaa,Xaw h]
  decide
end Go.AE.Y
namespace Go.AE.Y
open Go Go.AE
def LtL (n:Nat) (x y:List Int):Prop:=∃k,k<n∧x.getD k 0<y.getD k 0∧∀j,j<k→x.getD j 0=y.getD j 0
theorem LtL.trans {n:Nat} {x y z:List Int}:LtL n x y→LtL n y z→LtL n x z:=by
 rintro⟨a,a1,a2,a3⟩ ⟨b,b1,b2,b3⟩
 rcases Xad a b with h|h
 ·exact⟨a,a1,by rw[←b3 a h];exact a2,fun j hj=>by rw[a3 j hj,b3 j (by omega)]⟩
 ·rcases Xad b a with h'|h'
  ·exact⟨b,b1,by rw[a3 b h'];exact b2,fun j hj=>by rw[a3 j (by omega),b3 j hj]⟩
  ·have:a=b:=by omega
   subst this
   exact⟨a,a1,by omega,fun j hj=>by rw[a3 j hj,b3 j hj]⟩
theorem Zvu {x y:List Int}:∀n,(∀i,i<n→x.getD i 0≤y.getD i 0)→(∀i,i<n→x.getD i 0=y.getD i 0)∨LtL n x y
 |0,_=>Or.inl (fun i hi=>by omega)
 |n+1,h=>by
  rcases Zvu n (fun i hi=>h i (by omega))with e|⟨k,k1,k2,k3⟩
  ·have hn:=h n (by omega)
   by_cases q:x.getD n 0=y.getD n 0
   ·left
    intro i hi
    rcases Xad i n with h2|h2
    ·exact e i h2
    ·rw[show i=n by omega];exact q
   ·right
    exact⟨n,by omega,by omega,e⟩
  ·exact Or.inr ⟨k,by omega,k2,k3⟩
theorem ZtK {x y:List Int} (hl:x.length=y.length) (h:∀i,i<x.length→x.getD i 0=y.getD i 0):x=y:=by
 apply XbP hl
 intro i h1 h2
 have:=h i h1
 rwa [Xaa,Xaa,Xac h1,Xac h2]at this
theorem ZxR {s:List Int}:∀n x,n≤x.length→((ZfD s n x).1=false∧∀j,j<n→s.getD j 0≤x.getD j 0)∨((ZfD s n x).1=true∧∃k,k<n∧(ZfD s n x).2.getD k 0=x.getD k 0+1∧(∀j,j<k→(ZfD s n x).2.getD j 0=x.getD j 0)∧(∀j,n≤j→(ZfD s n x).2.getD j 0=x.getD j 0)∧∀j,k<j→j<n→(ZfD s n x).2.getD j 0=0∧s.getD j 0≤x.getD j 0)
 |0,_,_=>Or.inl ⟨rfl,fun j hj=>by omega⟩
 |n+1,x,hl=>by
  rw[ZzQ]
  cases hq:decide (x.getD n 0<s.getD n 0)with
  |true=>
   rw[ctt]
   right
   exact⟨rfl,n,by omega,ZcM (by omega),fun j hj=>ZU (by omega),fun j hj=>ZU (by omega),fun j h1 h2=>by omega⟩
  |false=>
   rw[cff]
   have hq':=of_decide_eq_false hq
   rcases ZxR n (x.set n 0) (by rw[Xam];omega)with⟨h1,h2⟩|⟨h1,k,k1,k2,k3,k4,k5⟩
   ·left
    refine⟨h1,fun j hj=>?_⟩
    rcases Xad j n with h3|h3
    ·have:=h2 j h3
     rwa [ZU (by omega)]at this
    ·rw[show j=n by omega];omega
   ·right
    refine⟨h1,k,by omega,by rw[k2,ZU (by omega)],fun j hj=>by rw[k3 j hj,ZU (by omega)],fun j hj=>by rw[k4 j (by omega),ZU (by omega)],fun j h3 h4=>?_⟩
    rcases Xad j n with h5|h5
    ·have:=k5 j h3 h5
     rwa [ZU (by omega)]at this
    ·have:j=n:=by omega
     subst this
     exact⟨by rw[k4 j (Nat.le_refl _)];exact ZcM (by omega),by omega⟩
theorem ZHn {m:Zr} {x:List Int} (hx:Z2 m x=true) (h:(ZbO m x).1=true):LtL m.1.length x (ZbO m x).2:=by
 obtain⟨x1,_⟩:=Ze9 hx
 unfold ZbO at h ⊢
 rcases ZxR (s:=m.1) x.length x (Nat.le_refl _)with⟨h1,_⟩|⟨_,k,k1,k2,k3,_⟩
 ·rw[h1]at h;cases h
 ·exact⟨k,by omega,by rw[k2];omega,fun j hj=>(k3 j hj).symm⟩
theorem ZLW {m:Zr} {x y:List Int} (hx:Z2 m x=true) (hy:Z2 m y=true) (h:LtL m.1.length x y):(ZbO m x).1=true∧((ZbO m x).2=y∨LtL m.1.length (ZbO m x).2 y):=by
 obtain⟨x1,x2⟩:=Ze9 hx
 obtain⟨y1,y2⟩:=Ze9 hy
 obtain⟨a,a1,a2,a3⟩:=h
 have hl:(ZbO m x).2.length=x.length:=Zyy _ _ _
 unfold ZbO at hl ⊢
 have hya:=y2 a
 rcases ZxR (s:=m.1) x.length x (Nat.le_refl _)with⟨h1,h2⟩|⟨h1,k,k1,k2,k3,k4,k5⟩
 ·have:=h2 a (by omega)
  omega
 ·refine⟨h1,?_⟩
  rcases Xad k a with q|q
  ·have:=(k5 a q (by omega)).2
   omega
  ·rcases Xad a k with q'|q'
   ·right
    exact⟨a,a1,by rw[k3 a q'];exact a2,fun j hj=>by rw[k3 j (by omega),a3 j hj]⟩
   ·have:a=k:=by omega
    subst this
    have hle:∀i,i<m.1.length→(ZfD m.1 x.length x).2.getD i 0≤y.getD i 0:=fun i hi=>by
     rcases Xad i a with r|r
     ·rw[k3 i r,a3 i r];omega
     ·rcases Xad a i with r'|r'
      ·rw[(k5 i r' (by omega)).1];exact(y2 i).1
      ·rw[show i=a by omega,k2];omega
    rcases Zvu m.1.length hle with e|e
    ·left
     exact ZtK (by omega) (fun i hi=>e i (by omega))
    ·exact Or.inr e
def Zp8 (m:Zr):Nat→List Int→List (List Int)
 |0,x=>[x]
 |n+1,x=>x::bif (ZbO m x).1 then Zp8 m n (ZbO m x).2 else[]
def Zm5 (m:Zr) (x:List Int):List (List Int):=Zp8 m 1024 x
def ZlX (m:Zr):List Int:=List.replicate m.1.length 0
theorem ZFE {m:Zr} (hm:ZE m=true):∀n n' x,Z2 m x=true→muF x≤n→muF x≤n'→Zp8 m n x=Zp8 m n' x
 |0,_,x,hx,h,_=>by have:=(Zq8 hm hx).1;omega
 |_+1,0,x,hx,_,h=>by have:=(Zq8 hm hx).1;omega
 |n+1,n'+1,x,hx,h,h'=>by
  unfold Zp8
  cases hq:(ZbO m x).1 with
  |false=>rfl
  |true=>
   have:=Zsd hm hx hq
   rw[ctt,ctt,ZFE hm n n' _ (ZmO hx) (by omega) (by omega)]
theorem Zvc {m:Zr} {x:List Int} (hm:ZE m=true) (hx:Z2 m x=true):Zm5 m x=x::bif (ZbO m x).1 then Zm5 m (ZbO m x).2 else[]:=by
 have h1:Zm5 m x=x::bif (ZbO m x).1 then Zp8 m 1023 (ZbO m x).2 else[]:=rfl
 rw[h1]
 cases hq:(ZbO m x).1 with
 |false=>rw[cff,cff]
 |true=>
  have h2:=Zsd hm hx hq
  have h3:muF x≤1024:=by unfold muF;omega
  rw[ctt,ctt]
  unfold Zm5
  rw[ZFE hm 1023 1024 _ (ZmO hx) (by omega) (by omega)]
theorem ZJJ {m:Zr}:∀n x,Z2 m x=true→∀z∈Zp8 m n x,Z2 m z=true∧(z=x∨LtL m.1.length x z)
 |0,x,hx,z,hz=>by
  unfold Zp8 at hz
  rw[Xah]at hz
  subst hz
  exact⟨hx,Or.inl rfl⟩
 |n+1,x,hx,z,hz=>by
  unfold Zp8 at hz
  rcases XaC.1 hz with rfl|hz
  ·exact⟨hx,Or.inl rfl⟩
  ·cases hq:(ZbO m x).1 with
   |false=>rw[hq,cff]at hz;cases hz
   |true=>
    rw[hq,ctt]at hz
    obtain⟨h1,h2⟩:=ZJJ n _ (ZmO hx) z hz
    refine⟨h1,Or.inr ?_⟩
    rcases h2 with rfl|h2
    ·exact ZHn hx hq
    ·exact(ZHn hx hq).trans h2
theorem ZFD {m:Zr} (hm:ZE m=true) {y:List Int} (hy:Z2 m y=true):∀n x,Z2 m x=true→muF x≤n→(x=y∨LtL m.1.length x y)→y∈Zp8 m n x
 |0,x,hx,h,_=>by have:=(Zq8 hm hx).1;omega
 |n+1,x,hx,h,hl=>by
  unfold Zp8
  rcases hl with rfl|hl
  ·exact Xau
  ·obtain⟨h1,h2⟩:=ZLW hx hy hl
   have:=Zsd hm hx h1
   rw[h1,ctt]
   refine Xas _ (ZFD hm hy n _ (ZmO hx) (by omega) h2)
theorem Zyx {m:Zr} (hm:ZE m=true) {y:List Int}:y∈Zm5 m (ZlX m)↔Z2 m y=true:=by
 have hz:=Zpz hm
 constructor
 ·intro h
  exact(ZJJ 1024 _ hz y h).1
 ·intro h
  obtain⟨y1,y2⟩:=Ze9 h
  refine ZFD hm h 1024 _ hz (by unfold muF;omega) ?_
  have e0:∀i,(ZlX m).getD i 0=0:=fun i=>by
   unfold ZlX
   rw[Xaa]
   rcases Xad i m.1.length with h|h
   ·rw[XaO h];rfl
   ·rw[Xaw (by rw[XaG];exact h)];rfl
  rcases Zvu (x:=ZlX m) (y:=y) m.1.length (fun i _=>by rw[e0];exact(y2 i).1)with e|e
  ·exact Or.inl (ZtK (by unfold ZlX;rw[XaG];exact y1.symm) (fun i hi=>e i (by unfold ZlX at hi;rwa [XaG]at hi)))
  ·exact Or.inr e
theorem ZFm {X:Type} {m:Zr} {x:List Int} (hm:ZE m=true) (hx:Z2 m x=true) (good:List Int→X) (bad:X) {f:Int×List Int→Option ((Int×List Int)⊕X)} {g:Int×List Int→Option X}
  (hf:∀i y,f (i,y)=cond (decide ((0:Int)≤i)) (rq (0≤i∧i<y.length) <|rq (0≤i∧i<m.1.length) <|cond ((y.getD i.toNat 0)==(m.1.getD i.toNat 0)) (rq (0≤i∧i<y.length) <|rq (i64 (i - (1:Int))) <|some (.inl ((i - (1:Int)),(y.set i.toNat (0:Int))))) (up (g (i,y)))) (up (g (i,y))))
  (hg:∀i y,g (i,y)=cond (decide (i<(0:Int))) (some bad) (rq (0≤i∧i<y.length) <|rq (i64 ((y.getD i.toNat 0)+(1:Int))) <|rq (0≤i∧i<y.length) <|some (good (y.set i.toNat ((y.getD i.toNat 0)+(1:Int)))))) :
  loop f (((x.length:Int) - 1),x)=some (bif (ZbO m x).1 then good (ZbO m x).2 else bad):=by
 obtain⟨x1,x2⟩:=Ze9 hx
 obtain⟨m1,m2,m3⟩:=ZeB hm
 unfold ZbO
 refine ZJ (f:=f) (fun s:Int×List Int=>∃n:Nat,s.1=(n:Int) - 1∧n≤x.length∧s.2.length=x.length∧Dig m.1 s.2) (fun s=>(s.1+1).toNat)
  (fun s=>bif (ZfD m.1 (s.1+1).toNat s.2).1 then good (ZfD m.1 (s.1+1).toNat s.2).2 else bad) ?_ _ ⟨x.length,rfl,Nat.le_refl _,rfl,x2⟩ |>.trans ?_
 ·rintro⟨s,y⟩ ⟨n,hs,hn,hl,hd⟩
  dsimp only at hs hl hd ⊢
  subst hs
  rw[hf,hg]
  cases n with
  |zero=>
   right
   rw[Zd (by omega),Zc (by omega)]
   rfl
  |succ n=>
   have e:(((n+1:Nat):Int) - 1).toNat=n:=by omega
   have e':(((n+1:Nat):Int) - 1+1).toNat=n+1:=by omega
   have hz:=ZtH hm hd n
   have hdn:=hd n
   rw[Zc (by omega),Zb ⟨by omega,by omega⟩,Zb ⟨by omega,by omega⟩,e,e',ZzQ]
   by_cases hq:y.getD n 0=m.1.getD n 0
   ·left
    rw[Zx hq,decide_eq_false (show ¬y.getD n 0<m.1.getD n 0 by omega),cff,Zb ⟨by omega,by omega⟩,Zf (by omega) (by omega)]
    refine⟨_,rfl,⟨n,by (try dsimp only)<;>omega,by omega,by (try dsimp only)<;>(rw[Xam];exact hl),Zys hd (by omega) (by omega)⟩,by (try dsimp only)<;>omega,?_⟩
    dsimp only
    rw[show (((n+1:Nat):Int) - 1 - 1+1).toNat=n by omega]
   ·right
    rw[Zt hq,Xae (show y.getD n 0<m.1.getD n 0 by omega),ctt,Zd (by omega),Zb ⟨by omega,by omega⟩,Zf (by omega) (by omega),Zb ⟨by omega,by omega⟩]
    rfl
 ·dsimp only
  rw[show ((x.length:Int) - 1+1).toNat=x.length by omega]
noncomputable def ZAu (m:Zr):Int:=bif ZE m then(((Zm5 m (ZlX m)).countP (ZcH m):Nat):Int)else 0
theorem Zxp (m:Zr) (h:Zfo m):ZiF m=some (ZAu m):=by
 unfold ZiF ZAu
 rw[ZiG m h,Ze]
 cases hm:ZE m with
 |false=>rw[cnf,cff]
 |true=>
  obtain⟨m1,m2,m3⟩:=ZeB hm
  have hz:=Zpz hm
  rw[cnt,ctt,Zb ⟨by omega,by simp only[Zl];omega,rfl⟩,Xab]
  have key:Zd8 m.1 (List.replicate m.1.length 0) m 0=some (((Zm5 m (ZlX m)).countP (ZcH m):Nat):Int):=by
   unfold Zd8
   rw[ZCN (by rw[XaG];omega),Ze]
   refine(ZJ (f:=ZdI m.1 m) (fun s:Int×List Int=>Z2 m s.2=true∧0≤s.1∧s.1+muF s.2≤2000) (fun s=>muF s.2) (fun s=>s.1+(((Zm5 m s.2).countP (ZcH m):Nat):Int)) ?_ _ ⟨hz,Xaq _,by unfold muF;dsimp only;omega⟩).trans (by rw[XbX];rfl)
   rintro⟨n,x⟩ ⟨hx,hn,hb⟩
   dsimp only at hx hn hb ⊢
   obtain⟨x1,x2⟩:=Ze9 hx
   have hp:=(Zq8 hm hx).1
   have told:ZfJ m n x=some (true,n+bif ZcH m x then 1 else 0):=by
    unfold ZfJ
    rw[ZB2 h hm hx,Ze]
    cases ZcH m x with
    |true=>rw[ctt,ctt,Zf (by omega) (by omega)]
    |false=>rw[cff,cff,Int.add_zero]
   have ec:(((Zm5 m x).countP (ZcH m):Nat):Int)=(bif ZcH m x then 1 else 0)+(((bif (ZbO m x).1 then Zm5 m (ZbO m x).2 else[]).countP (ZcH m):Nat):Int):=by
    rw[Zvc hm hx,Xb0]
    cases ZcH m x with
    |true=>rw[if_pos rfl,ctt];omega
    |false=>rw[if_neg (by decide),cff];omega
   unfold ZdI
   dsimp only
   rw[told,Ze,ctt,Zf (by omega) (by omega),ZFm (X:=(Int×List Int)⊕Int) hm hx (fun y=>.inl (n+bif ZcH m x then 1 else 0,y)) (.inr (n+bif ZcH m x then 1 else 0)) (f:=ZeN m.1 (true,n+bif ZcH m x then 1 else 0)) (g:=ZdH (true,n+bif ZcH m x then 1 else 0)) (fun _ _=>rfl) (fun _ _=>rfl),ec]
   have hle:0≤(bif ZcH m x then(1:Int)else 0)∧(bif ZcH m x then(1:Int)else 0)≤1:=by cases ZcH m x<;>decide
   generalize (bif ZcH m x then(1:Int)else 0)=w at hle ⊢
   cases hq:(ZbO m x).1 with
   |true=>
    left
    have:=Zsd hm hx hq
    rw[ctt,ctt]
    exact⟨_,rfl,⟨ZmO hx,by (try dsimp only)<;>omega,by (try dsimp only)<;>omega⟩,this,by (try dsimp only)<;>omega⟩
   |false=>
    right
    rw[cff,cff,List.countP_nil]
    simp
  rw[key,Ze]
  rfl
end Go.AE.Y
