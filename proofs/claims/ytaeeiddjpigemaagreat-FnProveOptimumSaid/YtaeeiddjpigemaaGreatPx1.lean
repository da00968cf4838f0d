/-
  Plain laws of the models, in one text. No conditions.
-/
import Derived.Test.YtaeeiddjpigemaaGreatAEx3
import Derived.Test.YtaeeiddjpigemaaGreatR8M
namespace Go.AE
theorem Zb {α:Type} {p:Prop} [Decidable p] {m:Option α} (h:p):rq p m=m:=if_pos h
theorem ZyK {α:Type} {p:Prop} {m m':Option α} {r:α} (h1:p→m=some r) (h2:m'=some r):nt p m m'=some r:=by
 unfold nt
 split
 ·rename_i hp
  rw[h1 hp,h2,if_pos rfl]
 ·exact h2
theorem ZK {S R:Type} {f:S→Option (S⊕R)} (Inv:S→Prop) (μ:S→Nat) (T:S→R)
  (step:∀s,Inv s→(∃s',f s=some (.inl s')∧Inv s'∧μ s' < μ s∧T s'=T s)∨f s=some (.inr (T s))):∀s,Inv s→loop f s=some (T s):=by
 have key:∀n s,μ s≤n→Inv s→loop f s=some (T s):=by
  intro n
  induction n with
  |zero=>
   intro s hn hs
   rw[ZcO]
   rcases step s hs with⟨s',h1,_,h3,_⟩|h1
   ·omega
   ·rw[h1];rfl
  |succ n ih=>
   intro s hn hs
   rw[ZcO]
   rcases step s hs with⟨s',h1,h2,h3,h4⟩|h1
   ·rw[h1,←h4];exact ih s' (by omega) h2
   ·rw[h1];rfl
 exact fun s=>key _ s (Nat.le_refl _)
theorem Zb9 {S R:Type} {f:S→Option (S⊕R)} (Inv:S→Prop) (μ:S→Nat) (Q:R→Prop)
  (step:∀s,Inv s→(∃s',f s=some (.inl s')∧Inv s'∧μ s' < μ s)∨(∃r,f s=some (.inr r)∧Q r)):∀s,Inv s→∃r,loop f s=some r∧Q r:=by
 have key:∀n s,μ s≤n→Inv s→∃r,loop f s=some r∧Q r:=by
  intro n
  induction n with
  |zero=>
   intro s hn hs
   rw[ZcO]
   rcases step s hs with⟨s',h1,_,h3⟩|⟨r,h1,h2⟩
   ·omega
   ·rw[h1];exact⟨r,rfl,h2⟩
  |succ n ih=>
   intro s hn hs
   rw[ZcO]
   rcases step s hs with⟨s',h1,h2,h3⟩|⟨r,h1,h2⟩
   ·rw[h1];exact ih s' (by omega) h2
   ·rw[h1];exact⟨r,rfl,h2⟩
 exact fun s=>key _ s (Nat.le_refl _)
theorem Zeh {R:Type} {f:Int→Option (Int⊕R)} (n:Nat) (p:Nat→Bool) (bad:R) (fin:R)
  (h:∀i:Nat,i<n→(∀j,j<i→p j=true)→f i=some (bif p i then .inl ((i:Int)+1)else .inr bad)) (hn:f n=some (.inr fin)):loop f 0=some (bif (List.range n).all p then fin else bad):=by
 have key:∀k i:Nat,i+k=n→(∀j,j<i→p j=true)→loop f (i:Int)=some (bif (List.range' i k).all p then fin else bad):=by
  intro k
  induction k with
  |zero=>
   intro i hi _
   have:i=n:=by omega
   subst this
   rw[ZcO,hn]
   simp
  |succ k ih=>
   intro i hi hpre
   rw[ZcO,h i (by omega) hpre]
   cases hp:p i with
   |true=>
    have:=ih (i+1) (by omega) (fun j hj=>by
     rcases Xag j i with h1|h1
     ·exact hpre j h1
     ·have:j=i:=by omega
      subst this;exact hp)
    simp only[XaP,cond_true]
    rw[show ((i:Int)+1)=((i+1:Nat):Int) by omega,this]
    simp[List.range'_succ,hp]
   |false=>simp[List.range'_succ,hp]
 have:=key n 0 (by omega) (fun j hj=>by omega)
 simpa [List.range_eq_range']using this
theorem Zhy {α:Type} {f:Int→Option (Int⊕Int)} (l:List α) (d:α) (p:α→Bool) (h:∀i:Nat,i<l.length→f i=some (bif p (l.getD i d)then .inr (i:Int)else .inl ((i:Int)+1))) (hn:f l.length=some (.inr (-1))) :
  ∃r,loop f 0=some r∧decide (0≤r)=l.any p:=by
 have key:∀k i:Nat,i+k=l.length→∃r,loop f (i:Int)=some r∧decide (0≤r)=(l.drop i).any p:=by
  intro k
  induction k with
  |zero=>
   intro i hi
   have:i=l.length:=by omega
   subst this
   rw[ZcO,hn]
   exact⟨-1,rfl,by simp⟩
  |succ k ih=>
   intro i hi
   have hi':i<l.length:=by omega
   rw[ZcO,h i hi',Xby hi',List.any_cons]
   have e:l.getD i d=l[i]:=by rw[Xaa,Xac hi'];rfl
   rw[e]
   cases hp:p l[i]with
   |true=>exact⟨i,rfl,by simp⟩
   |false=>
    obtain⟨r,h1,h2⟩:=ih (i+1) (by omega)
    refine⟨r,?_,by simpa using h2⟩
    simp only[cond_false,XaP]
    rw[show ((i:Int)+1)=((i+1:Nat):Int) by omega]
    exact h1
 exact key l.length 0 (by omega)
theorem ZmR {α β:Type} (l:List α) (f:α→β) (i:Nat) (d:α) (d':β) (h:i<l.length):(l.map f).getD i d'=f (l.getD i d):=by
 simp[Xaa,h]
theorem Zky {α:Type} (l:List α) (p:α→Bool) (d:α):(List.range l.length).all (fun i=>p (l.getD i d))=l.all p:=by
 rw[Xbq,Xar,Xar]
 constructor
 ·intro h x hx
  obtain⟨i,hi,rfl⟩:=Xan.1 hx
  have:=h i (Xax.2 hi)
  simpa [Xaa,hi]using this
 ·intro h i hi
  have hi:=Xax.1 hi
  have:=h _ (Xbu hi)
  simpa [Xaa,hi]using this
theorem Zf {α:Type} {n:Int} {m:Option α} (h1 : -9223372036854775808≤n) (h2:n≤9223372036854775807):rq (i64 n) m=m:=if_pos ⟨h1,h2⟩
theorem Zc {α:Type} {p:Prop} [Decidable p] {m m':α} (h:p):cond (decide p) m m'=m:=by rw[Xad h];rfl
theorem Zd {α:Type} {p:Prop} [Decidable p] {m m':α} (h:¬p):cond (decide p) m m'=m':=by rw[decide_eq_false h];rfl
theorem Zd9 {α:Type} {a b:Int} {m m':α} (h:a≠b):cond (a != b) m m'=m:=by rw[bne_iff_ne.2 h];rfl
theorem Zdh {α:Type} {a b:Int} {m m':α} (h:a=b):cond (a != b) m m'=m':=by subst h;simp
theorem Zx {α:Type} {a b:Int} {m m':α} (h:a=b):cond (a==b) m m'=m:=by subst h;simp
theorem Zu {α:Type} {a b:Int} {m m':α} (h:a≠b):cond (a==b) m m'=m':=by rw[beq_eq_false_iff_ne.2 h];rfl
theorem cnt {α:Type} {a b:α}:cond (!true) a b=b:=Eq.trans (congrArg (fun x=>cond x a b) (Xbi)) (Eq.trans rfl (id rfl))
theorem cnf {α:Type} {a b:α}:cond (!false) a b=a:=Eq.trans (congrArg (fun x=>cond x a b) (Xbe)) (Eq.trans rfl (id rfl))
theorem ctt {α:Type} {a b:α}:cond true a b=a:=Eq.trans rfl (id rfl)
theorem cff {α:Type} {a b:α}:cond false a b=b:=Eq.trans rfl (id rfl)
theorem Ze {α β:Type} {a:α} {f:α→Option β}:(some a).bind f=f a:=Eq.trans (XaP a f) (id rfl)
theorem ZNN {b:Bool}:(true&&b)=b:=Eq.trans (Xaj b) (id rfl)
end Go.AE
namespace Go.AE.Y
open Go Go.AE
def ZZ (n:Int):Bool:=n != 0&&(decide (-12≤n)&&decide (n≤12))
theorem Zz {n:Int}:ZZ n=true↔n≠0 ∧ -12≤n∧n≤12:=by simp[ZZ]
theorem ZKy {n:Int}:ZZ (0 - n)=ZZ n:=by
 rw[Xbq,Zz,Zz];omega
theorem ZnS (n:Int):ZhC n=some (ZZ n):=by
 unfold ZhC ZbG ZZ
 cases (n != 0)<;>cases (decide (-12≤n))<;>rfl
theorem Zxb (n:Int):Zqa n=some (ZZ n):=by
 unfold Zqa ZZ
 cases (n != 0)<;>cases (decide (-12≤n))<;>rfl
def vof (n:Int):Int:=max n (-n)
theorem Zef {n:Int} (h : -13≤n∧n≤13):Zdr n=some (vof n):=by
 unfold Zdr vof
 simp(disch:=omega)only[Zf,Int.zero_sub]
theorem Zxa {n:Int} (h : -13≤n∧n≤13):Znw n=some (vof n):=by
 unfold Znw vof
 by_cases h1:n<0
 ·simp(disch:=omega)only[Zc,Zf]
  congr 1;omega
 ·simp(disch:=omega)only[Zd]
  congr 1;omega
theorem ZA {α:Type} {l:List α} {i:Nat} {d:α} (h:i<l.length):l.getD i d∈l:=by
 rw[Xaa,Xac h];exact Xbu h
end Go.AE.Y
namespace Go.AE.Y
open Go Go.AE
def ZS (v:List Bool) (l:Int):Bool:=v.getD (vof l - 1).toNat false==decide (0<l)
end Go.AE.Y
namespace Go.AE.Y
open Go Go.AE
def Zjc (a:List (List (Int×Int)×Int)):Prop:=a.length≤1048576∧∀x∈a,x.1.length≤1048576
def ZfH (c:List (Int×Int)) (i:Nat):Bool:=
 ZZ (c.getD i (0,0)).2&&((decide (1≤(c.getD i (0,0)).1)&&decide ((c.getD i (0,0)).1≤1000))&&(i==0||decide (vof (c.getD (i - 1) (0,0)).2<vof (c.getD i (0,0)).2)))
def ZG (c:List (Int×Int)×Int):Bool:=(List.range c.1.length).all (ZfH c.1)&&(decide (0≤c.2)&&decide (c.2≤20000))
theorem ZCh {c:List (Int×Int)} {i:Nat} (h:ZfH c i=true):ZZ (c.getD i (0,0)).2=true:=by
 unfold ZfH at h;simp only[Xae]at h;exact h.1
theorem ZnM (c:List (Int×Int)×Int) (h:c.1.length≤4000000000):Zfl c=some (ZG c):=by
 unfold Zfl ZG
 rw[Zeh c.1.length (ZfH c.1) false (decide (0≤c.2)&&decide (c.2≤20000))]
 ·cases (List.range c.1.length).all (ZfH c.1)
  ·rw[cond_false,Xai]
  ·rw[cond_true,Xaj]
 ·intro i hi hpre
  unfold Zfx ZfH
  simp(disch:=omega)only[Zc,Zb,Zxb,XaP,Xab]
  cases hl:ZZ (c.1.getD i (0,0)).2 with
  |false=>simp
  |true=>
   have hl':=Zz.1 hl
   rw[cnt,ZNN]
   by_cases h1:(c.1.getD i (0,0)).1<1
   ·rw[Zc h1,decide_eq_false (show ¬1≤(c.1.getD i (0,0)).1 by omega)];simp
   ·rw[Zd h1,Xad (show 1≤(c.1.getD i (0,0)).1 by omega)]
    by_cases h2:1000<(c.1.getD i (0,0)).1
    ·rw[Zc h2,decide_eq_false (show ¬(c.1.getD i (0,0)).1≤1000 by omega)];simp
    ·rw[Zd h2,Xad (show (c.1.getD i (0,0)).1≤1000 by omega)]
     by_cases h0:i=0
     ·subst h0
      simp(disch:=omega)only[Zd,Zf]
      simp
     ·have hp1:=Zz.1 (ZCh (hpre (i - 1) (by omega)))
      have e1:((i:Int) - 1).toNat=i - 1:=by omega
      rw[show (i==0)=false by simpa using h0]
      simp(disch:=omega)only[Zc,Zf,Zb,e1,Zxa,XaP]
      by_cases hv:vof (c.1.getD (i - 1) (0,0)).2<vof (c.1.getD i (0,0)).2
      ·rw[Zd (by omega),Xad hv];simp
      ·rw[Zc (by omega),decide_eq_false hv];simp
 ·unfold Zfx
  simp(disch:=omega)only[Zd]
  by_cases h1:0≤c.2
  ·rw[Zc h1,Xad h1];simp
  ·rw[Zd h1,decide_eq_false h1];simp
theorem ZbQ (n a b:Int):ZbG n a b=some (decide (a≤n)&&decide (n≤b)):=by
 unfold ZbG
 by_cases h:a≤n
 ·rw[Zc h,Xad h];simp
 ·rw[Zd h,decide_eq_false h];simp
theorem Zbj (c:List (Int×Int)×Int) (h:c.1.length≤4000000000):Z6 c=some (ZG c):=by
 unfold Z6
 refine ZK (fun s:Int×Int=>∃i:Nat,s.2=i∧i≤c.1.length∧s.1=(if i=0 then 0 else vof (c.1.getD (i - 1) (0,0)).2)∧∀j,j<i→ZfH c.1 j=true) (fun s=>c.1.length - s.2.toNat) (fun _=>ZG c) ?_ _ ⟨0,rfl,Nat.zero_le _,rfl,fun j hj=>by omega⟩
 rintro⟨b,s⟩ ⟨i,rfl,hi,hb,hpre⟩
 dsimp only at hb ⊢
 unfold ZiK
 rcases Xag i c.1.length with h1|h1
 ·have bad:ZfH c.1 i=false→ZG c=false:=fun hq=>by
   unfold ZG
   rw[List.all_eq_false.2 ⟨i,Xax.2 h1,by rw[hq];simp⟩]
   rw[Xai]
  simp(disch:=omega)only[Zc,Zb,ZnS,Ze,Xab]
  cases hl:ZZ (c.1.getD i (0,0)).2 with
  |false=>
   right
   rw[bad (by unfold ZfH;rw[hl,Xai]),cnf]
  |true=>
   have hl':=Zz.1 hl
   have hv1:1≤vof (c.1.getD i (0,0)).2:=by unfold vof;omega
   rw[cnt]
   rw[Zef (by omega),Ze]
   by_cases hv:vof (c.1.getD i (0,0)).2≤b
   ·right
    rw[Zc hv,bad ?_]
    unfold ZfH
    by_cases h0:i=0
    ·subst h0;rw[if_pos rfl]at hb;omega
    ·rw[if_neg h0]at hb
     rw[show (i==0)=false by simpa using h0,decide_eq_false (show ¬vof (c.1.getD (i - 1) (0,0)).2<vof (c.1.getD i (0,0)).2 by omega)]
     simp
   ·rw[Zd hv,ZbQ]
    rw[Ze]
    cases hw:(decide (1≤(c.1.getD i (0,0)).1)&&decide ((c.1.getD i (0,0)).1≤1000))with
    |false=>
     right
     rw[bad (by unfold ZfH;rw[hw];simp),cnf]
    |true=>
     left
     rw[cnt,Ze,Zf (by omega) (by omega)]
     refine⟨_,rfl,⟨i+1,by simp,by omega,by simp,fun j hj=>?_⟩,by dsimp only;omega,trivial⟩
     rcases Xag j i with h2|h2
     ·exact hpre j h2
     ·have:j=i:=by omega
      subst this
      unfold ZfH
      rw[hl,hw]
      by_cases h0:j=0
      ·rw[show (j==0)=true by simpa using h0];simp
      ·rw[if_neg h0]at hb
       rw[Xad (show vof (c.1.getD (j - 1) (0,0)).2<vof (c.1.getD j (0,0)).2 by omega)]
       simp
 ·right
  have:i=c.1.length:=by omega
  subst this
  dsimp only
  rw[Zd (by omega),ZbQ,Ze]
  unfold ZG
  rw[Xar.2 (fun j hj=>hpre j (Xax.1 hj)),Xaj]
def Ze1 (l:List (List (Int×Int)×Int)):Bool:=l.all ZG&&decide (l.length≤400)
theorem ZwN (l:List (List (Int×Int)×Int)) (h:Zjc l):ZjM l=some (Ze1 l):=by
 have h1:=h.1
 unfold ZjM Ze1
 rw[Zeh l.length (fun i=>ZG (l.getD i ([],0))) false (decide (l.length≤400)),Zky l ZG ([],0)]
 ·cases l.all ZG<;>rfl
 ·intro i hi _
  have h2:=h.2 _ (ZA (d:=([],0)) hi)
  unfold Zhk
  simp(disch:=omega)only[Zc,Zb,Xab]
  rw[ZnM _ (by omega)]
  simp(disch:=omega)only[XaP,Zf]
  cases ZG (l.getD i ([],0))<;>rfl
 ·unfold Zhk
  simp(disch:=omega)only[Zd]
  rw[decide_eq_decide.2 (show ((l.length:Int)≤400↔l.length≤400) by omega)]
theorem ZkT (l:List (List (Int×Int)×Int)) (h:Zjc l):ZgO l=some (Ze1 l):=by
 have h1:=h.1
 unfold ZgO Ze1
 by_cases h4:l.length≤400
 ·rw[Zc (by omega),Xad h4]
  unfold Zsb Zcf Zcy
  obtain⟨r,hr1,hr2⟩:=Zhy (f:=Z3 l) l ([],0) (fun x=>!ZG x) (fun i hi=>by
   have h2:=h.2 _ (ZA (d:=([],0)) hi)
   unfold Z3 ZpY
   simp(disch:=omega)only[Zc,Zb,Xab]
   rw[Zbj _ (by omega)]
   simp(disch:=omega)only[XaP,Zf]
   cases ZG (l.getD i ([],0))<;>rfl) (by
   unfold Z3
   simp(disch:=omega)only[Zd])
  rw[hr1]
  simp only[XaP,hr2]
  rw[Xa3]
  simp
 ·rw[Zd (by omega),decide_eq_false h4]
  simp
def ZcF (v:List Bool) (c:List (Int×Int)):Int:=c.foldl (fun a t=>bif ZS v t.2 then a+t.1 else a) 0
def ZY (v:List Bool) (c:List (Int×Int)×Int):Bool:=decide (c.2≤ZcF v c.1)
theorem ZJt {c:List (Int×Int)×Int} (h:ZG c=true):∀i,i<c.1.length→((c.1.getD i (0,0)).2≠0 ∧ -12≤(c.1.getD i (0,0)).2∧(c.1.getD i (0,0)).2≤12)∧1≤(c.1.getD i (0,0)).1∧(c.1.getD i (0,0)).1≤1000:=by
 intro i hi
 unfold ZG at h
 simp only[Xae,Xar]at h
 have h1:=h.1 i (Xax.2 hi)
 refine⟨Zz.1 (ZCh h1),?_⟩
 unfold ZfH at h1
 simp only[Xae,Xaf]at h1
 exact h1.2.1
theorem ZyQ {l:List (List (Int×Int)×Int)} (h:Ze1 l=true):∀x∈l,ZG x=true:=by
 unfold Ze1 at h
 simp only[Xae,Xar]at h
 exact h.1
end Go.AE.Y
namespace Go.AE.Y
open Go Go.AE
abbrev ZH:=Int×List Int×List Int×Int×List (List Int)
abbrev Zo:=List Int×List ZH
def Znk (l:List Int) (n:Int) (i:Nat):Bool:=(decide (0≤l.getD i 0)&&decide (l.getD i 0≤n - 1)) && !((l.take i).any (fun x=>l.getD i 0==x))
def ZpU (l:List Int) (n:Int):Bool:=(List.range l.length).all (Znk l n)
def ZqY (n:Int):Bool:=n != 0&&(decide (-9≤n)&&decide (n≤9))
def ZdY (n:Int):Bool:=decide (0≤n)&&decide (n≤3)
def ZAG (r:ZH):Bool:=decide ((r.2.2.1.length:Int)=r.2.1.length)&&((decide (-1000≤r.2.2.2.1)&&decide (r.2.2.2.1≤1000))&&r.2.2.1.all ZqY)
def ZyT (r:ZH) (row:List Int):Bool:=decide ((row.length:Int)=r.2.1.length)&&row.all ZdY
def ZJ2 (r:ZH):Bool:=decide ((r.2.2.2.2.length:Int)≤8)&&r.2.2.2.2.all (ZyT r)
def Zhg (r:ZH):Bool:=bif r.1==1 then ZAG r else bif r.1==3 then ZJ2 r else bif r.1==4 then decide (r.2.1.length=2)else r.1==2
def ZB9 (r:ZH):Bool:=(r.1==1||(decide (r.2.2.1.length=0)&&r.2.2.2.1==0))&&(r.1==3||decide (r.2.2.2.2.length=0))
def ZfW (n:Int) (r:ZH):Bool:=ZpU r.2.1 n&&(decide (1≤r.2.1.length)&&(ZB9 r&&Zhg r))
def Znb (l:List Int):Int:=l.foldl (fun a n=>a+(n+1)) 0
def Zy (m:Zo):Bool:=(decide (1≤m.1.length)&&decide (m.1.length≤5))&&(decide (m.2.length≤8)&&(m.1.all ZdY&&(decide (Znb m.1≤12)&&m.2.all (ZfW m.1.length))))
def Zfi (r:ZH):Prop:=r.2.1.length≤1048576∧r.2.2.1.length≤1048576∧r.2.2.2.2.length≤1048576∧∀x∈r.2.2.2.2,x.length≤1048576
def Zek (m:Zo):Prop:=m.1.length≤1048576∧m.2.length≤1048576∧∀r∈m.2,Zfi r
theorem Zuc (s:List Int) (v:Int) (h:s.length≤4000000000):ZcB s v=some (s.any (fun x=>v==x)):=by
 unfold ZcB Zk5
 obtain⟨r,hr1,hr2⟩:=Zhy (f:=Zda s v) s 0 (fun x=>v==x) (fun i hi=>by
  unfold Zda
  rw[Zc (by omega),Zb ⟨by omega,by omega⟩,Xab]
  cases v==s.getD i 0 with
  |true=>rw[ctt,ctt]
  |false=>rw[cff,cff,Zf (by omega) (by omega)]) (by
  unfold Zda
  rw[Zd (by omega)])
 rw[hr1,Ze,hr2]
theorem ZL0 {l:List Int} {i:Nat} (hi:i≤l.length) (v:Int):(l.take i).any (fun x=>v==x) = !(List.range i).all (fun k=>!(l.getD k 0==v)):=by
 have hl:(l.take i).length=i:=by rw[XaB];omega
 have h:=Zky (l.take i) (fun x=>!(v==x)) 0
 rw[hl]at h
 rw[Xa3,←h]
 congr 1
 rw[Xbq,Xar,Xar]
 refine forall_congr' fun k=>forall_congr' fun hk=>?_
 have hk:=Xax.1 hk
 have e:(l.take i).getD k 0=l.getD k 0:=by rw[Xaa,XaD,if_pos hk,Xaa]
 rw[e]
 simp only[XaX,beq_eq_false_iff_ne,ne_eq]
 exact⟨fun h e=>h e.symm,fun h e=>h e.symm⟩
theorem Zy3 (l:List Int) (h:l.length≤4000000000):Zch l=some (!l.all ZqY):=by
 unfold Zch ZdU
 obtain⟨r,hr1,hr2⟩:=Zhy (f:=ZbE l) l 0 (fun x=>!ZqY x) (fun i hi=>by
  unfold ZbE ZoT
  rw[Zc (by omega),Zb ⟨by omega,by omega⟩,Xab]
  unfold ZqY
  cases hz:(l.getD i 0==0)with
  |true=>rw[ctt,Ze,ctt,bne,hz];rfl
  |false=>
   rw[cff,ZbQ,Ze,Ze,bne,hz,Xbe,Xaj]
   cases (decide (-9≤l.getD i 0)&&decide (l.getD i 0≤9))with
   |true=>rw[cnt,Zf (by omega) (by omega),cnt]
   |false=>rw[cnf,cnf]) (by
  unfold ZbE
  rw[Zd (by omega)])
 rw[hr1,Ze,hr2,Xa3]
 simp only[XbI]
theorem ZwL (l:List Int) (h:l.length≤4000000000):Zb4 l=some (!l.all ZdY):=by
 unfold Zb4 ZdC
 obtain⟨r,hr1,hr2⟩:=Zhy (f:=Zbr l) l 0 (fun x=>!ZdY x) (fun i hi=>by
  unfold Zbr ZmX
  rw[Zc (by omega),Zb ⟨by omega,by omega⟩,Xab,ZbQ,Ze,Ze]
  unfold ZdY
  cases (decide (0≤l.getD i 0)&&decide (l.getD i 0≤3))with
  |true=>rw[cnt,Zf (by omega) (by omega),cnt]
  |false=>rw[cnf,cnf]) (by
  unfold Zbr
  rw[Zd (by omega)])
 rw[hr1,Ze,hr2,Xa3]
 simp only[XbI]
theorem Zy4 (r0:ZH) (h:Zfi r0):Zb5 r0.2.2.2.2 r0=some (!r0.2.2.2.2.all (ZyT r0)):=by
 obtain⟨h1,h2,h3,h4⟩:=h
 unfold Zb5 ZdD
 obtain⟨r,hr1,hr2⟩:=Zhy (f:=Zbs r0.2.2.2.2 r0) r0.2.2.2.2 [] (fun x=>!ZyT r0 x) (fun i hi=>by
  have hx:=h4 _ (ZA (d:=[]) hi)
  unfold Zbs ZoU
  rw[Zc (by omega),Zb ⟨by omega,by omega⟩,Xab]
  unfold ZyT
  by_cases hl:((r0.2.2.2.2.getD i []).length:Int)=r0.2.1.length
  ·rw[Zdh hl,ZwL _ (by omega),Ze,Ze,Xad hl,Xaj]
   cases (r0.2.2.2.2.getD i []).all ZdY with
   |true=>rw[cnt,Zf (by omega) (by omega),cnt]
   |false=>rw[cnf,cnf]
  ·rw[Zd9 hl,Ze,ctt,decide_eq_false hl,Xai,cnf]) (by
  unfold Zbs
  rw[Zd (by omega)])
 rw[hr1,Ze,hr2,Xa3]
 simp only[XbI]
theorem Zxv (r:ZH) (h:Zfi r):Zey r ()=some (.inr (Zhg r)):=by
 obtain⟨h1,h2,h3,h4⟩:=h
 unfold Zey Zhg
 cases r.1==1 with
 |true=>
  rw[ctt,ctt]
  unfold ZAG
  by_cases hl:(r.2.2.1.length:Int)=r.2.1.length
  ·rw[Zx hl,Xad hl,Xaj,ZbQ,Ze]
   cases (decide (-1000≤r.2.2.2.1)&&decide (r.2.2.2.1≤1000))with
   |true=>rw[ctt,Zy3 _ (by omega),Ze,Xaj,XbI]
   |false=>rw[cff,Xai]
  ·rw[Zu hl,decide_eq_false hl,Xai]
 |false=>
  rw[cff,cff]
  cases r.1==3 with
  |true=>
   rw[ctt,ctt]
   unfold ZJ2
   by_cases hl:(r.2.2.2.2.length:Int)≤8
   ·rw[Zc hl,Xad hl,Xaj,Zy4 r ⟨h1,h2,h3,h4⟩,Ze,XbI]
   ·rw[Zd hl,decide_eq_false hl,Xai]
  |false=>
   rw[cff,cff]
   cases r.1==4 with
   |true=>
    rw[ctt,ctt]
    congr 2
    rw[Xbq,beq_iff_eq,decide_eq_true_iff]
    omega
   |false=>rw[cff,cff]
theorem ZzU (r:ZH) (n:Int) (h:Zfi r) (hn:0≤n∧n≤4000000000):Zno r n=some (ZfW n r):=by
 have hs:=h
 obtain⟨h1,h2,h3,h4⟩:=h
 unfold Zno ZfW ZpU
 rw[Zeh r.2.1.length (Znk r.2.1 n) false (decide (1≤r.2.1.length)&&(ZB9 r&&Zhg r))]
 ·cases (List.range r.2.1.length).all (Znk r.2.1 n)<;>rfl
 ·intro i hi _
  unfold ZjJ Znk
  rw[Zc (by omega),Zb ⟨by omega,by omega⟩,Zf (by omega) (by omega),Xab,ZbQ,Ze]
  cases (decide (0≤r.2.1.getD i 0)&&decide (r.2.1.getD i 0≤n - 1))with
  |false=>rw[cnf,Xai,cff]
  |true=>
   rw[cnt,Xaj,Zb ⟨by omega,by omega⟩,Zuc _ _ (by rw[XaB];omega),Ze]
   cases (r.2.1.take i).any (fun x=>r.2.1.getD i 0==x)with
   |true=>rw[ctt,cnt]
   |false=>rw[cff,Zf (by omega) (by omega),cnf]
 ·unfold ZjJ
  rw[Zd (by omega)]
  by_cases h0:r.2.1.length=0
  ·rw[Zx (by omega),show decide (1≤r.2.1.length)=false from decide_eq_false (by omega),Xai]
  ·rw[Zu (by omega),show decide (1≤r.2.1.length)=true from Xad (by omega),Xaj,Zxv r hs]
   unfold ZB9
   have e3:(r.1 != 3) = !(r.1==3):=rfl
   have e1:(r.1 != 1) = !(r.1==1):=rfl
   rw[e1,e3]
   have hrows:(cond (decide ((0:Int)<(r.2.2.2.2.length:Int))) (some (Sum.inr false)) (some (Sum.inr (Zhg r))):Option (Int⊕Bool))=some (Sum.inr (decide (r.2.2.2.2.length=0)&&Zhg r)):=by
    by_cases hq:(0:Int)<r.2.2.2.2.length
    ·rw[Zc hq,show decide (r.2.2.2.2.length=0)=false from decide_eq_false (by omega),Xai]
    ·rw[Zd hq,show decide (r.2.2.2.2.length=0)=true from Xad (by omega),Xaj]
   rw[hrows]
   cases r.1==1 with
   |true=>
    rw[cnt,XbQ,Xaj]
    cases r.1==3 with
    |true=>rw[cnt,XbQ,Xaj]
    |false=>rw[cnf,XbC]
   |false=>
    rw[cnf,XbC]
    by_cases hc:(0:Int)<r.2.2.1.length
    ·rw[Zc hc,show decide (r.2.2.1.length=0)=false from decide_eq_false (by omega),Xai,Xai,Xai]
    ·rw[Zd hc,show decide (r.2.2.1.length=0)=true from Xad (by omega),Xaj]
     have eb:(r.2.2.2.1 != 0) = !(r.2.2.2.1==0):=rfl
     rw[eb]
     cases r.2.2.2.1==0 with
     |false=>rw[cnf,Xai,Xai]
     |true=>
      rw[cnt,Xaj]
      cases r.1==3 with
      |true=>rw[cnt,XbQ,Xaj]
      |false=>rw[cnf,XbC]
theorem Zye:∀(l:List Int),l.all ZdY=true→0≤Znb l∧Znb l≤4*l.length:=by
 have key:∀(l:List Int) (a:Int),l.all ZdY=true→a≤l.foldl (fun a n=>a+(n+1)) a∧l.foldl (fun a n=>a+(n+1)) a≤a+4*l.length:=by
  intro l
  induction l with
  |nil=>intro a _;simp
  |cons x r ih=>
   intro a h
   rw[List.all_cons,Xae]at h
   have hx:=h.1
   unfold ZdY at hx
   simp only[Xae,Xaf]at hx
   obtain⟨i1,i2⟩:=ih (a+(x+1)) h.2
   rw[Xa9,Xaq]
   omega
 intro l h
 have:=key l 0 h
 unfold Znb
 omega
theorem ZEM (m:Zo) (h:Zek m):ZbM m.2 m=some (!m.2.all (ZfW m.1.length)):=by
 obtain⟨h1,h2,h3⟩:=h
 unfold ZbM ZcX
 obtain⟨r,hr1,hr2⟩:=Zhy (f:=Zba m.2 m) m.2 (0,([],([],(0,[])))) (fun x=>!ZfW m.1.length x) (fun i hi=>by
  unfold Zba ZnQ
  rw[Zc (by omega),Zb ⟨by omega,by omega⟩,Xab,ZzU _ _ (h3 _ (ZA hi)) ⟨by omega,by omega⟩,Ze,Ze]
  cases ZfW m.1.length (m.2.getD i (0,([],([],(0,[])))))with
  |true=>rw[cnt,Zf (by omega) (by omega),cnt]
  |false=>rw[cnf,cnf]) (by
  unfold Zba
  rw[Zd (by omega)])
 rw[hr1,Ze,hr2,Xa3]
 simp only[XbI]
theorem Zzc (l:List Int) (x:Int):Znb (l++[x])=Znb l+(x+1):=by unfold Znb;rw[Xa6];rfl
theorem ZwR {l:List Int} {i:Nat} (h:∀j,j<i→ZdY (l.getD j 0)=true):(l.take i).all ZdY=true:=by
 rw[Xar]
 intro x hx
 obtain⟨j,hj,rfl⟩:=Xan.1 hx
 rw[XaB]at hj
 have:=h j (by omega)
 rw[Xaa,Xac (by omega)]at this
 rw[Xbc]
 exact this
theorem ZnA {l:List Int} {i:Nat} (h:i<l.length):l.take (i+1)=l.take i++[l.getD i 0]:=by
 rw[Xbk,Xaa,Xac h]
 rfl
theorem Zgb (m:Zo) (h:Zek m):ZeB m=some (Zy m):=by
 have hs:=h
 obtain⟨h1,h2,h3⟩:=h
 unfold ZeB Zy
 rw[ZbQ,Ze,show decide ((1:Int)≤m.1.length)=decide (1≤m.1.length) from decide_eq_decide.2 (by omega),show decide ((m.1.length:Int)≤5)=decide (m.1.length≤5) from decide_eq_decide.2 (by omega)]
 cases hw:(decide (1≤m.1.length)&&decide (m.1.length≤5))with
 |false=>rw[cnf,Xai]
 |true=>
  simp only[Xae,Xaf]at hw
  rw[cnt,Xaj]
  by_cases h8:m.2.length≤8
  ·rw[Zd (by omega),Xad h8,Xaj]
   refine ZK (fun s:Int×Int=>∃i:Nat,s.2=i∧i≤m.1.length∧s.1=Znb (m.1.take i)∧∀j,j<i→ZdY (m.1.getD j 0)=true) (fun s=>m.1.length - s.2.toNat) (fun _=>m.1.all ZdY&&(decide (Znb m.1≤12)&&m.2.all (ZfW m.1.length))) ?_ _ ⟨0,rfl,Nat.zero_le _,rfl,fun j hj=>by omega⟩
   rintro⟨c,s⟩ ⟨i,rfl,hi,hc,hpre⟩
   dsimp only at hc ⊢
   subst hc
   have hb:=Zye _ (ZwR hpre)
   rw[XaB]at hb
   unfold ZmT
   dsimp only
   rcases Xag i m.1.length with h5|h5
   ·rw[Zc (by omega),Zb ⟨by omega,by omega⟩,Xab,ZbQ,Ze]
    cases hq:(decide (0≤m.1.getD i 0)&&decide (m.1.getD i 0≤3))with
    |false=>
     right
     rw[cnf,List.all_eq_false.2 ⟨_,ZA h5,by unfold ZdY;rw[hq];simp⟩,Xai]
    |true=>
     left
     have hq2:=hq
     simp only[Xae,Xaf]at hq2
     rw[cnt,Zf (by omega) (by omega),Zf (by omega) (by omega),Zf (by omega) (by omega)]
     refine⟨_,rfl,⟨i+1,by simp,by omega,?_,fun j hj=>?_⟩,by dsimp only;omega,rfl⟩
     ·dsimp only
      rw[ZnA h5,Zzc]
     ·rcases Xag j i with h6|h6
      ·exact hpre j h6
      ·rw[show j=i by omega];exact hq
   ·right
    have:i=m.1.length:=by omega
    subst this
    have hall:m.1.all ZdY=true:=by
     have:=ZwR hpre
     rwa [Xa5 (Nat.le_refl _)]at this
    rw[Zd (by omega),hall,Xaj,Xa5 (Nat.le_refl _)]
    by_cases h12:Znb m.1≤12
    ·rw[Zc h12,Xad h12,Xaj,ZEM m hs,Ze,XbI]
    ·rw[Zd h12,decide_eq_false h12,Xai]
  ·rw[Zc (by omega),decide_eq_false h8,Xai]
theorem ZDo {l:List Int} {i:Nat} (h:l.length≤4000000000) (hi:i<l.length):loop (Zkm l i) (0:Int)=some (bif (l.take i).any (fun x=>l.getD i 0==x)then Sum.inr false else Sum.inl ((i:Int)+1)):=by
 rw[ZL0 (by omega),Zeh i (fun k=>!(l.getD k 0==l.getD i 0)) (Sum.inr false) (Sum.inl ((i:Int)+1))]
 ·cases (List.range i).all (fun k=>!(l.getD k 0==l.getD i 0))<;>rfl
 ·intro k hk _
  unfold Zkm
  rw[Zc (by omega),Zb ⟨by omega,by omega⟩,Zb ⟨by omega,by omega⟩,Xab,Xab]
  cases l.getD k 0==l.getD i 0 with
  |true=>rw[ctt,Xbi,cff]
  |false=>rw[cff,Zf (by omega) (by omega),Xbe,ctt]
 ·unfold Zkm
  rw[Zd (by omega),Zf (by omega) (by omega)]
theorem ZDn (m:Zo) (l:List Int) (h:l.length≤4000000000) (_hm:m.1.length≤4000000000):Zq8 m l=some (ZpU l m.1.length&&decide (1≤l.length)):=by
 unfold Zq8 ZpU
 rw[Zeh l.length (Znk l m.1.length) false (decide (1≤l.length))]
 ·cases (List.range l.length).all (Znk l m.1.length)<;>rfl
 ·intro i hi _
  unfold Znz Znk
  rw[Zc (by omega),Zb ⟨by omega,by omega⟩,Xab]
  by_cases h1:l.getD i 0<0
  ·rw[Zc h1,decide_eq_false (show ¬0≤l.getD i 0 by omega),Xai,Xai,cff]
  ·rw[Zd h1,Zb ⟨by omega,by omega⟩,Xad (show 0≤l.getD i 0 by omega),Xaj]
   by_cases h2:(m.1.length:Int)≤l.getD i 0
   ·rw[Zc h2,decide_eq_false (show ¬l.getD i 0≤(m.1.length:Int) - 1 by omega),Xai,cff]
   ·rw[Zd h2,Xad (show l.getD i 0≤(m.1.length:Int) - 1 by omega),Xaj,ZDo h hi]
    cases (l.take i).any (fun x=>l.getD i 0==x)with
    |true=>rw[ctt,Xbi,cff]
    |false=>rw[cff,Xbe,ctt]
 ·unfold Znz
  rw[Zd (by omega)]
  congr 2
  exact decide_eq_decide.2 (by omega)
theorem ZAV (r:ZH) (h:Zfi r):ZoD r=some (ZAG r):=by
 obtain⟨h1,h2,h3,h4⟩:=h
 unfold ZoD ZAG
 rw[←Zky r.2.2.1 ZqY 0,Zeh r.2.2.1.length (fun i=>ZqY (r.2.2.1.getD i 0)) false (decide ((r.2.2.1.length:Int)=r.2.1.length)&&(decide (-1000≤r.2.2.2.1)&&decide (r.2.2.2.1≤1000)))]
 ·cases (List.range r.2.2.1.length).all (fun i=>ZqY (r.2.2.1.getD i 0))with
  |true=>rw[ctt,XbS]
  |false=>rw[cff,XaW,XaW]
 ·intro i hi _
  unfold Zlg ZqY
  rw[Zc (by omega),Zb ⟨by omega,by omega⟩,Xab]
  by_cases h5:r.2.2.1.getD i 0 < -9
  ·rw[Zc h5,decide_eq_false (show ¬ -9≤r.2.2.1.getD i 0 by omega),Xai,XaW,cff]
  ·rw[Zd h5,Zb ⟨by omega,by omega⟩,Xad (show -9≤r.2.2.1.getD i 0 by omega),Xaj]
   by_cases h6:9<r.2.2.1.getD i 0
   ·rw[Zc h6,decide_eq_false (show ¬r.2.2.1.getD i 0≤9 by omega),XaW,cff]
   ·rw[Zd h6,Zb ⟨by omega,by omega⟩,Xad (show r.2.2.1.getD i 0≤9 by omega),XbS,bne]
    cases r.2.2.1.getD i 0==0 with
    |true=>rw[ctt,Xbi,cff]
    |false=>rw[cff,Zf (by omega) (by omega),Xbe,ctt]
 ·unfold Zlg
  rw[Zd (by omega)]
  by_cases hl:(r.2.2.1.length:Int)=r.2.1.length
  ·rw[Zx hl,Xad hl,Xaj]
   by_cases h5 : -1000≤r.2.2.2.1
   ·rw[Zc h5,Xad h5,Xaj]
   ·rw[Zd h5,decide_eq_false h5,Xai]
  ·rw[Zu hl,decide_eq_false hl,Xai]
theorem ZCe (r:ZH) (h:Zfi r) {i:Nat} (hi:i<r.2.2.2.2.length):loop (Zjg r i) (0:Int)=some (bif (r.2.2.2.2.getD i []).all ZdY then Sum.inl ((i:Int)+1)else Sum.inr false):=by
 obtain⟨h1,h2,h3,h4⟩:=h
 have hx:=h4 _ (ZA (d:=[]) hi)
 rw[←Zky (r.2.2.2.2.getD i []) ZdY 0,Zeh (r.2.2.2.2.getD i []).length (fun k=>ZdY ((r.2.2.2.2.getD i []).getD k 0)) (Sum.inr false) (Sum.inl ((i:Int)+1))]
 ·intro k hk _
  unfold Zjg ZdY
  rw[Zb ⟨by omega,by omega⟩,Xab,Zc (by omega),Zb ⟨by omega,by omega⟩,Zb ⟨by omega,by omega⟩,Xab]
  by_cases h5:(r.2.2.2.2.getD i []).getD k 0<0
  ·rw[Zc h5,decide_eq_false (show ¬0≤(r.2.2.2.2.getD i []).getD k 0 by omega),Xai,cff]
  ·rw[Zd h5,Zb ⟨by omega,by omega⟩,Zb ⟨by omega,by omega⟩,Xad (show 0≤(r.2.2.2.2.getD i []).getD k 0 by omega),Xaj]
   by_cases h6:3<(r.2.2.2.2.getD i []).getD k 0
   ·rw[Zc h6,decide_eq_false (show ¬(r.2.2.2.2.getD i []).getD k 0≤3 by omega),cff]
   ·rw[Zd h6,Xad (show (r.2.2.2.2.getD i []).getD k 0≤3 by omega),Zf (by omega) (by omega),ctt]
 ·unfold Zjg
  rw[Zb ⟨by omega,by omega⟩,Xab,Zd (by omega),Zf (by omega) (by omega)]
theorem ZCd (r:ZH) (h:Zfi r):Zqe r=some (ZJ2 r):=by
 have hs:=h
 obtain⟨h1,h2,h3,h4⟩:=h
 unfold Zqe ZJ2
 rw[←Zky r.2.2.2.2 (ZyT r) [],Zeh r.2.2.2.2.length (fun i=>ZyT r (r.2.2.2.2.getD i [])) false (decide ((r.2.2.2.2.length:Int)≤8))]
 ·cases (List.range r.2.2.2.2.length).all (fun i=>ZyT r (r.2.2.2.2.getD i []))with
  |true=>rw[ctt,XbS]
  |false=>rw[cff,XaW]
 ·intro i hi _
  unfold Zms ZyT
  rw[Zc (by omega),Zb ⟨by omega,by omega⟩,Xab]
  by_cases hl:((r.2.2.2.2.getD i []).length:Int)=r.2.1.length
  ·rw[Zdh hl,Xad hl,Xaj,ZCe r hs hi]
  ·rw[Zd9 hl,decide_eq_false hl,Xai,cff]
 ·unfold Zms
  rw[Zd (by omega)]
theorem ZAX (r:ZH) (h:Zfi r):ZfP r ()=some (Zhg r):=by
 unfold ZfP Zhg
 cases h1:(r.1==1)with
 |true=>rw[ctt,ctt,ZAV r h,Ze]
 |false=>
  rw[cff,cff]
  cases h2:(r.1==2)with
  |true=>
   have:r.1=2:=by simpa using h2
   rw[ctt,this]
   rfl
  |false=>
   rw[cff]
   cases h3:(r.1==3)with
   |true=>rw[ctt,ctt,ZCd r h,Ze]
   |false=>
    rw[cff,cff]
    cases h4:(r.1==4)with
    |true=>
     rw[ctt,ctt]
     congr 1
     rw[Xbq,beq_iff_eq,decide_eq_true_iff]
     omega
    |false=>rw[cff,cff]
theorem ZDm (m:Zo) (r:ZH) (h:Zfi r) (hm:m.1.length≤4000000000):Zq7 m r=some (ZfW m.1.length r):=by
 have hs:=h
 obtain⟨h1,h2,h3,h4⟩:=h
 unfold Zq7 ZfW
 rw[ZDn m _ (by omega) hm,Ze,ZAX r hs]
 cases ZpU r.2.1 m.1.length with
 |false=>rw[Xai,Xai,cnf]
 |true=>
  rw[Xaj,Xaj]
  cases decide (1≤r.2.1.length)with
  |false=>rw[cnf,Xai]
  |true=>
   rw[cnt,Xaj]
   unfold ZB9
   have e3:(r.1 != 3) = !(r.1==3):=rfl
   have e1:(r.1 != 1) = !(r.1==1):=rfl
   rw[e1,e3]
   have hrows:(cond ((r.2.2.2.2.length:Int) != (0:Int)) (some false) (some (Zhg r)):Option Bool)=some (decide (r.2.2.2.2.length=0)&&Zhg r):=by
    by_cases hq:r.2.2.2.2.length=0
    ·rw[Zdh (by omega),Xad hq,Xaj]
    ·rw[Zd9 (by omega),decide_eq_false hq,Xai]
   rw[hrows]
   cases r.1==1 with
   |true=>
    rw[cnt,XbQ,Xaj]
    cases r.1==3 with
    |true=>rw[cnt,XbQ,Xaj]
    |false=>rw[cnf,XbC]
   |false=>
    rw[cnf,XbC]
    by_cases hc:r.2.2.1.length=0
    ·rw[Zdh (by omega),Xad hc,Xaj]
     have eb:(r.2.2.2.1 != 0) = !(r.2.2.2.1==0):=rfl
     rw[eb]
     cases r.2.2.2.1==0 with
     |false=>rw[cnf,Xai,Xai]
     |true=>
      rw[cnt,Xaj]
      cases r.1==3 with
      |true=>rw[cnt,XbQ,Xaj]
      |false=>rw[cnf,XbC]
    ·rw[Zd9 (by omega),decide_eq_false hc,Xai,Xai,Xai]
theorem Zp8 (m:Zo) (c:Int) (h:Zek m):Zgj m c=some ((decide (1≤m.1.length)&&decide (m.1.length≤5))&&(decide (m.2.length≤8)&&(decide (c≤12)&&m.2.all (ZfW m.1.length)))):=by
 obtain⟨h1,h2,h3⟩:=h
 unfold Zgj
 by_cases q1:1≤m.1.length
 ·rw[Zd (by omega),Xad q1,Xaj]
  by_cases q2:m.1.length≤5
  ·rw[Zd (by omega),Xad q2,Xaj]
   by_cases q3:c≤12
   ·rw[Zd (by omega),Xad q3,Xaj]
    by_cases q4:m.2.length≤8
    ·rw[Zd (by omega),Xad q4,Xaj,←Zky m.2 (ZfW m.1.length) (0,([],([],(0,[])))),
      Zeh m.2.length (fun i=>ZfW m.1.length (m.2.getD i (0,([],([],(0,[])))))) false true]
     ·cases (List.range m.2.length).all (fun i=>ZfW m.1.length (m.2.getD i (0,([],([],(0,[]))))))<;>rfl
     ·intro i hi _
      unfold Zjd
      rw[Zc (by omega),Zb ⟨by omega,by omega⟩,Xab,ZDm m _ (h3 _ (ZA hi)) (by omega),Ze]
      cases ZfW m.1.length (m.2.getD i (0,([],([],(0,[])))))with
      |true=>rw[cnt,Zf (by omega) (by omega),ctt]
      |false=>rw[cnf,cff]
     ·unfold Zjd
      rw[Zd (by omega)]
    ·rw[Zc (by omega),decide_eq_false q4,Xai]
   ·rw[Zc (by omega),decide_eq_false q3,Xai,XaW]
  ·rw[Zc (by omega),decide_eq_false q2,Xai]
 ·rw[Zc (by omega),decide_eq_false q1,Xai,Xai]
theorem Zm6 (m:Zo) (h:Zek m):Zgw m=some (Zy m):=by
 have hs:=h
 obtain⟨h1,h2,h3⟩:=h
 unfold Zgw
 refine ZK (fun s:Int×Int=>∃i:Nat,s.2=i∧i≤m.1.length∧i≤5∧s.1=Znb (m.1.take i)∧∀j,j<i→ZdY (m.1.getD j 0)=true) (fun s=>m.1.length - s.2.toNat) (fun _=>Zy m) ?_ _ ⟨0,rfl,Nat.zero_le _,by omega,rfl,fun j hj=>by omega⟩
 rintro⟨c,s⟩ ⟨i,rfl,hi,hi5,hc,hpre⟩
 dsimp only at hc ⊢
 subst hc
 have hb:=Zye _ (ZwR hpre)
 rw[XaB]at hb
 unfold Zm7
 dsimp only
 have ups:∀x:Option Bool,∀b,x=some b→(up x:Option ((Int×Int)⊕Bool))=some (.inr b):=fun x b hx=>by rw[hx];rfl
 rcases Xag i m.1.length with h5|h5
 ·rw[Zc (by omega)]
  by_cases h6:i<5
  ·rw[Zc (by omega),Zb ⟨by omega,by omega⟩,Xab]
   have bad:ZdY (m.1.getD i 0)=false→Zy m=false:=fun hq=>by
    unfold Zy
    rw[List.all_eq_false.2 ⟨_,ZA h5,by rw[hq];simp⟩,Xai,XaW,XaW]
   by_cases h7:m.1.getD i 0<0
   ·right
    rw[Zc h7,bad (by unfold ZdY;rw[decide_eq_false (by omega),Xai])]
   ·rw[Zd h7,Zb ⟨by omega,by omega⟩]
    by_cases h8:3<m.1.getD i 0
    ·right
     rw[Zc h8,bad (by unfold ZdY;rw[show decide (m.1.getD i 0≤3)=false from decide_eq_false (by omega),XaW])]
    ·left
     rw[Zd h8,Zb ⟨by omega,by omega⟩,Zf (by omega) (by omega),Zf (by omega) (by omega),Zf (by omega) (by omega)]
     refine⟨_,rfl,⟨i+1,by simp,by omega,by omega,?_,fun j hj=>?_⟩,by dsimp only;omega,rfl⟩
     ·dsimp only
      rw[ZnA h5,Zzc]
      omega
     ·rcases Xag j i with h9|h9
      ·exact hpre j h9
      ·rw[show j=i by omega]
       unfold ZdY
       rw[Xad (by omega),Xad (by omega)];rfl
  ·right
   rw[Zd (by omega),ups _ _ (Zp8 m _ hs)]
   unfold Zy
   rw[show decide (m.1.length≤5)=false from decide_eq_false (by omega),XaW,Xai,Xai]
 ·right
  have:i=m.1.length:=by omega
  subst this
  have hall:m.1.all ZdY=true:=by
   have:=ZwR hpre
   rwa [Xa5 (Nat.le_refl _)]at this
  rw[Zd (by omega),ups _ _ (Zp8 m _ hs),Xa5 (Nat.le_refl _)]
  unfold Zy
  rw[hall,Xaj]
end Go.AE.Y
namespace Go.AE.Y
open Go Go.AE
theorem ZcN {m:Zo} (h:Zy m=true):1≤m.1.length∧m.1.length≤5∧m.2.length≤8:=by
 unfold Zy at h
 simp only[Xae,Xaf]at h
 exact⟨h.1.1,h.1.2,h.2.1⟩
theorem ZKt {l:List Int} {n:Int} (h:ZpU l n=true) {i:Nat} (hi:i<l.length):0≤l.getD i 0∧l.getD i 0<n:=by
 unfold ZpU at h
 have:=Xar.1 h i (Xax.2 hi)
 unfold Znk at this
 simp only[Xae,Xaf]at this
 omega
end Go.AE.Y
namespace Go.AE.Y
open Go Go.AE
end Go.AE.Y
namespace Go.AE.Y
open Go Go.AE
def wtB (n:Int):Bool:=decide (-9≤n)&&decide (n≤9)
def Zgi (m:Zo) (c:List Int):Bool:=decide (c.length=m.1.length)&&c.all wtB
def cellAt (m:Zo) (x:List Int) (i:Nat):Bool:=decide (0≤x.getD i 0)&&decide (x.getD i 0≤m.1.getD i 0)
def ZJ (m:Zo) (x:List Int):Bool:=decide (x.length=m.1.length)&&(List.range x.length).all (cellAt m x)
def Z1 (c x:List Int) (n:Nat):Int:=(List.range n).foldl (fun a i=>a+c.getD i 0*x.getD i 0) 0
theorem Zjh (c x:List Int) (n:Nat):Z1 c x (n+1)=Z1 c x n+c.getD n 0*x.getD n 0:=by
 unfold Z1
 rw[XbA,Xa6]
 rfl
theorem ZrJ (m:Zo) (x:List Int) (h:Zek m) (hx:x.length≤1048576):Zi1 m x=some (Zy m&&ZJ m x):=by
 unfold Zi1 ZJ
 rw[Zgb m h,Ze]
 cases hm:Zy m with
 |false=>rw[cnf,Xai]
 |true=>
  obtain⟨m1,m2,m3⟩:=ZcN hm
  rw[cnt,Xaj]
  by_cases hl:x.length=m.1.length
  ·rw[Zdh (by omega),Xad hl,Xaj,Zeh x.length (cellAt m x) false true]
   ·cases (List.range x.length).all (cellAt m x)<;>rfl
   ·intro i hi _
    unfold Zi2 cellAt
    rw[Zc (by omega),Zb ⟨by omega,by omega⟩,Zb ⟨by omega,by omega⟩,Xab,ZbQ,Ze]
    cases (decide (0≤x.getD i 0)&&decide (x.getD i 0≤m.1.getD i 0))with
    |true=>rw[cnt,Zf (by omega) (by omega),ctt]
    |false=>rw[cnf,cff]
   ·unfold Zi2
    rw[Zd (by omega)]
  ·rw[Zd9 (by omega),decide_eq_false hl,Xai]
theorem Zfz (m:Zo) (c:List Int) (hc:c.length≤1048576):Zee m c=some (Zgi m c):=by
 unfold Zee Zgi
 by_cases hl:c.length=m.1.length
 ·rw[Zx (by omega),Xad hl,Xaj]
  unfold Zc8 ZdB
  obtain⟨r,hr1,hr2⟩:=Zhy (f:=Zbq c) c 0 (fun x=>!wtB x) (fun i hi=>by
   unfold Zbq ZmW
   rw[Zc (by omega),Zb ⟨by omega,by omega⟩,Xab,ZbQ,Ze,Ze]
   unfold wtB
   cases (decide (-9≤c.getD i 0)&&decide (c.getD i 0≤9))with
   |true=>rw[cnt,Zf (by omega) (by omega),cnt]
   |false=>rw[cnf,cnf]) (by
   unfold Zbq
   rw[Zd (by omega)])
  rw[hr1,Ze,Ze,hr2,Xa3]
  simp only[XbI]
 ·rw[Zu (by omega),decide_eq_false hl,Xai]
theorem Zuz (m:Zo) (c:List Int) (h:Zek m) (hc:c.length≤1048576):Zna m c=some (Zy m&&Zgi m c):=by
 unfold Zna Zgi
 rw[Zm6 m h,Ze]
 cases hm:Zy m with
 |false=>rw[cnf,Xai]
 |true=>
  rw[cnt,Xaj]
  by_cases hl:c.length=m.1.length
  ·rw[Zdh (by omega),Xad hl,Xaj,←Zky c wtB 0,Zeh c.length (fun i=>wtB (c.getD i 0)) false true]
   ·cases (List.range c.length).all (fun i=>wtB (c.getD i 0))<;>rfl
   ·intro i hi _
    unfold Zmt wtB
    rw[Zc (by omega),Zb ⟨by omega,by omega⟩,Xab]
    by_cases q1:c.getD i 0 < -9
    ·rw[Zc q1,decide_eq_false (show ¬ -9≤c.getD i 0 by omega),Xai,cff]
    ·rw[Zd q1,Zb ⟨by omega,by omega⟩,Xad (show -9≤c.getD i 0 by omega),Xaj]
     by_cases q2:9<c.getD i 0
     ·rw[Zc q2,decide_eq_false (show ¬c.getD i 0≤9 by omega),cff]
     ·rw[Zd q2,Xad (show c.getD i 0≤9 by omega),Zf (by omega) (by omega),ctt]
   ·unfold Zmt
    rw[Zd (by omega)]
  ·rw[Zd9 (by omega),decide_eq_false hl,Xai]
theorem Zm0 {c x:Int} (hc : -9≤c∧c≤9) (hx:0≤x∧x≤3) : -27≤c*x∧c*x≤27:=by
 have:x=0∨x=1∨x=2∨x=3:=by omega
 rcases this with rfl|rfl|rfl|rfl<;>omega
theorem ZwT {m:Zo} {c x:List Int} (hm:Zy m=true) (hc:Zgi m c=true) (hx:ZJ m x=true) :
  x.length=m.1.length∧c.length=m.1.length∧m.1.length≤5∧∀i,i<x.length → -27≤c.getD i 0*x.getD i 0∧c.getD i 0*x.getD i 0≤27:=by
 obtain⟨m1,m2,m3⟩:=ZcN hm
 unfold Zgi at hc
 unfold ZJ at hx
 unfold Zy at hm
 simp only[Xae,Xaf,Xar]at hc hx hm
 refine⟨hx.1,hc.1,m2,fun i hi=>Zm0 ?_ ?_⟩
 ·have:=hc.2 _ (ZA (l:=c) (i:=i) (d:=0) (by omega))
  unfold wtB at this
  simpa using this
 ·have h1:=hx.2 i (Xax.2 hi)
  have h2:=hm.2.2.1 _ (ZA (l:=m.1) (i:=i) (d:=0) (by omega))
  unfold cellAt at h1
  unfold ZdY at h2
  simp only[Xae,Xaf]at h1 h2
  omega
theorem ZCk {c x:List Int} {n:Nat} (hn:n≤5) (h:∀i,i<n → -27≤c.getD i 0*x.getD i 0∧c.getD i 0*x.getD i 0≤27) : -27*(n:Int)≤Z1 c x n∧Z1 c x n≤27*n:=by
 induction n with
 |zero=>simp[Z1]
 |succ n ih=>
  have:=ih (by omega) (fun i hi=>h i (by omega))
  have:=h n (by omega)
  rw[Zjh]
  omega
theorem Zi6 {c x:List Int} (hl:c.length=x.length) (hn:x.length≤5) (h:∀i,i<x.length → -27≤c.getD i 0*x.getD i 0∧c.getD i 0*x.getD i 0≤27):Zfg c x=some (Z1 c x x.length):=by
 unfold Zfg
 refine ZK (fun s:Int×Int=>∃i:Nat,s.2=i∧i≤x.length∧s.1=Z1 c x i) (fun s=>x.length - s.2.toNat) (fun _=>Z1 c x x.length) ?_ _ ⟨0,rfl,Nat.zero_le _,rfl⟩
 rintro⟨a,s⟩ ⟨i,rfl,hi,ha⟩
 dsimp only at ha ⊢
 subst ha
 unfold Zp0
 dsimp only
 rcases Xag i x.length with h1|h1
 ·left
  have hb:=ZCk (c:=c) (x:=x) (n:=i) (by omega) (fun j hj=>h j (by omega))
  have hi2:=h i h1
  rw[Zc (by omega),Zb ⟨by omega,by omega⟩,Zb ⟨by omega,by omega⟩,Xab,Zf (by omega) (by omega),Zf (by omega) (by omega),Zf (by omega) (by omega)]
  exact⟨_,rfl,⟨i+1,by simp,by omega,by rw[Zjh]⟩,by dsimp only;omega,rfl⟩
 ·right
  have:i=x.length:=by omega
  subst this
  rw[Zd (by omega)]
theorem ZCf {c x:List Int} (hl:c.length=x.length) (hn:x.length≤5) (h:∀i,i<x.length → -27≤c.getD i 0*x.getD i 0∧c.getD i 0*x.getD i 0≤27):Zqf c x=some (Z1 c x x.length):=by
 unfold Zqf
 refine ZK (fun s:Int×Int=>∃i:Nat,s.2=i∧i≤x.length∧s.1=Z1 c x i) (fun s=>x.length - s.2.toNat) (fun _=>Z1 c x x.length) ?_ _ ⟨0,rfl,Nat.zero_le _,rfl⟩
 rintro⟨a,s⟩ ⟨i,rfl,hi,ha⟩
 dsimp only at ha ⊢
 subst ha
 unfold Zqg
 dsimp only
 rcases Xag i x.length with h1|h1
 ·left
  have hb:=ZCk (c:=c) (x:=x) (n:=i) (by omega) (fun j hj=>h j (by omega))
  have hi2:=h i h1
  rw[Zc (by omega),Zb ⟨by omega,by omega⟩,Zb ⟨by omega,by omega⟩,Xab,Zf (by omega) (by omega),Zf (by omega) (by omega),Zf (by omega) (by omega)]
  exact⟨_,rfl,⟨i+1,by simp,by omega,by rw[Zjh]⟩,by dsimp only;omega,rfl⟩
 ·right
  have:i=x.length:=by omega
  subst this
  rw[Zd (by omega)]
def ZJM (m:Zo) (c x:List Int):Int×Bool:=bif Zy m&&(Zgi m c&&ZJ m x)then(Z1 c x x.length,true)else(0,false)
theorem Zok (m:Zo) (c x:List Int) (h:Zek m) (hc:c.length≤1048576) (hx:x.length≤1048576):ZdT m c x=some (ZJM m c x):=by
 unfold ZdT ZJM
 rw[ZrJ m x h hx,Ze]
 cases hm:Zy m with
 |false=>rw[Xai,Xai,cnf,cff]
 |true=>
  rw[Xaj,Xaj]
  cases hxx:ZJ m x with
  |false=>rw[cnf,XaW,cff]
  |true=>
   rw[cnt,Zfz m c hc,Ze,XbS]
   cases hcc:Zgi m c with
   |false=>rw[cnf,cff]
   |true=>
    obtain⟨b1,b2,b3,b4⟩:=ZwT hm hcc hxx
    rw[cnt,ctt,Zi6 (by omega) (by omega) b4,Ze]
end Go.AE.Y
namespace Go.AE.Y
open Go Go.AE
def ZNL (d:List (List Bool)):Prop:=d.length≤1048576∧∀x∈d,x.length≤1048576
theorem ZeY {m:Zo} (hm:Zy m=true) {i:Nat} (hi:i<m.1.length):0≤m.1.getD i 0∧m.1.getD i 0≤3:=by
 unfold Zy at hm
 simp only[Xae,Xaf,Xar]at hm
 have h2:=hm.2.2.1 _ (ZA (l:=m.1) (i:=i) (d:=0) hi)
 unfold ZdY at h2
 simp only[Xae,Xaf]at h2
 omega
theorem Zcu {m:Zo} {x:List Int} (h:ZJ m x=true):x.length=m.1.length∧∀i,i<x.length→0≤x.getD i 0∧x.getD i 0≤m.1.getD i 0:=by
 unfold ZJ cellAt at h
 simp only[Xae,Xaf,Xar]at h
 exact⟨h.1,fun i hi=>h.2 i (Xax.2 hi)⟩
end Go.AE.Y
namespace Go.AE.Y
open Go Go.AE
structure RdOk (r:List Int×Int) (m:Int):Prop where
 byte:∀x∈r.1,0≤x∧x≤255
 len:r.1.length≤2000
 low:0≤r.2
 high:r.2≤m
theorem Zyf {b:List Int} (h:∀x∈b,0≤x∧x≤255) (i:Nat):0≤b.getD i 0∧b.getD i 0≤255:=by
 rcases Xag i b.length with hi|hi
 ·rw[Xaa,Xac hi]
  exact h _ (Xbu hi)
 ·rw[Xaa,Xaw hi]
  decide
theorem ZIw {n:Int} {r:List Int×Int} (h:RdOk r 1000000000) :
  ∃x,Zdt n r=some (x,(r.1,r.2+1))∧0≤x∧(1≤n→x<n)∧(n<1→x=0):=by
 obtain⟨b,p⟩:=r
 obtain⟨hb,hlen,hp1,hp2⟩:=h
 dsimp only at hb hlen hp1 hp2
 unfold Zdt
 dsimp only
 simp(disch:=omega)only[Zf]
 by_cases h1:n<1
 ·simp(disch:=omega)only[Zc]
  exact⟨0,rfl,by omega,by omega,fun _=>rfl⟩
 ·simp(disch:=omega)only[Zd]
  by_cases h2:b.length=0
  ·simp(disch:=omega)only[Zx]
   exact⟨0,rfl,by omega,by omega,fun _=>rfl⟩
  ·simp(disch:=omega)only[Zu,Zf]
   by_cases h3:p<b.length
   ·have e:p+1 - 1<(b.length:Int):=by omega
    have g:=Zyf hb (p+1 - 1).toNat
    simp(disch:=omega)only[Zc,Zb,Zf]
    exact⟨_,rfl,Int.emod_nonneg _ (by omega),fun _=>XbG _ (by omega),by omega⟩
   ·have r1:=Int.emod_nonneg (p+1 - 1) (show (b.length:Int)≠0 by omega)
    have r2:=XbG (p+1 - 1) (show (0:Int)<b.length by omega)
    have r3:=Int.emod_nonneg ((p+1 - 1)*7+3) (show (b.length:Int)≠0 by omega)
    have r4:=XbG ((p+1 - 1)*7+3) (show (0:Int)<b.length by omega)
    have r5:0≤(p+1 - 1) / (b.length:Int):=Int.ediv_nonneg (by omega) (by omega)
    have r6:(p+1 - 1) / (b.length:Int)≤p+1 - 1:=Int.ediv_le_self _ (by omega)
    have g1:=Zyf hb ((p+1 - 1) % (b.length:Int)).toNat
    have g2:=Zyf hb (((p+1 - 1)*7+3) % (b.length:Int)).toNat
    generalize hu:b.getD ((p+1 - 1) % (b.length:Int)).toNat 0=u at g1 ⊢
    generalize hv:b.getD (((p+1 - 1)*7+3) % (b.length:Int)).toNat 0=v at g2 ⊢
    generalize hq:(p+1 - 1) / (b.length:Int)=q at r5 r6 ⊢
    simp(disch:=omega)only[Zd,Zb,Zf]
    exact⟨_,rfl,Int.emod_nonneg _ (by omega),fun _=>XbG _ (by omega),by omega⟩
theorem ZNH {l:List Int} {r:List Int×Int} (h:RdOk r 1000000000) (hl:1≤l.length):∃x,Zbl l r=some (x,(r.1,r.2+1))∧x∈l:=by
 unfold Zbl
 obtain⟨x,h1,h2,h3,_⟩:=ZIw (n:=(l.length:Int)) h
 have h3:=h3 (by omega)
 rw[h1]
 simp only[XaP]
 rw[Zb ⟨h2,h3⟩]
 refine⟨_,rfl,?_⟩
 rw[Xaa,Xac (by omega)]
 exact Xbu _
theorem ZNf {a:List Int} (h:∀x∈a,0≤x∧x≤255):∃r,Zp9 a=some r∧RdOk r 0:=by
 unfold Zp9 Zmi
 by_cases h1:a.length≤2000
 ·simp(disch:=omega)only[Zd]
  exact⟨_,rfl,h,h1,Xat _,Xat _⟩
 ·simp(disch:=omega)only[Zc,Zb]
  exact⟨_,rfl,fun x hx=>h x (List.mem_of_mem_take hx),by simp;omega,Xat _,Xat _⟩
end Go.AE.Y
namespace Go.AE.Y
open Go Go.AE
def small (n:Nat) (l:List Int):Prop:=l.length≤n∧∀x∈l,-13≤x∧x≤13
end Go.AE.Y
namespace Go.AE.Y
open Go Go.AE
theorem Zjp {α:Type} (l:List α) (i j:Nat) (x d:α):(l.set i x).getD j d=if i=j∧i<l.length then x else l.getD j d:=by
 rw[Xaa,List.getElem?_set,Xaa]
 by_cases h:i=j
 ·subst h
  by_cases h2:i<l.length
  ·simp[h2]
  ·simp[h2]
 ·simp[h]
theorem ZV {α:Type} {l:List α} {i j:Nat} {x d:α} (h:i≠j):(l.set i x).getD j d=l.getD j d:=by rw[Zjp,if_neg (by omega)]
theorem ZcT {α:Type} {l:List α} {i:Nat} {x d:α} (h:i<l.length):(l.set i x).getD i d=x:=by rw[Zjp,if_pos ⟨rfl,h⟩]
end Go.AE.Y
namespace Go.AE.Y
open Go Go.AE
def Adv (r r':List Int×Int) (c:Int):Prop:=r'.1=r.1∧r.2≤r'.2∧r'.2≤r.2+c
theorem Adv.ok {r r':List Int×Int} {m m' c:Int} (h:RdOk r m) (a:Adv r r' c) (hm:m+c≤m'):RdOk r' m':=by
 obtain⟨a1,a2,a3⟩:=a
 have:=h.low
 have:=h.high
 exact⟨by rw[a1];exact h.byte,by rw[a1];exact h.len,by omega,by omega⟩
theorem Adv.refl (r:List Int×Int) {c:Int} (h:0≤c):Adv r r c:=⟨rfl,Xat _,by omega⟩
theorem Adv.trans {r r' r'':List Int×Int} {c c' d:Int} (a:Adv r r' c) (b:Adv r' r'' c') (h:c+c'≤d):Adv r r'' d:=by
 obtain⟨a1,a2,a3⟩:=a
 obtain⟨b1,b2,b3⟩:=b
 exact⟨b1.trans a1,by omega,by omega⟩
theorem ZtE {r:List Int×Int} (n:Int) (h:RdOk r 1000000000):∃x r',Zdt n r=some (x,r')∧Adv r r' 1∧0≤x∧(1≤n→x<n):=by
 obtain⟨x,h1,h2,h3,_⟩:=ZIw (n:=n) h
 exact⟨x,_,h1,⟨rfl,by (try dsimp only)<;>omega,by (try dsimp only)<;>omega⟩,h2,h3⟩
theorem Zgq {l:List Int} {r:List Int×Int} (h:RdOk r 1000000000) (hl:1≤l.length):∃x r',Zbl l r=some (x,r')∧Adv r r' 1∧x∈l:=by
 obtain⟨x,h1,h2⟩:=ZNH h hl
 exact⟨x,_,h1,⟨rfl,by (try dsimp only)<;>omega,by (try dsimp only)<;>omega⟩,h2⟩
end Go.AE.Y
namespace Go.AE.Y
open Go Go.AE
end Go.AE.Y
namespace Go.AE.Y
open Go Go.AE
theorem ZEI (a:List (Int×Int)) (h:a.length≤4000000000):ZfX a=some a:=by
 unfold ZfX
 refine ZyK (fun hp=>by rw[hp]) ?_
 rw[Zb (by simp[Zl];omega),Xau]
theorem ZBY (c:List (Int×Int)×Int) (h:c.1.length≤4000000000):ZeG c=some (c.2,c.1):=by
 unfold ZeG
 rw[ZEI _ h,Ze]
theorem ZKz (c:List (Int×Int)×Int) (h:c.1.length≤4000000000):Zq4 c=some (c.2,c.1):=by
 unfold Zq4
 rw[Zb (by simp[Zl];omega),Xau]
theorem ZKD {α R:Type} {f:Int×List α→Option ((Int×List α)⊕R)} (l:List α) (d:α) (o0:List α) (fin:List α→R)
  (h:∀(i:Nat) (out:List α),i<l.length→out.length=o0.length+i→f (i,out)=some (.inl ((i:Int)+1,out++[l.getD i d]))) (hn:f (l.length,o0++l)=some (.inr (fin (o0++l)))) :
  loop f (0,o0)=some (fin (o0++l)):=by
 refine ZK (fun s:Int×List α=>∃i:Nat,s.1=i∧i≤l.length∧s.2=o0++l.take i) (fun s=>l.length - s.1.toNat) (fun _=>fin (o0++l)) ?_ _ ⟨0,rfl,Nat.zero_le _,by simp⟩
 rintro⟨s,out⟩ ⟨i,rfl,hi,ho⟩
 dsimp only at ho ⊢
 rcases Xag i l.length with h1|h1
 ·left
  refine⟨_,h i out h1 (by rw[ho];simp;omega),⟨i+1,by simp,by omega,?_⟩,by dsimp only;omega,rfl⟩
  dsimp only
  rw[ho,List.take_succ_eq_append_getElem h1,XaK]
  congr 2
  simp[Xaa,h1]
 ·right
  have:i=l.length:=by omega
  subst this
  rw[XaC]at ho
  rw[ho,hn]
theorem ZbZ {α β R:Type} {f:Int×List β→Option ((Int×List β)⊕R)} (l:List α) (d:α) (g:α→β) (o0:List β) (fin:List β→R)
  (h:∀(i:Nat) (out:List β),i<l.length→out.length=o0.length+i→f (i,out)=some (.inl ((i:Int)+1,out++[g (l.getD i d)]))) (hn:f (l.length,o0++l.map g)=some (.inr (fin (o0++l.map g)))) :
  loop f (0,o0)=some (fin (o0++l.map g)):=by
 refine ZKD (l.map g) (g d) o0 fin (fun i out hi ho=>?_) (by rw[Xak];exact hn)
 rw[Xak]at hi
 rw[h i out hi ho,ZmR l g i d (g d) hi]
end Go.AE.Y
namespace Go.AE.Y
open Go Go.AE
theorem ZeE {α:Type} {l:List α} {i:Nat} (d:α) (h:i<l.length):l.take (i+1)=l.take i++[l.getD i d]:=by
 rw[List.take_succ_eq_append_getElem h,Xaa,Xac h];rfl
end Go.AE.Y
namespace Go.AE.Y
open Go Go.AE
theorem Zz2 (a:List Int) (h:a.length≤4000000000):Zhw a a=some true:=by
 unfold Zhw
 rw[Zdh rfl,Zeh a.length (fun _=>true) false true]
 ·rw[Xar.2 (fun _ _=>rfl)];rfl
 ·intro i hi _
  unfold Znq
  simp(disch:=omega)only[Zc,Zb,Zf,Xab,bne_self_eq_false,cff,ctt]
 ·unfold Znq
  simp(disch:=omega)only[Zd]
end Go.AE.Y
namespace Go.AE.Y
open Go Go.AE
end Go.AE.Y
namespace Go.AE.Y
open Go Go.AE
end Go.AE.Y
namespace Go.AE.Y
open Go Go.AE
end Go.AE.Y
namespace Go.AE.Y
open Go Go.AE
end Go.AE.Y
namespace Go.AE.Y
open Go Go.AE
def HdL {α:Type} (H:α→Int→Int→Prop):List α→Int→Int→Prop
 |[],k,k'=>k=k'
 |x::r,k,k'=>∃k1,H x k k1∧HdL H r k1 k'
theorem HdL.snoc {α:Type} {H:α→Int→Int→Prop} {x:α}:∀{l:List α} {k k1 k2:Int},HdL H l k k1→H x k1 k2→HdL H (l++[x]) k k2
 |[],_,_,_,h,hx=>⟨_,by rw[show _=_ from h];exact hx,rfl⟩
 |_::_,_,_,_,⟨k3,h1,h2⟩,hx=>⟨k3,h1,HdL.snoc h2 hx⟩
theorem HdL.mono {α:Type} {H:α→Int→Int→Prop} (hm:∀x k k',H x k k'→k≤k'):∀{l:List α} {k k':Int},HdL H l k k'→k≤k'
 |[],_,_,h=>by rw[show _=_ from h];exact Xat _
 |_::_,_,_,⟨_,h1,h2⟩=>Int.le_trans (hm _ _ _ h1) (HdL.mono hm h2)
def HI (x k k':Int):Prop:=x=k∧k'=k+1
theorem HI.mono (x k k':Int) (h:HI x k k'):k≤k':=by have:=h.2;omega
def HII (x:List Int) (k k':Int):Prop:=HdL HI x k k'∧x.length≤4000000000
theorem HII.mono (x:List Int) (k k':Int) (h:HII x k k'):k≤k':=HdL.mono HI.mono h.1
def HR (r:Int×List Int×List Int×Int×List (List Int)) (k k':Int):Prop:=
 r.1=k∧∃k1 k2,HdL HI r.2.1 (k+1) k1∧HdL HI r.2.2.1 k1 k2∧r.2.2.2.1=k2∧HdL HII r.2.2.2.2 (k2+1) k'∧r.2.1.length≤4000000000∧r.2.2.1.length≤4000000000∧r.2.2.2.2.length≤4000000000
theorem HR.mono (r:Int×List Int×List Int×Int×List (List Int)) (k k':Int) (h:HR r k k'):k≤k':=by
 obtain⟨_,k1,k2,h1,h2,_,h3,_⟩:=h
 have:=HdL.mono HI.mono h1
 have:=HdL.mono HI.mono h2
 have:=HdL.mono HII.mono h3
 omega
end Go.AE.Y
namespace Go.AE.Y
open Go Go.AE
end Go.AE.Y
namespace Go.AE.Y
open Go Go.AE
def ZO (m:Zo) (i:Nat):Int:=Znb (m.1.take i)
theorem ZfR {m:Zo} {i:Nat} (h:i<m.1.length):ZO m (i+1)=ZO m i+(m.1.getD i 0+1):=by
 unfold ZO
 rw[ZnA h,Zzc]
theorem ZgA {m:Zo} (hm:Zy m=true):∀i,i≤m.1.length→(i:Int)≤ZO m i∧ZO m i≤12:=by
 have hmono:∀i n,i+n=m.1.length→ZO m i≤ZO m m.1.length:=by
  intro i n
  induction n generalizing i with
  |zero=>intro h;rw[show i=m.1.length by omega];exact Xat _
  |succ n ih=>
   intro h
   have h1:=ih (i+1) (by omega)
   rw[ZfR (by omega)]at h1
   have:=ZeY hm (i:=i) (by omega)
   omega
 have hlo:∀i,i≤m.1.length→(i:Int)≤ZO m i:=by
  intro i
  induction i with
  |zero=>intro _;show ((0:Nat):Int)≤0;decide
  |succ n ih=>
   intro h
   have h1:=ih (by omega)
   rw[ZfR (by omega)]
   have:=ZeY hm (i:=n) (by omega)
   omega
 intro i hi
 refine⟨hlo i hi,?_⟩
 have h1:=hmono i (m.1.length - i) (by omega)
 have h2:ZO m m.1.length≤12:=by
  unfold ZO
  rw[XaC]
  unfold Zy at hm
  simp only[Xae,Xaf]at hm
  exact hm.2.2.2.1
 omega
theorem Zi5 {m:Zo} (hm:Zy m=true) {i k:Nat} (hi:i<m.1.length) (hk:k≤100):Zdy m i k=some (1+k+ZO m i):=by
 obtain⟨m1,m2,m3⟩:=ZcN hm
 unfold Zdy
 rw[Zf (by omega) (by omega),Zb ⟨by omega,by omega⟩]
 refine ZK (fun s:Int×Int=>∃t:Nat,s.2=t∧t≤i∧s.1=1+k+ZO m t) (fun s=>i - s.2.toNat) (fun _=>1+k+ZO m i) ?_ _ ⟨0,rfl,Nat.zero_le _,by show (1:Int)+k=1+k+0;omega⟩
 rintro⟨v,s⟩ ⟨t,rfl,ht,rfl⟩
 dsimp only
 unfold Zj6
 dsimp only
 have hl:(m.1.take (i:Int).toNat).length=i:=by rw[XaB];omega
 rw[hl]
 rcases Xag t i with h1|h1
 ·left
  have hg:(m.1.take (i:Int).toNat).getD (t:Int).toNat 0=m.1.getD t 0:=by
   rw[Xab,Xab,Xaa,List.getElem?_take_of_lt h1,Xaa]
  have hz:=ZeY hm (i:=t) (by omega)
  have hb:=ZgA hm t (by omega)
  have hb':=ZfR (m:=m) (i:=t) (by omega)
  rw[hg,Zc (by omega),Zb ⟨by omega,by omega⟩,Zf (by omega) (by omega),Zf (by omega) (by omega),Zf (by omega) (by omega)]
  exact⟨_,rfl,⟨t+1,by simp,by omega,by rw[hb'];(try dsimp only)<;>omega⟩,by (try dsimp only)<;>omega,rfl⟩
 ·right
  have:t=i:=by omega
  subst this
  rw[Zd (by omega)]
theorem ZiQ {m:Zo} (hm:Zy m=true) {i k:Nat} (hi:i<m.1.length) (hk:k≤100):Zhn m i k=some (1+k+ZO m i):=by
 obtain⟨m1,m2,m3⟩:=ZcN hm
 unfold Zhn
 rw[Zf (by omega) (by omega)]
 refine ZK (fun s:Int×Int=>∃t:Nat,s.2=t∧t≤i∧s.1=1+k+ZO m t) (fun s=>i - s.2.toNat) (fun _=>1+k+ZO m i) ?_ _ ⟨0,rfl,Nat.zero_le _,by show (1:Int)+k=1+k+0;omega⟩
 rintro⟨v,s⟩ ⟨t,rfl,ht,rfl⟩
 dsimp only
 unfold Zsg
 dsimp only
 rcases Xag t i with h1|h1
 ·left
  have hz:=ZeY hm (i:=t) (by omega)
  have hb:=ZgA hm t (by omega)
  have hb':=ZfR (m:=m) (i:=t) (by omega)
  rw[Zc (by omega),Zb ⟨by omega,by omega⟩,Xab,Zf (by omega) (by omega),Zf (by omega) (by omega),Zf (by omega) (by omega)]
  exact⟨_,rfl,⟨t+1,by simp,by omega,by rw[hb'];(try dsimp only)<;>omega⟩,by (try dsimp only)<;>omega,rfl⟩
 ·right
  have:t=i:=by omega
  subst this
  rw[Zd (by omega)]
end Go.AE.Y
namespace Go.AE.Y
open Go Go.AE
def HT (x:Int×Int) (k k':Int):Prop:=x=(k,k+1)∧k'=k+2
theorem HT.mono (x:Int×Int) (k k':Int) (h:HT x k k'):k≤k':=by have:=h.2;omega
abbrev ZE:=Int×Int×Int×List (Int×Int)×Int
def ZGM (s:ZE):Prop:=s.2.2.2.1.length≤1048576
end Go.AE.Y
namespace Go.AE.Y
open Go Go.AE
set_option maxHeartbeats 400000
def ZtB (c:Int) (b:Nat):Nat→List Int→List Int
 |0,o=>o
 |k+1,o=>(ZtB c b k o).set (1+k+b) ((0 - c)*k)
def Zdu (m:Zo) (c:List Int):Nat→List Int
 |0=>List.replicate 13 0
 |n+1=>ZtB (c.getD n 0) (ZO m n).toNat (m.1.getD n 0+1).toNat (Zdu m c n)
def Zqj (c:Int) (b:Nat):Nat→List (Int×Int)
 |0=>[]
 |k+1=>Zqj c b k++[((0 - c)*k,((1+k+b:Nat):Int))]
def Zor (m:Zo) (c:List Int):Nat→List (Int×Int)
 |0=>[]
 |n+1=>Zor m c n++Zqj (c.getD n 0) (ZO m n).toNat (m.1.getD n 0+1).toNat
def ZlJ (o:List Int) (t:Int×Int):List Int:=o.set t.2.toNat (o.getD t.2.toNat 0+t.1)
def ZcW (net:List Int):Nat→List (Int×Int)
 |0=>[]
 |n+1=>ZcW net n++(if 0<net.getD (n+1) 0 then[(net.getD (n+1) 0,((n+1:Nat):Int))]else if net.getD (n+1) 0<0 then[(0 - net.getD (n+1) 0,0 - ((n+1:Nat):Int))]else[])
def Zbt (net:List Int) (b:Int):Nat→Int
 |0=>b
 |n+1=>if net.getD (n+1) 0<0 then Zbt net b n - net.getD (n+1) 0 else Zbt net b n
abbrev ZnN:=Bool×Int×List (Int×Int)
def Zc2 (net:List Int) (b:Int):ZnN:=bif ZG (ZcW net 12,max 0 (Zbt net b 12))then(true,max 0 (Zbt net b 12),ZcW net 12)else(false,0,[])
def ZsQ (m:Zo) (c:List Int) (most:Int):ZnN:=bif (Zy m&&Zgi m c)&&(decide (-1000≤most)&&decide (most≤1000))then Zc2 (Zdu m c m.1.length) (0 - most)else(false,0,[])
theorem ZwA (c:Int) (b:Nat) (o:List Int):∀k,(ZtB c b k o).length=o.length
 |0=>rfl
 |k+1=>by unfold ZtB;rw[Xam,ZwA]
theorem ZqL (m:Zo) (c:List Int):∀n,(Zdu m c n).length=13
 |0=>rfl
 |n+1=>by unfold Zdu;rw[ZwA,ZqL]
theorem ZtC {c:Int} {b:Nat} {o:List Int}:∀{k:Nat},b+k+1≤o.length→∀j,(ZtB c b k o).getD j 0=if 1+b≤j∧j<1+b+k then(0 - c)*((j - (1+b):Nat):Int)else o.getD j 0
 |0,_,j=>by
  rw[if_neg (by omega)]
  rfl
 |k+1,h,j=>by
  have ih:=ZtC (c:=c) (b:=b) (o:=o) (k:=k) (by omega) j
  have hl:=ZwA c b o k
  unfold ZtB
  by_cases q:1+k+b=j
  ·rw[if_pos (by omega),←q,ZcT (by omega),show 1+k+b - (1+b)=k by omega]
  ·rw[ZV q,ih]
   by_cases q2:1+b≤j∧j<1+b+k
   ·rw[if_pos q2,if_pos (by omega)]
   ·rw[if_neg q2,if_neg (by omega)]
theorem Zf3 {m:Zo} (hm:Zy m=true) {n:Nat} (hn:n<m.1.length):0≤ZO m n∧0≤m.1.getD n 0∧m.1.getD n 0≤3∧ZO m (n+1)=ZO m n+(m.1.getD n 0+1)∧ZO m (n+1)≤12:=by
 have h1:=ZgA hm n (by omega)
 have h2:=ZgA hm (n+1) (by omega)
 have h3:=ZeY hm hn
 have h4:=ZfR (m:=m) hn
 omega
theorem ZrP {m:Zo} {c:List Int} (hm:Zy m=true):∀n,n≤m.1.length→∀j,(j=0∨1+(ZO m n).toNat≤j)→(Zdu m c n).getD j 0=0
 |0,_,j,_=>by
  show (List.replicate 13 (0:Int)).getD j 0=0
  rw[Xaa]
  rcases Xag j 13 with h|h
  ·rw[XaO h];rfl
  ·rw[Xaw (by rw[XaG];exact h)];rfl
 |n+1,h,j,hj=>by
  obtain⟨b0,s0,s3,b1,b12⟩:=Zf3 hm (show n<m.1.length by omega)
  have ih:=ZrP (c:=c) hm n (by omega) j (by omega)
  unfold Zdu
  rw[ZtC (by rw[ZqL];omega),if_neg (by omega),ih]
theorem ZGo {m:Zo} {c:List Int} (hm:Zy m=true):∀n,n≤m.1.length→∀i,i<n→∀k:Nat,(k:Int)≤m.1.getD i 0→(Zdu m c n).getD (1+k+(ZO m i).toNat) 0=(0 - c.getD i 0)*k
 |0,_,i,hi,_,_=>by omega
 |n+1,h,i,hi,k,hk=>by
  obtain⟨b0,s0,s3,b1,b12⟩:=Zf3 hm (show n<m.1.length by omega)
  unfold Zdu
  rw[ZtC (by rw[ZqL];omega)]
  rcases Xag i n with q|q
  ·have hmono:ZO m i+(m.1.getD i 0+1)≤ZO m n:=by
    have:∀d,i+1+d≤m.1.length→ZO m i+(m.1.getD i 0+1)≤ZO m (i+1+d):=by
     intro d
     induction d with
     |zero=>intro hd;have:=Zf3 hm (show i<m.1.length by omega);show _≤ZO m (i+1);omega
     |succ d ih=>
      intro hd
      have h1:=ih (by omega)
      have h2:=Zf3 hm (show i+1+d<m.1.length by omega)
      show _≤ZO m (i+1+d+1)
      omega
    have:=this (n - (i+1)) (by omega)
    rwa [show i+1+(n - (i+1))=n by omega]at this
   have hbi:=Zf3 hm (show i<m.1.length by omega)
   rw[if_neg (by omega)]
   exact ZGo hm n (by omega) i q k hk
  ·have:i=n:=by omega
   subst this
   rw[if_pos (by omega),show 1+k+(ZO m i).toNat - (1+(ZO m i).toNat)=k by omega]
theorem ZKr {c:Int} {b:Nat} {o:List Int}:∀k,b+k+1≤o.length→(∀j,1+b≤j→j<1+b+k→o.getD j 0=0)→(Zqj c b k).foldl ZlJ o=ZtB c b k o
 |0,_,_=>rfl
 |k+1,h,hz=>by
  unfold Zqj ZtB
  rw[Xa6,ZKr k (by omega) (fun j h1 h2=>hz j h1 (by omega))]
  show ZlJ (ZtB c b k o) _=_
  unfold ZlJ
  dsimp only
  rw[Xab,ZtC (by omega),if_neg (by omega),hz _ (by omega) (by omega),Int.zero_add]
theorem ZFW {m:Zo} {c:List Int} (hm:Zy m=true):∀n,n≤m.1.length→(Zor m c n).foldl ZlJ (List.replicate 13 0)=Zdu m c n
 |0,_=>rfl
 |n+1,h=>by
  obtain⟨b0,s0,s3,b1,b12⟩:=Zf3 hm (show n<m.1.length by omega)
  unfold Zor Zdu
  rw[Xa6,ZFW hm n (by omega),ZKr _ (by rw[ZqL];omega) (fun j h1 _=>ZrP hm n (by omega) j (Or.inr (by omega)))]
def okT (t:Int×Int):Prop:=(-27≤t.1∧t.1≤27)∧1≤t.2∧t.2≤12
theorem Zzd {c:Int} {b:Nat} (hc : -9≤c∧c≤9):∀k,k≤4→b+k≤12→(Zqj c b k).length=k∧∀t∈Zqj c b k,okT t
 |0,_,_=>⟨rfl,fun t h=>absurd h Xay⟩
 |k+1,h,hb=>by
  obtain⟨i1,i2⟩:=Zzd (c:=c) (b:=b) hc k (by omega) (by omega)
  unfold Zqj
  refine⟨by rw[Xal,i1];rfl,fun t ht=>?_⟩
  rcases List.mem_append.1 ht with ht|ht
  ·exact i2 t ht
  ·rw[Xah]at ht
   subst ht
   have:=Zm0 (c:=0 - c) (x:=(k:Int)) ⟨by omega,by omega⟩ ⟨by omega,by omega⟩
   exact⟨this,by (try dsimp only)<;>omega,by (try dsimp only)<;>omega⟩
theorem ZEj {m:Zo} {c:List Int} (hm:Zy m=true) (hc:∀i,-9≤c.getD i 0∧c.getD i 0≤9):∀n,n≤m.1.length→((Zor m c n).length:Int)=ZO m n∧∀t∈Zor m c n,okT t
 |0,_=>⟨rfl,fun t h=>absurd h Xay⟩
 |n+1,h=>by
  obtain⟨b0,s0,s3,b1,b12⟩:=Zf3 hm (show n<m.1.length by omega)
  obtain⟨i1,i2⟩:=ZEj (c:=c) hm hc n (by omega)
  obtain⟨k1,k2⟩:=Zzd (b:=(ZO m n).toNat) (hc n) (m.1.getD n 0+1).toNat (by omega) (by omega)
  unfold Zor
  refine⟨by rw[Xal,k1];omega,fun t ht=>?_⟩
  rcases List.mem_append.1 ht with ht|ht
  ·exact i2 t ht
  ·exact k2 t ht
theorem ZMO (l:List Int) (h:l.length=13):[(l.getD 0 0),(l.getD 1 0),(l.getD 2 0),(l.getD 3 0),(l.getD 4 0),(l.getD 5 0),(l.getD 6 0),(l.getD 7 0),(l.getD 8 0),(l.getD 9 0),(l.getD 10 0),(l.getD 11 0),(l.getD 12 0)]=l:=by
 match l,h with
 |[_,_,_,_,_,_,_,_,_,_,_,_,_],_=>rfl
theorem ZqO (net:List Int):∀n,(ZcW net n).length≤n
 |0=>Nat.le_refl _
 |n+1=>by
  have:=ZqO net n
  unfold ZcW
  rw[Xal]
  split
  ·rw[Xav];omega
  ·split
   ·rw[Xav];omega
   ·rw[Xap];omega
theorem Zwy {net:List Int} {b:Int} (hn:∀j,-1000≤net.getD j 0∧net.getD j 0≤1000):∀n:Nat,b≤Zbt net b n∧Zbt net b n≤b+1000*n
 |0=>⟨Xat _,by show b≤b+1000*((0:Nat):Int);omega⟩
 |n+1=>by
  have:=Zwy (b:=b) hn n
  have:=hn (n+1)
  unfold Zbt
  split<;>omega
theorem Zw5 (b:Int) (t:List (Int×Int)) (h:t.length≤1000):Zdj b t=some (bif ZG (t,b)then(true,b,t)else(false,0,[])):=by
 unfold Zdj
 rw[Zbj (t,b) (by (try dsimp only)<;>omega),Ze]
 cases ZG (t,b)with
 |true=>rw[cnt,ctt]
 |false=>rw[cnf,cff]
theorem ZC0 {ts:List (Int×Int)} {b:Int} (hts:∀t∈ts,okT t) (hl:ts.length≤30) (hb : -2000≤b∧b≤2000):Zhv ts b=some (Zc2 (ts.foldl ZlJ (List.replicate 13 0)) b)∨(ts.foldl ZlJ (List.replicate 13 0)).getD 0 0≠0:=by
 by_cases h00:(ts.foldl ZlJ (List.replicate 13 0)).getD 0 0=0
 case neg=>exact Or.inr h00
 left
 unfold Zhv
 have hfl:∀n,n≤ts.length→((ts.take n).foldl ZlJ (List.replicate 13 0)).length=13∧∀j,-27*(n:Int)≤((ts.take n).foldl ZlJ (List.replicate 13 0)).getD j 0∧((ts.take n).foldl ZlJ (List.replicate 13 0)).getD j 0≤27*(n:Int):=by
  intro n
  induction n with
  |zero=>
   intro _
   rw[XaR]
   refine⟨rfl,fun j=>?_⟩
   have:(List.foldl ZlJ (List.replicate 13 (0:Int)) ([]:List (Int×Int))).getD j 0=0:=by
    show (List.replicate 13 (0:Int)).getD j 0=0
    rw[Xaa]
    rcases Xag j 13 with h|h
    ·rw[XaO h];rfl
    ·rw[Xaw (by rw[XaG];exact h)];rfl
   rw[this]
   omega
  |succ n ih=>
   intro hn
   obtain⟨i1,i2⟩:=ih (by omega)
   rw[Xbk,Xac (show n<ts.length by omega),Xa6]
   obtain⟨ok1,ok2⟩:=hts _ (Xbu (show n<ts.length by omega))
   generalize (ts.take n).foldl ZlJ (List.replicate 13 0)=o at i1 i2 ⊢
   show (ZlJ o ts[n]).length=13∧∀j,-27*((n+1:Nat):Int)≤(ZlJ o ts[n]).getD j 0∧(ZlJ o ts[n]).getD j 0≤27*((n+1:Nat):Int)
   unfold ZlJ
   refine⟨by rw[Xam];exact i1,fun j=>?_⟩
   have hj:=i2 j
   have hv:=i2 (ts[n]).2.toNat
   rw[Zjp]
   split<;>omega
 refine ZK (f:=ZhD ts) (fun s:Int×Int×List Int=>∃n:Nat,s.2.1=n∧n≤ts.length∧s.1=b∧s.2.2=(ts.take n).foldl ZlJ (List.replicate 13 0)) (fun s=>ts.length - s.2.1.toNat) (fun _=>Zc2 (ts.foldl ZlJ (List.replicate 13 0)) b) ?_ _ ⟨0,rfl,Nat.zero_le _,rfl,rfl⟩
 rintro⟨b',s,o⟩ ⟨n,hs,hn,hb',ho⟩
 dsimp only at hs hb' ho ⊢
 subst hs
 subst hb'
 obtain⟨f1,f2⟩:=hfl n hn
 rw[←ho]at f1 f2
 unfold ZhD
 dsimp only
 rcases Xag n ts.length with h1|h1
 ·left
  obtain⟨⟨ok1,ok1'⟩,ok2,ok2'⟩:=hts _ (ZA (l:=ts) (i:=n) (d:=(0,0)) h1)
  have:=f2 (ts.getD n (0,0)).2.toNat
  rw[Zc (by omega),Zb ⟨by omega,by omega⟩,Xab,Zd (by omega),Zb ⟨rfl,⟨by omega,by omega⟩,by omega⟩,Zf (by omega) (by omega),Zb ⟨rfl,⟨by omega,by omega⟩,by omega⟩,Zf (by omega) (by omega)]
  refine⟨_,rfl,⟨n+1,by simp,by omega,rfl,?_⟩,by (try dsimp only)<;>omega,rfl⟩
  dsimp only
  rw[Xbk,Xac h1,Xa6,←ho]
  have e:ts.getD n (0,0)=ts[n]:=by rw[Xaa,Xac h1];rfl
  rw[e]
  rfl
 ·right
  have hnn:n=ts.length:=by omega
  rw[hnn,XaC]at ho
  rw[←ho]at h00 ⊢
  have hbd:∀j,-1000≤o.getD j 0∧o.getD j 0≤1000:=fun j=>by have:=f2 j;omega
  unfold Zj8
  dsimp only
  rw[Zd (by omega),Zb ⟨rfl,rfl,by omega⟩]
  have key:loop (ZfM o) (b',(0:Int),([]:List (Int×Int)))=some (Zc2 o b'):=by
   refine ZK (f:=ZfM o) (fun s:Int×Int×List (Int×Int)=>∃n:Nat,s.2.1=n∧n≤13∧s.1=Zbt o b' (n - 1)∧s.2.2=ZcW o (n - 1)) (fun s=>13 - s.2.1.toNat) (fun _=>Zc2 o b') ?_ _ ⟨0,rfl,Nat.zero_le _,rfl,rfl⟩
   rintro⟨c,s,t⟩ ⟨n,hs,hn,hc,ht⟩
   dsimp only at hs hc ht ⊢
   subst hs
   subst hc
   subst ht
   have hpl:=ZqO o (n - 1)
   have hnb:=Zwy (b:=b') hbd (n - 1)
   unfold ZfM
   dsimp only
   rw[ZMO o f1,Xab]
   rcases Xag n 13 with h4|h4
   ·left
    have hbn:=hbd n
    rw[Zc (by omega),Zb ⟨⟨by omega,by omega⟩,by omega⟩]
    cases n with
    |zero=>
     rw[h00,Zd (by omega),Zd (by omega),Zf (by omega) (by omega)]
     exact⟨_,rfl,⟨1,rfl,by omega,rfl,rfl⟩,by (try dsimp only)<;>omega,rfl⟩
    |succ n=>
     rw[XbU]at hpl hnb ⊢
     by_cases q1:0<o.getD (n+1) 0
     ·rw[Zc q1,Zb (by simp[Zl];omega),Zf (by omega) (by omega)]
      refine⟨_,rfl,⟨n+2,by simp;omega,by omega,?_,?_⟩,by (try dsimp only)<;>omega,rfl⟩
      ·show Zbt o b' n=Zbt o b' (n+1)
       conv=>rhs;unfold Zbt
       rw[if_neg (by omega)]
      ·show _=ZcW o (n+1)
       conv=>rhs;unfold ZcW
       rw[if_pos q1]
     ·rw[Zd q1]
      by_cases q2:o.getD (n+1) 0<0
      ·unfold Znn
       dsimp only
       rw[Zc q2,Zf (by omega) (by omega),Zf (by omega) (by omega),Zb (by simp[Zl];omega),Zf (by omega) (by omega),Zf (by omega) (by omega)]
       refine⟨_,rfl,⟨n+2,by simp;omega,by omega,?_,?_⟩,by (try dsimp only)<;>omega,rfl⟩
       ·show Zbt o b' n - _=Zbt o b' (n+1)
        conv=>rhs;unfold Zbt
        rw[if_pos q2]
       ·show _=ZcW o (n+1)
        conv=>rhs;unfold ZcW
        rw[if_neg q1,if_pos q2]
      ·rw[Zd q2,Zf (by omega) (by omega)]
       refine⟨_,rfl,⟨n+2,by simp;omega,by omega,?_,?_⟩,by (try dsimp only)<;>omega,rfl⟩
       ·show Zbt o b' n=Zbt o b' (n+1)
        conv=>rhs;unfold Zbt
        rw[if_neg q2]
       ·show _=ZcW o (n+1)
        conv=>rhs;unfold ZcW
        rw[if_neg q1,if_neg q2,Xaz]
   ·right
    have h12:n - 1=12:=by omega
    rw[h12]at hpl ⊢
    have hv:Zdj (max 0 (Zbt o b' 12)) (ZcW o 12)=some (Zc2 o b'):=Zw5 _ _ (by omega)
    unfold Znm
    dsimp only
    rw[Zd (by omega),hv,Ze]
    generalize Zc2 o b'=q
    rfl
  rw[key]
  generalize Zc2 o b'=q
  rfl
theorem ZtM {net:List Int} {b:Int} (hl:net.length=13) (hbd:∀j,-1000≤net.getD j 0∧net.getD j 0≤1000) (hb : -2000≤b∧b≤2000):ZlG net b=some (Zc2 net b):=by
 unfold ZlG
 refine ZK (f:=Zlc net) (fun s:Int×Int×List (Int×Int)=>∃n:Nat,s.2.1=(n:Int)+1∧n≤12∧s.1=Zbt net b n∧s.2.2=ZcW net n) (fun s=>13 - s.2.1.toNat) (fun _=>Zc2 net b) ?_ _ ⟨0,rfl,Nat.zero_le _,rfl,rfl⟩
 rintro⟨c,s,t⟩ ⟨n,hs,hn,hc,ht⟩
 dsimp only at hs hc ht ⊢
 subst hs
 subst hc
 subst ht
 have hpl:=ZqO net n
 have hnb:=Zwy (b:=b) hbd n
 have en:((n:Int)+1).toNat=n+1:=by omega
 unfold Zlc
 dsimp only
 rcases Xag n 12 with h4|h4
 ·left
  have hbn:=hbd (n+1)
  rw[Zc (by omega),Zb ⟨by omega,by omega⟩,en]
  unfold Zlb
  rw[en]
  by_cases q1:0<net.getD (n+1) 0
  ·rw[Zc q1,Zb ⟨by omega,by omega⟩,Zb (by simp[Zl];omega),Zb ⟨by omega,by omega⟩,Zd (by omega),Zf (by omega) (by omega)]
   refine⟨_,rfl,⟨n+1,by simp,by omega,?_,?_⟩,by (try dsimp only)<;>omega,rfl⟩
   ·show Zbt net b n=Zbt net b (n+1)
    conv=>rhs;unfold Zbt
    rw[if_neg (by omega)]
   ·show _=ZcW net (n+1)
    conv=>rhs;unfold ZcW
    rw[if_pos q1]
    rfl
  ·rw[Zd q1,Zb ⟨by omega,by omega⟩]
   by_cases q2:net.getD (n+1) 0<0
   ·unfold Zo7
    rw[Zc q2,Zb ⟨by omega,by omega⟩,Zf (by omega) (by omega),Zf (by omega) (by omega),Zb (by simp[Zl];omega),Zb ⟨by omega,by omega⟩,en,Zf (by omega) (by omega),Zf (by omega) (by omega)]
    refine⟨_,rfl,⟨n+1,by simp,by omega,?_,?_⟩,by (try dsimp only)<;>omega,rfl⟩
    ·show Zbt net b n - _=Zbt net b (n+1)
     conv=>rhs;unfold Zbt
     rw[if_pos q2]
    ·show _=ZcW net (n+1)
     conv=>rhs;unfold ZcW
     rw[if_neg q1,if_pos q2]
     rfl
   ·rw[Zd q2,Zf (by omega) (by omega)]
    refine⟨_,rfl,⟨n+1,by simp,by omega,?_,?_⟩,by (try dsimp only)<;>omega,rfl⟩
    ·show Zbt net b n=Zbt net b (n+1)
     conv=>rhs;unfold Zbt
     rw[if_neg q2]
    ·show _=ZcW net (n+1)
     conv=>rhs;unfold ZcW
     rw[if_neg q1,if_neg q2,Xaz]
 ·right
  have:n=12:=by omega
  subst this
  have fin:∀x:Int,x=max 0 (Zbt net b 12)→Zh0 (ZcW net 12) x=some (Zc2 net b):=fun x hx=>by
   subst hx
   unfold Zh0 Zc2
   rw[ZnM _ (by (try dsimp only)<;>omega),Ze]
   cases ZG (ZcW net 12,max 0 (Zbt net b 12))with
   |true=>rw[cnt,ctt]
   |false=>rw[cnf,cff]
  unfold Zo6
  dsimp only
  rw[Zd (by omega)]
  by_cases q:Zbt net b 12<0
  ·rw[Zc q,fin 0 (by omega)];rfl
  ·rw[Zd q,fin _ (by omega)];rfl
theorem ZBU {m:Zo} {c:List Int} (h:Zgi m c=true):c.length=m.1.length∧∀i,-9≤c.getD i 0∧c.getD i 0≤9:=by
 unfold Zgi wtB at h
 simp only[Xae,Xaf,Xar]at h
 refine⟨h.1,fun i=>?_⟩
 rcases Xag i c.length with h1|h1
 ·exact h.2 _ (ZA h1)
 ·rw[Xaa,Xaw h1]
  decide
theorem Zwz {m:Zo} {c:List Int} (hm:Zy m=true) (hc:∀i,-9≤c.getD i 0∧c.getD i 0≤9):∀n,n≤m.1.length→∀j,-27≤(Zdu m c n).getD j 0∧(Zdu m c n).getD j 0≤27
 |0,_,j=>by
  have:=ZrP (c:=c) hm 0 (by omega)
  have h0:(Zdu m c 0).getD j 0=0:=by
   rcases Xag 0 j with h|h
   ·exact this j (Or.inr (by show 1+(Znb []).toNat≤j;exact h))
   ·exact this j (Or.inl (by omega))
  rw[h0]
  omega
 |n+1,h,j=>by
  obtain⟨b0,s0,s3,b1,b12⟩:=Zf3 hm (show n<m.1.length by omega)
  have ih:=Zwz hm hc n (by omega) j
  unfold Zdu
  rw[ZtC (by rw[ZqL];omega)]
  split
  ·have hcn:=hc n
   exact Zm0 ⟨by omega,by omega⟩ ⟨by omega,by omega⟩
  ·exact ih
theorem ZmS (m:Zo) (c:List Int) (most:Int) (h:Zek m) (hc:c.length≤1048576):Zd2 m c most=some (ZsQ m c most):=by
 unfold Zd2 ZsQ
 rw[Zgb m h,Ze]
 cases hm:Zy m with
 |false=>rw[cnf];rfl
 |true=>
  rw[cnt,Zfz m c hc,Ze]
  cases ho:Zgi m c with
  |false=>rw[cnf];rfl
  |true=>
   rw[cnt,ZbQ,Ze]
   cases hq:decide (-1000≤most)&&decide (most≤1000)with
   |false=>rw[cnf];rfl
   |true=>
    rw[Xae,Xaf,Xaf]at hq
    obtain⟨m1,m2,m3⟩:=ZcN hm
    obtain⟨c1,c2⟩:=ZBU ho
    rw[cnt,show ((true&&true)&&true)=true from rfl,ctt]
    refine ZK (f:=Ze7 m c most) (fun s:Int×List (Int×Int)=>∃n:Nat,s.1=n∧n≤m.1.length∧s.2=Zor m c n) (fun s=>m.1.length - s.1.toNat) (fun _=>Zc2 (Zdu m c m.1.length) (0 - most)) ?_ _ ⟨0,rfl,Nat.zero_le _,rfl⟩
    rintro⟨s,t⟩ ⟨n,hs,hn,ht⟩
    dsimp only at hs ht ⊢
    subst hs
    subst ht
    obtain⟨t1,t2⟩:=ZEj (c:=c) hm c2 n hn
    unfold Ze7
    dsimp only
    rcases Xag n m.1.length with h1|h1
    ·left
     obtain⟨b0,s0,s3,b1,b12⟩:=Zf3 hm h1
     rw[Zc (by omega),Zb ⟨by omega,by omega⟩,Xab,Zf (by omega) (by omega)]
     refine⟨((n:Int)+1,Zor m c (n+1)),?_,⟨n+1,by simp,by omega,rfl⟩,by (try dsimp only)<;>omega,rfl⟩
     refine ZK (f:=Ze8 m c n) (fun s:Int×List (Int×Int)=>∃k:Nat,s.1=k∧k≤(m.1.getD n 0+1).toNat∧s.2=Zor m c n++Zqj (c.getD n 0) (ZO m n).toNat k) (fun s=>(m.1.getD n 0+1).toNat - s.1.toNat) (fun _=>.inl ((n:Int)+1,Zor m c (n+1))) ?_ _ ⟨0,rfl,Nat.zero_le _,(Xaz _).symm⟩
     rintro⟨s,t⟩ ⟨k,hs,hk,ht⟩
     dsimp only at hs ht ⊢
     subst hs
     subst ht
     have hcn:=c2 n
     obtain⟨k1,k2⟩:=Zzd (b:=(ZO m n).toNat) hcn k (by omega) (by omega)
     unfold Ze8
     dsimp only
     rw[Xab]
     rcases Xag k (m.1.getD n 0+1).toNat with h2|h2
     ·left
      have hmb:=Zm0 (c:=0 - c.getD n 0) (x:=(k:Int)) ⟨by omega,by omega⟩ ⟨by omega,by omega⟩
      rw[Zc (by omega),Zb ⟨by omega,by omega⟩,Zf (by omega) (by omega),Zf (by omega) (by omega),Zi5 hm h1 (by omega),Ze,Zb (by simp only[Xal,Zl,Xaq,Xap];omega),Zf (by omega) (by omega)]
      refine⟨_,rfl,⟨k+1,by simp,by omega,?_⟩,by (try dsimp only)<;>omega,rfl⟩
      dsimp only
      rw[XaK]
      congr 1
      conv=>rhs;unfold Zqj
      rw[show (1+(k:Int)+ZO m n)=((1+k+(ZO m n).toNat:Nat):Int) by omega]
     ·right
      have:k=(m.1.getD n 0+1).toNat:=by omega
      rw[Zd (by omega),Zf (by omega) (by omega),this]
      rfl
    ·right
     have hnn:n=m.1.length:=by omega
     subst hnn
     have hb12:=(ZgA hm m.1.length (Nat.le_refl _)).2
     unfold ZhP
     rw[Zd (by omega),Zf (by omega) (by omega)]
     rcases ZC0 (b:=0 - most) t2 (by omega) ⟨by omega,by omega⟩with e|e
     ·rw[e,Ze,ZFW hm _ (Nat.le_refl _)]
      generalize Zc2 (Zdu m c m.1.length) (0 - most)=q
      rfl
     ·rw[ZFW hm _ (Nat.le_refl _)]at e
      exact absurd (ZrP hm _ (Nat.le_refl _) 0 (Or.inl rfl)) e
theorem ZtK (m:Zo) (c:List Int) (most:Int) (h:Zek m) (hc:c.length≤1048576):Zgu m c most=some (ZsQ m c most):=by
 unfold Zgu ZsQ
 rw[Zuz m c h hc,Ze]
 cases hmo:Zy m&&Zgi m c with
 |false=>rw[cnf,Xai,cff]
 |true=>
  rw[Xae]at hmo
  obtain⟨hm,ho⟩:=hmo
  rw[cnt,Xaj]
  by_cases q1 : -1000≤most
  case neg=>rw[Zc (by omega),decide_eq_false q1,Xai,cff]
  rw[Zd (by omega),Xad q1,Xaj]
  by_cases q2:most≤1000
  case neg=>rw[Zc (by omega),decide_eq_false q2,cff]
  rw[Zd (by omega),Xad q2,ctt,Zb ⟨by omega,by simp only[Zl];omega,rfl⟩]
  obtain⟨m1,m2,m3⟩:=ZcN hm
  obtain⟨c1,c2⟩:=ZBU ho
  refine ZK (f:=Zfj m c most) (fun s:Int×List Int=>∃n:Nat,s.1=n∧n≤m.1.length∧s.2=Zdu m c n) (fun s=>m.1.length - s.1.toNat) (fun _=>Zc2 (Zdu m c m.1.length) (0 - most)) ?_ _ ⟨0,rfl,Nat.zero_le _,rfl⟩
  rintro⟨s,t⟩ ⟨n,hs,hn,ht⟩
  dsimp only at hs ht ⊢
  subst hs
  subst ht
  have hnl:=ZqL m c n
  unfold Zfj
  dsimp only
  rcases Xag n m.1.length with h1|h1
  ·left
   obtain⟨b0,s0,s3,b1,b12⟩:=Zf3 hm h1
   rw[Zc (by omega)]
   refine⟨((n:Int)+1,Zdu m c (n+1)),?_,⟨n+1,by simp,by omega,rfl⟩,by (try dsimp only)<;>omega,rfl⟩
   refine ZK (f:=Zfk m c n) (fun s:Int×List Int=>∃k:Nat,s.1=k∧k≤(m.1.getD n 0+1).toNat∧s.2=ZtB (c.getD n 0) (ZO m n).toNat k (Zdu m c n)) (fun s=>(m.1.getD n 0+1).toNat - s.1.toNat) (fun _=>.inl ((n:Int)+1,Zdu m c (n+1))) ?_ _ ⟨0,rfl,Nat.zero_le _,rfl⟩
   rintro⟨s,t⟩ ⟨k,hs,hk,ht⟩
   dsimp only at hs ht ⊢
   subst hs
   subst ht
   have hcn:=c2 n
   have hkl:=ZwA (c.getD n 0) (ZO m n).toNat (Zdu m c n) k
   unfold Zfk
   dsimp only
   rw[Zb ⟨by omega,by omega⟩,Xab]
   rcases Xag k (m.1.getD n 0+1).toNat with h2|h2
   ·left
    have hmb:=Zm0 (c:=0 - c.getD n 0) (x:=(k:Int)) ⟨by omega,by omega⟩ ⟨by omega,by omega⟩
    rw[Zc (by omega),Zb ⟨by omega,by omega⟩,Zf (by omega) (by omega),Zf (by omega) (by omega),ZiQ hm h1 (by omega),Ze,Zb ⟨by omega,by omega⟩,Zf (by omega) (by omega)]
    refine⟨_,rfl,⟨k+1,by simp,by omega,?_⟩,by (try dsimp only)<;>omega,rfl⟩
    dsimp only
    conv=>rhs;unfold ZtB
    rw[show (1+(k:Int)+ZO m n).toNat=1+k+(ZO m n).toNat by omega]
   ·right
    have:k=(m.1.getD n 0+1).toNat:=by omega
    rw[Zd (by omega),Zf (by omega) (by omega),this]
    rfl
  ·right
   have hnn:n=m.1.length:=by omega
   subst hnn
   unfold ZhY
   rw[Zd (by omega),Zf (by omega) (by omega),ZtM hnl (fun j=>by have:=Zwz hm c2 m.1.length (Nat.le_refl _) j;omega) ⟨by omega,by omega⟩,Ze]
   generalize Zc2 (Zdu m c m.1.length) (0 - most)=q
   rfl
end Go.AE.Y
namespace Go.AE.Y
open Go Go.AE
theorem RdOk.wk {r:List Int×Int} {m m':Int} (h:RdOk r m) (hm:m≤m'):RdOk r m':=⟨h.byte,h.len,h.low,by have:=h.high;omega⟩
theorem Zsv {r:List Int×Int} {l:List Int} (h:RdOk r 1000000000):∃r' l',ZdX r l=some (r',l')∧Adv r r' 1∧l'.length=l.length:=by
 unfold ZdX
 by_cases h1:(1:Int)<l.length
 ·obtain⟨x,r1,e1,a1,_⟩:=ZtE 3 h
  rw[Zc h1,e1,Ze]
  dsimp only
  cases (x==0)with
  |true=>
   rw[ctt,Zb ⟨by omega,by omega⟩,Zb ⟨by omega,by omega⟩,Zb ⟨by omega,by omega⟩,Zb ⟨by omega,by rw[Xam];omega⟩]
   exact⟨_,_,rfl,a1,by rw[Xam,Xam]⟩
  |false=>
   rw[cff]
   exact⟨_,_,rfl,a1,rfl⟩
 ·rw[Zd h1]
  exact⟨_,_,rfl,Adv.refl r (by omega),rfl⟩
theorem ZxJ {r:List Int×Int} {a2:Int} (h:RdOk r 1000000000) (ha:1≤a2∧a2≤6) {f:Int×List Int→Option ((Int×List Int)⊕((List Int×Int)×List Int))} (hf:f=Zl4 a2 r∨f=Zl5 a2 r) :
  ∃o,loop f ((0:Int),[])=some o∧(Adv r o.1 1∧a2≤o.2.length∧o.2.length≤6):=by
 refine Zb9 (f:=f) (fun s=>0≤s.1∧s.1≤a2∧(s.2.length:Int)=s.1) (fun s=>(a2 - s.1).toNat) (fun o=>Adv r o.1 1∧a2≤o.2.length∧o.2.length≤6) ?_ _ ⟨Xat _,by (try dsimp only)<;>omega,rfl⟩
 rintro⟨i,l⟩ ⟨g1,g2,g3⟩
 dsimp only at g1 g2 g3 ⊢
 have e:f (i,l)=cond (decide (i<a2)) (rq (l.length+[i].length≤Zl) <|rq (i64 (i+1)) <|some (.inl (i+1,l++[i]))) (up (ZdX r l)):=by
  rcases hf with rfl|rfl<;>rfl
 rw[e]
 by_cases h1:i<a2
 ·left
  rw[Zc h1,Zb (by simp[Zl];omega),Zf (by omega) (by omega)]
  exact⟨_,rfl,⟨by (try dsimp only)<;>omega,by (try dsimp only)<;>omega,by simp;omega⟩,by (try dsimp only)<;>omega⟩
 ·right
  obtain⟨r',l',e1,a1,m1⟩:=Zsv (l:=l) h
  rw[Zd h1,e1]
  exact⟨_,rfl,a1,by (try dsimp only)<;>omega,by (try dsimp only)<;>omega⟩
theorem Zsu {r:List Int×Int} {a2:Int} {l:List Int} (h:RdOk r 1000000000) (ha:1≤a2∧a2≤6) (hl:l.length≤6) :
  ∃o,ZfE a2 r l=some o∧(Adv r o.1 1∧a2≤o.2.length∧o.2.length≤6):=by
 unfold ZfE
 by_cases h1:(l.length:Int)<a2
 ·rw[Zc h1]
  exact ZxJ h ha (Or.inl rfl)
 ·rw[Zd h1,Zu (by omega)]
  obtain⟨r',l',e1,a1,m1⟩:=Zsv (l:=l) h
  exact⟨_,e1,a1,by (try dsimp only)<;>omega,by (try dsimp only)<;>omega⟩
theorem ZvC {r:List Int×Int} {a2:Int} {o1:List Int} (o2:List ZH) (h:RdOk r 900000000) (ha:1≤a2∧a2≤6) (ho:o1.length≤6) :
  ∃r' l,Zh1 a2 r o1 o2=some (r',l)∧Adv r r' 7∧a2≤l.length∧l.length≤6:=by
 unfold Zh1
 have key:=Zb9 (f:=Ziu a2 o1) (fun s=>0≤s.1∧s.1≤o1.length∧Adv r s.2.1 s.1∧(s.2.2.length:Int)≤s.1) (fun s=>(o1.length - s.1).toNat)
  (fun o=>Adv r o.1 7∧a2≤o.2.length∧o.2.length≤6) ?_ ((0:Int),r,[]) ⟨Xat _,by (try dsimp only)<;>omega,Adv.refl r (Xat _),by simp⟩
 ·obtain⟨⟨r',l⟩,q1,q2⟩:=key
  exact⟨r',l,q1,q2⟩
 rintro⟨i,q,l⟩ ⟨g1,g2,g3,g4⟩
 dsimp only at g1 g2 g3 g4 ⊢
 have hq:RdOk q 900000006:=g3.ok h (by omega)
 unfold Ziu
 dsimp only
 by_cases h1:i<o1.length
 ·left
  obtain⟨x,q1,e1,a1,_⟩:=ZtE 3 (hq.wk (by omega))
  rw[Zc h1,e1,Ze]
  dsimp only
  by_cases h2:0<x
  ·rw[Zc h2,Zb (by simp[Zl];omega),Zf (by omega) (by omega)]
   exact⟨_,rfl,⟨by (try dsimp only)<;>omega,by (try dsimp only)<;>omega,g3.trans a1 (Xat _),by simp;omega⟩,by (try dsimp only)<;>omega⟩
  ·rw[Zd h2,Zf (by omega) (by omega)]
   exact⟨_,rfl,⟨by (try dsimp only)<;>omega,by (try dsimp only)<;>omega,g3.trans a1 (Xat _),by (try dsimp only)<;>omega⟩,by (try dsimp only)<;>omega⟩
 ·right
  rw[Zd h1]
  have key2:∃o,Zis a2 o1 (q,l)=some o∧(Adv q o.1 1∧a2≤o.2.length∧o.2.length≤6):=by
   unfold Zis
   refine Zb9 (f:=Zit a2 o1 q) (fun s=>0≤s.1∧s.1≤o1.length∧s.2.length≤6) (fun s=>(o1.length - s.1).toNat) _ ?_ ((0:Int),l) ⟨Xat _,by (try dsimp only)<;>omega,by (try dsimp only)<;>omega⟩
   rintro⟨j,l⟩ ⟨k1,k2,k3⟩
   dsimp only at k1 k2 k3 ⊢
   unfold Zit
   dsimp only
   by_cases h2:(l.length:Int)<a2
   ·rw[Zc h2]
    by_cases h3:j<o1.length
    ·left
     rw[Zc h3]
     by_cases h4:(l.length:Int)=0
     ·rw[Zx h4,Zb (by simp[Zl];omega),Zf (by omega) (by omega)]
      exact⟨_,rfl,⟨by (try dsimp only)<;>omega,by (try dsimp only)<;>omega,by simp;omega⟩,by (try dsimp only)<;>omega⟩
     ·rw[Zu h4,Zf (by omega) (by omega),Zb ⟨by omega,by omega⟩]
      by_cases h5:l.getD ((l.length:Int) - 1).toNat 0<j
      ·rw[Zc h5,Zb (by simp[Zl];omega),Zf (by omega) (by omega)]
       exact⟨_,rfl,⟨by (try dsimp only)<;>omega,by (try dsimp only)<;>omega,by simp;omega⟩,by (try dsimp only)<;>omega⟩
      ·rw[Zd h5,Zf (by omega) (by omega)]
       exact⟨_,rfl,⟨by (try dsimp only)<;>omega,by (try dsimp only)<;>omega,k3⟩,by (try dsimp only)<;>omega⟩
    ·right
     obtain⟨o,e1,q1⟩:=Zsu (hq.wk (show (900000006:Int)≤1000000000 by omega)) ha k3
     rw[Zd h3,e1]
     exact⟨o,rfl,q1⟩
   ·right
    obtain⟨o,e1,q1⟩:=Zsu (hq.wk (show (900000006:Int)≤1000000000 by omega)) ha k3
    rw[Zd h2,e1]
    exact⟨o,rfl,q1⟩
  obtain⟨o,e1,q1,q2⟩:=key2
  rw[e1]
  exact⟨o,rfl,g3.trans q1 (by omega),q2⟩
def okR (r:ZH):Prop:=r.2.1.length≤8∧r.2.2.1.length≤8∧r.2.2.2.2.length≤8∧∀x∈r.2.2.2.2,x.length≤8
def okM (m:Zo):Prop:=m.1.length≤8∧m.2.length≤8∧∀r∈m.2,okR r
theorem okM.small {m:Zo} (h:okM m):Zek m:=
 ⟨by have:=h.1;omega,by have:=h.2.1;omega,fun r hr=>⟨by have:=(h.2.2 r hr).1;omega,by have:=(h.2.2 r hr).2.1;omega,by have:=(h.2.2 r hr).2.2.1;omega,fun x hx=>by have:=(h.2.2 r hr).2.2.2 x hx;omega⟩⟩
theorem ZDj {r:List Int×Int} {o1:List Int} (o2:List ZH) (h:RdOk r 800000000) (ho:o1.length≤6) :
  ∃r' a b c d e,Zlf r o1 o2=some (r',a,b,c,d,e)∧Adv r r' 200∧c.length≤6∧d.length≤6∧e.length≤8∧∀x∈e,x.length≤6:=by
 unfold Zlf
 obtain⟨k,r1,e1,a1,_⟩:=Zgq (l:=[1,2,3,4,1]) (h.wk (by omega)) (by decide)
 have h1:RdOk r1 800000001:=a1.ok h (by omega)
 obtain⟨r2,l,e2,a2,m1,m2⟩:=ZvC (a2:=1) o2 (h1.wk (by omega)) (by omega) ho
 have h2:RdOk r2 800000008:=a2.ok h1 (by omega)
 rw[e1,Ze]
 dsimp only
 rw[e2,Ze]
 dsimp only
 cases (k==1)with
 |true=>
  rw[ctt]
  have key:=Zb9 (f:=Zip (k,r1) (r2,l)) (fun s=>0≤s.1∧s.1≤l.length∧Adv r2 s.2.1 s.1∧(s.2.2.length:Int)≤s.1) (fun s=>(l.length - s.1).toNat)
   (fun o=>Adv r2 o.1 7∧o.2.2.2.1.length≤6∧o.2.2.2.2.1.length≤6∧o.2.2.2.2.2=[]) ?_ ((0:Int),r2,[]) ⟨Xat _,by (try dsimp only)<;>omega,Adv.refl r2 (Xat _),by simp⟩
  ·obtain⟨⟨r',a,b,c,d,e⟩,q1,q2,q3,q4,q5⟩:=key
   dsimp only at q2 q3 q4 q5
   subst q5
   exact⟨r',a,b,c,d,[],q1,(a1.trans a2 (Xat _)).trans q2 (by omega),q3,q4,by simp,by simp⟩
  rintro⟨i,q,c⟩ ⟨g1,g2,g3,g4⟩
  dsimp only at g1 g2 g3 g4 ⊢
  have hq:RdOk q 800000014:=g3.ok h2 (by omega)
  unfold Zip
  dsimp only
  by_cases h3:i<l.length
  ·left
   obtain⟨x,q1,e3,a3,_⟩:=Zgq (l:=[1,-1,2,1,-2,3]) (hq.wk (by omega)) (by decide)
   rw[Zc h3,e3,Ze,Zb (by simp[Zl];omega),Zf (by omega) (by omega)]
   exact⟨_,rfl,⟨by (try dsimp only)<;>omega,by (try dsimp only)<;>omega,g3.trans a3 (Xat _),by simp;omega⟩,by (try dsimp only)<;>omega⟩
  ·right
   obtain⟨x,q1,e3,a3,_⟩:=Zgq (l:=[1,2,0,-1,3,-3,4]) (hq.wk (by omega)) (by decide)
   rw[Zd h3]
   unfold Zl2
   dsimp only
   rw[e3,Ze]
   exact⟨_,rfl,g3.trans a3 (by omega),m2,by (try dsimp only)<;>omega,rfl⟩
 |false=>
  rw[cff]
  cases (k==3)with
  |true=>
   rw[ctt]
   obtain⟨n,r3,e3,a3,m3⟩:=Zgq (l:=[3,4,2,6,0,8]) (h2.wk (by omega)) (by decide)
   have hn:0≤n∧n≤8:=by simp only[XaA,Xay,or_false]at m3;omega
   rw[e3,Ze]
   dsimp only
   have key:=Zb9 (f:=Ziq (k,r1) (r2,l)) (fun s=>0≤s.1∧s.1≤n∧Adv r2 s.2.1 (1+6*(n - s.1))∧(s.2.2.length:Int)≤n - s.1∧∀x∈s.2.2,x.length≤6) (fun s=>s.1.toNat)
    (fun o=>Adv r2 o.1 50∧o.2.2.2.1.length≤6∧o.2.2.2.2.1=[]∧o.2.2.2.2.2.length≤8∧∀x∈o.2.2.2.2.2,x.length≤6) ?_ (n,r3,[]) ⟨by (try dsimp only)<;>omega,by (try dsimp only)<;>omega,Adv.trans a3 (Adv.refl r3 (c:=0) (by omega)) (by (try dsimp only)<;>omega),by simp,by simp⟩
   ·obtain⟨⟨r',a,b,c,d,e⟩,q1,q2,q3,q4,q5,q6⟩:=key
    dsimp only at q2 q3 q4 q5 q6
    subst q4
    exact⟨r',a,b,c,[],e,q1,(a1.trans a2 (Xat _)).trans q2 (by omega),q3,by simp,q5,q6⟩
   rintro⟨i,q,e⟩ ⟨g1,g2,g3,g4,g5⟩
   dsimp only at g1 g2 g3 g4 g5 ⊢
   have hq:RdOk q 800000057:=g3.ok h2 (by omega)
   unfold Ziq
   dsimp only
   by_cases h3:0<i
   ·left
    rw[Zc h3]
    obtain⟨o,w1,o',w2,w3⟩:=Zb9 (f:=Zir (r2,l) i e) (fun s=>0≤s.1∧s.1≤l.length∧Adv q s.2.1 s.1∧(s.2.2.length:Int)≤s.1) (fun s=>(l.length - s.1).toNat)
     (fun o=>∃o':Int×(List Int×Int)×List (List Int),o = .inl o'∧(o'.1=i - 1∧Adv q o'.2.1 6∧∃x:List Int,o'.2.2=e++[x]∧x.length≤6)) (by
      rintro⟨j,p,v⟩ ⟨k1,k2,k3,k4⟩
      dsimp only at k1 k2 k3 k4 ⊢
      have hp:RdOk p 800000064:=k3.ok hq (by omega)
      unfold Zir
      dsimp only
      by_cases h4:j<l.length
      ·left
       obtain⟨x,p1,e4,a4,_⟩:=ZtE 4 (hp.wk (by omega))
       rw[Zc h4,e4,Ze,Zb (by simp[Zl];omega),Zf (by omega) (by omega)]
       exact⟨_,rfl,⟨by (try dsimp only)<;>omega,by (try dsimp only)<;>omega,k3.trans a4 (Xat _),by simp;omega⟩,by (try dsimp only)<;>omega⟩
      ·right
       rw[Zd h4]
       unfold Zl3
       dsimp only
       rw[Zb (by simp[Zl];omega),Zf (by omega) (by omega)]
       exact⟨_,rfl,_,rfl,rfl,k3.trans (Adv.refl p (c:=0) (by omega)) (by omega),v,rfl,by (try dsimp only)<;>omega⟩) ((0:Int),q,[]) ⟨Xat _,by (try dsimp only)<;>omega,Adv.refl q (Xat _),by simp⟩
    subst w2
    obtain⟨i',q',e'⟩:=o'
    obtain⟨y1,y2,x,y3,y4⟩:=w3
    dsimp only at y1 y2 y3
    subst y1 y3
    refine⟨_,w1,⟨by (try dsimp only)<;>omega,by (try dsimp only)<;>omega,g3.trans y2 (by (try dsimp only)<;>omega),by simp;omega,fun z hz=>?_⟩,by (try dsimp only)<;>omega⟩
    rcases List.mem_append.1 hz with hz|hz
    ·exact g5 z hz
    ·rw[Xah.1 hz];exact y4
   ·right
    rw[Zd h3]
    exact⟨_,rfl,g3.trans (Adv.refl q (c:=0) (by omega)) (by omega),m2,rfl,by (try dsimp only)<;>omega,g5⟩
  |false=>
   rw[cff]
   cases (k==4)with
   |true=>
    rw[ctt]
    obtain⟨r3,l3,e3,a3,m3,m4⟩:=ZvC (a2:=2) o2 (h2.wk (by omega)) (by omega) ho
    rw[e3,Ze,Zb ⟨by omega,by (try dsimp only)<;>omega⟩]
    exact⟨_,_,_,_,_,_,rfl,(a1.trans a2 (Xat _)).trans a3 (by omega),by simp;omega,by simp,by simp,by simp⟩
   |false=>
    rw[cff]
    exact⟨_,_,_,_,_,_,rfl,a1.trans a2 (by omega),m2,by simp,by simp,by simp⟩
theorem ZMC {l:List Int} (h:∀x∈l,0≤x∧x≤3) {i:Nat} (hi:i<l.length):0≤l.getD i 0∧l.getD i 0≤3:=h _ (ZA hi)
theorem Zy8 {r:List Int×Int} {l:List Int} (h:RdOk r 700000100) (hl:l.length≤6):∃o,Zmo r l=some o∧(Adv r o.1 1001∧o.2.1=l∧o.2.2.length≤4∧∀r∈o.2.2,okR r):=by
 unfold Zmo
 obtain⟨n,r1,e1,a1,m1⟩:=Zgq (l:=[2,3,1,4,0]) (h.wk (by omega)) (by decide)
 have hn:0≤n∧n≤4:=by simp only[XaA,Xay,or_false]at m1;omega
 rw[e1,Ze]
 dsimp only
 refine Zb9 (f:=Zmp l) (fun s=>0≤s.1∧s.1≤n∧Adv r s.2.1 (1+200*(n - s.1))∧(s.2.2.length:Int)≤n - s.1∧∀r∈s.2.2,okR r) (fun s=>s.1.toNat) _ ?_ (n,r1,[]) ⟨by (try dsimp only)<;>omega,by (try dsimp only)<;>omega,Adv.trans a1 (Adv.refl r1 (c:=0) (by omega)) (by (try dsimp only)<;>omega),by simp,by simp⟩
 rintro⟨i,q,e⟩ ⟨g1,g2,g3,g4,g5⟩
 dsimp only at g1 g2 g3 g4 g5 ⊢
 have hq:RdOk q 700001101:=g3.ok h (by omega)
 unfold Zmp
 dsimp only
 by_cases h3:0<i
 ·left
  obtain⟨q1,a,b,c,d,t,e2,a2,m2,m3,m4,m5⟩:=ZDj (o1:=l) e (hq.wk (by omega)) hl
  rw[Zc h3,e2,Ze]
  dsimp only
  rw[Zb (by simp[Zl];omega),Zf (by omega) (by omega)]
  refine⟨_,rfl,⟨by (try dsimp only)<;>omega,by (try dsimp only)<;>omega,g3.trans a2 (by (try dsimp only)<;>omega),by simp;omega,fun z hz=>?_⟩,by (try dsimp only)<;>omega⟩
  rcases List.mem_append.1 hz with hz|hz
  ·exact g5 z hz
  ·rw[Xah.1 hz]
   exact⟨by (try dsimp only)<;>omega,by (try dsimp only)<;>omega,by (try dsimp only)<;>omega,fun x hx=>by have:=m5 x hx;omega⟩
 ·right
  rw[Zd h3]
  exact⟨_,rfl,g3.trans (Adv.refl q (c:=0) (by omega)) (by omega),rfl,by (try dsimp only)<;>omega,g5⟩
theorem Zy9 {l:List Int} (h:∀x∈l,0≤x∧x≤3) (h2:2≤l.length) (h4:l.length≤4) :
  loop (Zgx l) ((0:Int),(0:Int))=some (.inl ((0:Int),l.take (l.length - 1)))∧4≤l.length∨∃n,loop (Zgx l) ((0:Int),(0:Int))=some (.inl (n,l))∧n≠0:=by
 have key:=Zb9 (f:=Zgx l) (fun s=>∃i:Nat,s.2=i∧i≤l.length∧(i:Int)≤s.1∧s.1≤4*i) (fun s=>l.length - s.2.toNat)
  (fun o=>o = .inl ((0:Int),l.take (l.length - 1))∧4≤l.length∨∃n,o = .inl (n,l)∧n≠0) ?_ ((0:Int),(0:Int)) ⟨0,rfl,Nat.zero_le _,Xat _,Xat _⟩
 ·obtain⟨o,q1,⟨rfl,q2⟩|⟨n,rfl,q2⟩⟩:=key
  ·exact Or.inl ⟨q1,q2⟩
  ·exact Or.inr ⟨n,q1,q2⟩
 rintro⟨a,s⟩ ⟨i,rfl,hi,g1,g2⟩
 dsimp only at g1 g2 ⊢
 unfold Zgx
 dsimp only
 rcases Xag i l.length with h1|h1
 ·left
  have:=ZMC h h1
  rw[Zc (by omega),Zb ⟨by omega,by omega⟩,Xab,Zf (by omega) (by omega),Zf (by omega) (by omega),Zf (by omega) (by omega)]
  exact⟨_,rfl,⟨i+1,by simp,by omega,by (try dsimp only)<;>omega,by (try dsimp only)<;>omega⟩,by (try dsimp only)<;>omega⟩
 ·right
  have:i=l.length:=by omega
  subst this
  rw[Zd (by omega)]
  by_cases h5:12<a
  ·rw[Zc h5,Zf (by omega) (by omega),Zb ⟨by omega,by omega⟩]
   exact⟨_,rfl,Or.inl ⟨by rw[show ((l.length:Int) - 1).toNat=l.length - 1 by omega],by omega⟩⟩
  ·rw[Zd h5]
   exact⟨_,rfl,Or.inr ⟨a,rfl,by omega⟩⟩
theorem ZCc {r:List Int×Int} (h:RdOk r 700000000):∃r' m,Zqd r=some (r',m)∧Adv r r' 1100∧m.1.length≤4∧m.2.length≤4∧∀r∈m.2,okR r:=by
 unfold Zqd
 obtain⟨n,r1,e1,a1,m1⟩:=Zgq (l:=[3,2,4,3]) (h.wk (by omega)) (by decide)
 have hn:2≤n∧n≤4:=by simp only[XaA,Xay,or_false]at m1;omega
 rw[e1,Ze]
 dsimp only
 have key:=Zb9 (f:=Zmr) (fun s=>0≤s.1∧s.1≤n∧Adv r s.2.1 (1+(n - s.1))∧(s.2.2.length:Int)=n - s.1∧∀x∈s.2.2,0≤x∧x≤3) (fun s=>s.1.toNat)
  (fun o=>Adv r o.1 1100∧o.2.1.length≤4∧o.2.2.length≤4∧∀r∈o.2.2,okR r) ?_ (n,r1,[]) ⟨by (try dsimp only)<;>omega,by (try dsimp only)<;>omega,Adv.trans a1 (Adv.refl r1 (c:=0) (by omega)) (by (try dsimp only)<;>omega),by simp,by simp⟩
 ·obtain⟨⟨r',m⟩,q1,q2⟩:=key
  exact⟨r',m,q1,q2⟩
 rintro⟨i,q,l⟩ ⟨g1,g2,g3,g4,g5⟩
 dsimp only at g1 g2 g3 g4 g5 ⊢
 have hq:RdOk q 700000005:=g3.ok h (by omega)
 unfold Zmr
 dsimp only
 by_cases h3:0<i
 ·left
  obtain⟨x,q1,e2,a2,m2⟩:=Zgq (l:=[2,1,3,2,0]) (hq.wk (by omega)) (by decide)
  have hx:0≤x∧x≤3:=by simp only[XaA,Xay,or_false]at m2;omega
  rw[Zc h3,e2,Ze,Zb (by simp[Zl];omega),Zf (by omega) (by omega)]
  refine⟨_,rfl,⟨by (try dsimp only)<;>omega,by (try dsimp only)<;>omega,g3.trans a2 (by (try dsimp only)<;>omega),by simp;omega,fun z hz=>?_⟩,by (try dsimp only)<;>omega⟩
  rcases List.mem_append.1 hz with hz|hz
  ·exact g5 z hz
  ·rw[Xah.1 hz];exact hx
 ·right
  rw[Zd h3]
  have key2:∃o,Zmn (q,l)=some o∧(Adv q o.1 1001∧o.2.1.length≤4∧o.2.2.length≤4∧∀r∈o.2.2,okR r):=by
   unfold Zmn
   refine Zb9 (f:=Zmq q) (fun s=>(s.1=0∧2≤s.2.length∨s.1≠0)∧s.2.length≤4∧∀x∈s.2,0≤x∧x≤3) (fun s=>if s.1=0 then 1+s.2.length else 0) _ ?_ ((0:Int),l) ⟨Or.inl ⟨rfl,by (try dsimp only)<;>omega⟩,by (try dsimp only)<;>omega,g5⟩
   rintro⟨a,l⟩ ⟨k1,k2,k3⟩
   dsimp only at k1 k2 k3 ⊢
   unfold Zmq
   dsimp only
   by_cases h4:a=0
   ·left
    subst h4
    rw[Zx rfl]
    have k1:2≤l.length:=by rcases k1 with k1|k1<;>omega
    rcases Zy9 k3 k1 k2 with⟨w1,w2⟩|⟨n',w1,w2⟩
    ·rw[w1]
     refine⟨_,rfl,⟨Or.inl ⟨rfl,by (try dsimp only)<;>(rw[XaB];omega)⟩,by (try dsimp only)<;>(rw[XaB];omega),fun x hx=>k3 x (List.mem_of_mem_take hx)⟩,?_⟩
     dsimp only
     rw[if_pos rfl,if_pos rfl,XaB]
     omega
    ·rw[w1]
     refine⟨_,rfl,⟨Or.inr w2,k2,k3⟩,?_⟩
     dsimp only
     rw[if_neg w2,if_pos rfl]
     omega
   ·right
    rw[Zu h4]
    obtain⟨o,w1,w2,w3,w4⟩:=Zy8 (l:=l) (hq.wk (show (700000005:Int)≤700000100 by omega)) (by omega)
    rw[w1]
    exact⟨_,rfl,w2,by rw[w3];omega,w4⟩
  obtain⟨o,w1,w2,w3⟩:=key2
  rw[w1]
  exact⟨_,rfl,g3.trans w2 (by omega),w3⟩
theorem Zqi {α:Type} {l:List α} {i:Nat} (d:α) (h:i<l.length):l.take (i+1)=l.take i++[l.getD i d]:=by
 rw[Xbk,Xac h,Xaa,Xac h]
 rfl
theorem ZDi (m:Zo) (h:Zek m):Zq5 m=some m:=by
 have hb:∀{n:Nat},n≤1048576→n+1≤Zl:=fun h=>by simp only[Zl];omega
 have hb':∀{n:Nat},n≤1048576→0+n≤Zl:=fun h=>by simp only[Zl];omega
 unfold Zq5
 change rq _ (loop _ _)=_
 rw[Zb (by simp only[Xap];exact hb' h.1)]
 have hh:m.2.length≤1048576:=h.2.1
 refine ZK (fun s:Int×List ZH=>∃i:Nat,s.1=i∧i≤m.2.length∧s.2=m.2.take i) (fun s=>m.2.length - s.1.toNat) (fun _=>m) ?_ _ ⟨0,rfl,Nat.zero_le _,rfl⟩
 rintro⟨a,out⟩ ⟨i,rfl,hi,rfl⟩
 dsimp only
 unfold ZqT
 dsimp only
 rcases Xag i m.2.length with h1|h1
 ·left
  have hr:=h.2.2 _ (ZA (l:=m.2) (i:=i) (d:=(0,[],[],0,[])) h1)
  obtain⟨hr1,hr2,hr3,hr4⟩:=hr
  rw[Zc (by omega),Zb ⟨by omega,by omega⟩]
  show ∃s',rq _ (rq _ _)=_∧_
  rw[Xab]
  rw[Zb (by simp only[Xap];exact hb' hr1),Zb (by simp only[Xap];exact hb' hr2)]
  show ∃s',loop (ZhH m (i:Int) (m.2.take i)) ((0:Int),[])=_∧_
  have e:loop (ZhH m (i:Int) (m.2.take i)) ((0:Int),[])=some (.inl ((i:Int)+1,m.2.take (i+1))):=by
   refine ZK (f:=ZhH m (i:Int) (m.2.take i)) (fun s:Int×List (List Int)=>∃k:Nat,s.1=k∧k≤(m.2.getD i (0,[],[],0,[])).2.2.2.2.length∧s.2=(m.2.getD i (0,[],[],0,[])).2.2.2.2.take k) (fun s=>(m.2.getD i (0,[],[],0,[])).2.2.2.2.length - s.1.toNat) (fun _=>.inl ((i:Int)+1,m.2.take (i+1))) ?_ _ ⟨0,rfl,Nat.zero_le _,rfl⟩
   rintro⟨b,t⟩ ⟨k,rfl,hk,rfl⟩
   dsimp only
   unfold ZhH
   dsimp only
   rw[Xab]
   rcases Xag k (m.2.getD i (0,[],[],0,[])).2.2.2.2.length with h2|h2
   ·left
    have hx:=hr4 _ (ZA (l:=(m.2.getD i (0,[],[],0,[])).2.2.2.2) (i:=k) (d:=[]) h2)
    rw[Zc (by omega),Zb ⟨by omega,by omega⟩,Xab]
    rw[Zb (by simp only[Xap];exact hb' hx),Zb (by rw[Xav,XaB];exact hb (by omega)),Zf (by omega) (by omega),Xau]
    exact⟨_,rfl,⟨k+1,by simp,by omega,by rw[Zqi [] h2]⟩,by (try dsimp only)<;>omega,rfl⟩
   ·right
    have:k=(m.2.getD i (0,[],[],0,[])).2.2.2.2.length:=by omega
    rw[Zd (by omega)]
    change up (rq _ (rq _ (some _)))=_
    rw[Xab,Zb (by rw[Xav,XaB];exact hb (by omega)),Zf (by omega) (by omega),Xau,Xau,this,XaC,Zqi (0,[],[],0,[]) h1]
    rfl
  rw[e]
  exact⟨_,rfl,⟨i+1,by simp,by omega,rfl⟩,by (try dsimp only)<;>omega,rfl⟩
 ·right
  have:i=m.2.length:=by omega
  rw[Zd (by omega),this,XaC,Xau]
theorem Zvq {l:List ZH} (h:∀r∈l,okR r) {r:ZH} (hr:okR r) (i:Nat):∀x∈l.set i r,okR x:=fun x hx=>by
 rcases List.mem_or_eq_of_mem_set hx with hx|hx
 ·exact h x hx
 ·rw[hx];exact hr
theorem ZAW {m:Zo} {r:List Int×Int} (h:RdOk r 700100000) (hm:m.1.length≤4∧m.2.length≤4∧∀r∈m.2,okR r) :
  ∃r' m',ZoE m r=some (r',m')∧Adv r r' 2∧m'.1.length≤6∧m'.2.length≤4∧∀r∈m'.2,okR r:=by
 obtain⟨s,t⟩:=m
 obtain⟨m1,m2,m3⟩:=hm
 dsimp only at m1 m2 m3
 unfold ZoE
 obtain⟨x,r1,e1,a1,_⟩:=ZtE 50 (h.wk (show (700100000:Int)≤1000000000 by omega))
 have h1:RdOk r1 700100001:=a1.ok h (by omega)
 have h1':RdOk r1 1000000000:=h1.wk (by omega)
 rw[ZDi _ (okM.small ⟨by (try dsimp only)<;>omega,by (try dsimp only)<;>omega,m3⟩),Ze,e1,Ze]
 dsimp only
 have a1':Adv r r1 2:=a1.trans (Adv.refl r1 (c:=0) (by omega)) (by omega)
 have gt:t.getD 0 (0,[],[],0,[])∈t∨t=[]:=by
  cases t with
  |nil=>exact Or.inr rfl
  |cons y z=>exact Or.inl (Xas ..)
 cases (x==0)with
 |true=>
  rw[ctt]
  by_cases hl:(0:Int)<s.length
  ·obtain⟨y,r2,e2,a2,_⟩:=Zgq (l:=[-1,4,3,9223372036854775807]) h1' (by simp)
   rw[Zc hl,e2,Ze,Zb ⟨by omega,hl⟩]
   exact⟨_,_,rfl,a1.trans a2 (by omega),by (try dsimp only)<;>(rw[Xam];omega),m2,m3⟩
  ·rw[Zd hl]
   exact⟨_,_,rfl,a1',by (try dsimp only)<;>omega,m2,m3⟩
 |false=>
  rw[cff]
  cases (x==1)with
  |true=>
   rw[ctt]
   obtain⟨⟨r',m'⟩,q1,q2⟩:=Zb9 (f:=Zlh (s,t) (x,r1)) (fun s=>s.length≤6) (fun s=>6 - s.length) (fun o=>o.1=r1∧o.2.1.length≤6∧o.2.2=t) (by
    intro v hv
    unfold Zlh
    by_cases h2:(v.length:Int)≤5
    ·left
     rw[Zc h2,Zb (by simp[Zl];omega)]
     exact⟨_,rfl,by simp;omega,by simp;omega⟩
    ·right
     rw[Zd h2]
     exact⟨_,rfl,rfl,by (try dsimp only)<;>omega,rfl⟩) s (by (try dsimp only)<;>omega)
   dsimp only at q2
   obtain⟨rfl,q3,q4⟩:=q2
   rw[←q4]at m2 m3
   exact⟨_,_,q1,a1',q3,m2,m3⟩
  |false=>
   rw[cff]
   cases (x==2)with
   |true=>
    rw[ctt]
    by_cases hl:(0:Int)<t.length
    ·obtain⟨y,r2,e2,a2,_⟩:=Zgq (l:=[0,5,1,2,3]) h1' (by simp)
     have gm:=gt.resolve_right (by rintro rfl;simp at hl)
     rw[Zc hl,e2,Ze,Zb ⟨by omega,hl⟩]
     refine⟨_,_,rfl,a1.trans a2 (by omega),by (try dsimp only)<;>omega,by (try dsimp only)<;>(rw[Xam];omega),Zvq m3 ?_ _⟩
     obtain⟨w1,w2,w3,w4⟩:=m3 _ gm
     exact⟨w1,w2,w3,w4⟩
    ·rw[Zd hl]
     exact⟨_,_,rfl,a1',by (try dsimp only)<;>omega,m2,m3⟩
   |false=>
    rw[cff]
    cases (x==3)with
    |true=>
     rw[ctt]
     by_cases hl:(0:Int)<t.length
     ·rw[Zc hl,Zf (by omega) (by omega),Zb ⟨by omega,by omega⟩]
      have e:((t.length:Int) - 1).toNat=t.length - 1:=by omega
      have gm:=ZA (l:=t) (i:=t.length - 1) (d:=(0,[],[],0,[])) (by omega)
      rw[e]
      have gm':=m3 _ gm
      have es:∀v:ZH,(t.set (t.length - 1) v).getD (t.length - 1) (0,[],[],0,[])=v:=fun v=>by
       rw[Xaa,List.getElem?_set_self (by omega)]
       rfl
      rw[es]
      by_cases h2:(0:Int)<(t.getD (t.length - 1) (0,[],[],0,[])).2.1.length
      ·obtain⟨y,r2,e2,a2,_⟩:=Zgq (l:=[-1,5,1,0]) h1' (by simp)
       rw[Zc h2,Zf (by omega) (by omega),Zb ⟨by omega,by omega⟩,e2,Ze,Zb ⟨by omega,h2⟩]
       refine⟨_,_,rfl,a1.trans a2 (by omega),by (try dsimp only)<;>omega,by (try dsimp only)<;>(rw[Xam,Xam];omega),Zvq (Zvq m3 gm' _) ?_ _⟩
       obtain⟨w1,w2,w3,w4⟩:=gm'
       exact⟨by (try dsimp only)<;>(rw[Xam];omega),w2,w3,w4⟩
      ·rw[Zd h2]
       exact⟨_,_,rfl,a1',by (try dsimp only)<;>omega,by (try dsimp only)<;>(rw[Xam];omega),Zvq m3 gm' _⟩
     ·rw[Zd hl]
      exact⟨_,_,rfl,a1',by (try dsimp only)<;>omega,m2,m3⟩
    |false=>
     rw[cff]
     cases (x==4)with
     |true=>
      rw[ctt]
      by_cases hl:(0:Int)<t.length
      ·obtain⟨y,r2,e2,a2,_⟩:=Zgq (l:=[1001,-1001,1000]) h1' (by simp)
       have gm:=gt.resolve_right (by rintro rfl;simp at hl)
       rw[Zc hl,e2,Ze,Zb ⟨by omega,hl⟩]
       refine⟨_,_,rfl,a1.trans a2 (by omega),by (try dsimp only)<;>omega,by (try dsimp only)<;>(rw[Xam];omega),Zvq m3 ?_ _⟩
       obtain⟨w1,w2,w3,w4⟩:=m3 _ gm
       exact⟨w1,w2,w3,w4⟩
      ·rw[Zd hl]
       exact⟨_,_,rfl,a1',by (try dsimp only)<;>omega,m2,m3⟩
     |false=>
      rw[cff]
      cases (x==5)with
      |true=>
       rw[ctt]
       exact⟨_,_,rfl,a1',by simp,by simp,by simp⟩
      |false=>
       rw[cff]
       exact⟨_,_,rfl,a1',by (try dsimp only)<;>omega,m2,m3⟩
end Go.AE.Y
namespace Go.AE.Y
open Go Go.AE
def okDm (d:List (List Bool)):Prop:=d.length≤8∧∀x∈d,x.length≤8
theorem okDm.small {d:List (List Bool)} (h:okDm d):ZNL d:=⟨by have:=h.1;omega,fun x hx=>by have:=h.2 x hx;omega⟩
end Go.AE.Y
namespace Go.AE.Y
open Go Go.AE
theorem ZDq {r:List Int×Int} {o1:List Int} (o2:List ZH) (h:RdOk r 710000000) (ho:o1.length≤8):∃r' l,Zlp r o1 o2=some (r',l)∧Adv r r' 10∧l.length≤9:=by
 unfold Zlp
 have key:=Zb9 (f:=Ziv o1) (fun s=>0≤s.1∧s.1≤o1.length∧Adv r s.2.1 s.1∧(s.2.2.length:Int)≤s.1) (fun s=>(o1.length - s.1).toNat)
  (fun o=>Adv r o.1 10∧o.2.length≤9) ?_ ((0:Int),r,[]) ⟨Xat _,by (try dsimp only)<;>omega,Adv.refl r (Xat _),by simp⟩
 ·obtain⟨⟨r',l⟩,q1,q2⟩:=key
  exact⟨r',l,q1,q2⟩
 rintro⟨i,q,l⟩ ⟨g1,g2,g3,g4⟩
 dsimp only at g1 g2 g3 g4 ⊢
 have hq:RdOk q 710000008:=g3.ok h (by omega)
 unfold Ziv
 dsimp only
 by_cases h1:i<o1.length
 ·left
  obtain⟨x,q1,e1,a1,_⟩:=Zgq (l:=[1,-1,2,0,-2,3]) (hq.wk (by omega)) (by decide)
  rw[Zc h1,e1,Ze,Zb (by simp[Zl];omega),Zf (by omega) (by omega)]
  exact⟨_,rfl,⟨by (try dsimp only)<;>omega,by (try dsimp only)<;>omega,g3.trans a1 (Xat _),by simp;omega⟩,by (try dsimp only)<;>omega⟩
 ·right
  obtain⟨x,q1,e1,a1,_⟩:=ZtE 30 (hq.wk (show (710000008:Int)≤1000000000 by omega))
  have hq1:RdOk q1 710000009:=a1.ok hq (by omega)
  rw[Zd h1]
  unfold Zl7
  dsimp only
  rw[e1,Ze]
  dsimp only
  cases (x==0)with
  |true=>
   rw[ctt]
   by_cases h2:(0:Int)<l.length
   ·obtain⟨y,q2,e2,a2,_⟩:=Zgq (l:=[10,-10,9,9223372036854775807]) (hq1.wk (by omega)) (by simp)
    rw[Zc h2,e2,Ze,Zb ⟨by omega,h2⟩]
    exact⟨_,rfl,(g3.trans a1 (Xat _)).trans a2 (by omega),by (try dsimp only)<;>(rw[Xam];omega)⟩
   ·rw[Zd h2]
    exact⟨_,rfl,g3.trans a1 (by omega),by (try dsimp only)<;>omega⟩
  |false=>
   rw[cff]
   cases (x==1)with
   |true=>
    rw[ctt,Zb (by simp[Zl];omega)]
    exact⟨_,rfl,g3.trans a1 (by omega),by simp;omega⟩
   |false=>
    rw[cff]
    exact⟨_,rfl,g3.trans a1 (by omega),by (try dsimp only)<;>omega⟩
theorem ZNI {m:Zo} (h:m.1.length≤6∧m.2.length≤4∧∀r∈m.2,okR r):okM m:=⟨by have:=h.1;omega,by have:=h.2.1;omega,h.2.2⟩
end Go.AE.Y
namespace Go.AE.Y
open Go Go.AE
noncomputable def Zr9 (m:Zo) (x:List Int):Nat→List Bool
 |0=>List.replicate 12 false
 |n+1=>(Zr9 m x n).set (x.getD n 0+ZO m n).toNat true
theorem ZFM (m:Zo) (x:List Int):∀n,(Zr9 m x n).length=12
 |0=>by unfold Zr9;exact XaG
 |n+1=>by unfold Zr9;rw[Xam,ZFM m x n]
theorem ZDS {m:Zo} {x:List Int} (hm:Zy m=true) (hx:ZJ m x=true) {i:Nat} (hi:i<x.length):0≤x.getD i 0∧x.getD i 0≤3∧0≤ZO m i∧x.getD i 0+ZO m i<12∧x.getD i 0+ZO m i<ZO m (i+1):=by
 obtain⟨x1,x2⟩:=Zcu hx
 have h1:=ZgA hm (i+1) (by omega)
 have h2:=ZgA hm i (by omega)
 rw[ZfR (by omega)]at h1 ⊢
 have h3:=x2 i hi
 have h4:=ZeY hm (i:=i) (by omega)
 omega
theorem Zue {m:Zo} (hm:Zy m=true):∀i k,i+k≤m.1.length→ZO m i≤ZO m (i+k)
 |i,0,_=>Xat _
 |i,k+1,h=>by
  have:=Zue hm i k (by omega)
  rw[show i+(k+1)=(i+k)+1 by omega,ZfR (by omega)]
  have:=ZeY hm (i:=i+k) (by omega)
  omega
theorem ZFL {m:Zo} {x:List Int} (hm:Zy m=true) (hx:ZJ m x=true):∀n,n≤x.length→∀c,c<n→∀k:Nat,(k:Int)≤m.1.getD c 0→(Zr9 m x n).getD ((k:Int)+ZO m c).toNat false=decide (x.getD c 0=k)
 |0,_,c,hc,_,_=>by omega
 |n+1,hn,c,hc,k,hk=>by
  obtain⟨x1,x2⟩:=Zcu hx
  obtain⟨c1,c2,c3,c4,c5⟩:=ZDS hm hx (i:=n) (by omega)
  have hb:=(ZgA hm c (by omega)).1
  unfold Zr9
  by_cases e:c=n
  ·subst e
   by_cases hk':x.getD c 0=k
   ·rw[hk',ZcT (by rw[ZFM];omega)]
    simp
   ·rw[ZV (by omega),decide_eq_false hk']
    have key:∀n,n≤c→(Zr9 m x n).getD ((k:Int)+ZO m c).toNat false=false:=by
     intro n
     induction n with
     |zero=>
      intro _
      unfold Zr9
      rw[Xaa,List.getElem?_replicate]
      split<;>rfl
     |succ n ih=>
      intro h
      unfold Zr9
      obtain⟨d1,d2,d3,d4,d5⟩:=ZDS hm hx (i:=n) (by omega)
      have:=Zue hm (n+1) (c - (n+1)) (by omega)
      rw[show n+1+(c - (n+1))=c by omega]at this
      rw[ZV (by omega)]
      exact ih (by omega)
    exact key c (Nat.le_refl _)
  ·have h1:(k:Int)+ZO m c<ZO m n:=by
    have:=Zue hm (c+1) (n - (c+1)) (by omega)
    rw[show c+1+(n - (c+1))=n by omega]at this
    rw[ZfR (by omega)]at this
    omega
   rw[ZV (by omega)]
   exact ZFL hm hx n (by omega) c (by omega) k hk
end Go.AE.Y
namespace Go.AE.Y
open Go Go.AE
end Go.AE.Y
namespace Go.AE.Y
open Go Go.AE
end Go.AE.Y
namespace Go.AE.Y
open Go Go.AE
def ZeF (net:List Int) (v:List Bool):Nat→Int
 |0=>0
 |n+1=>ZeF net v n+(bif v.getD n false then net.getD (n+1) 0 else 0)
theorem ZqU (v:List Bool) (a b:List (Int×Int)):ZcF v (a++b)=ZcF v a+ZcF v b:=by
 have key:∀(l:List (Int×Int)) (x:Int),l.foldl (fun a t=>bif ZS v t.2 then a+t.1 else a) x=x+l.foldl (fun a t=>bif ZS v t.2 then a+t.1 else a) 0:=by
  intro l
  induction l with
  |nil=>intro x;simp
  |cons t l ih=>
   intro x
   rw[Xa9,Xa9,ih,ih (bif ZS v t.2 then 0+t.1 else 0)]
   cases ZS v t.2 with
   |true=>rw[ctt,ctt];omega
   |false=>rw[cff,cff];omega
 unfold ZcF
 rw[Xa6,key b]
theorem ZDs {net:List Int} {v:List Bool} {b:Int}:∀n,ZcF v (ZcW net n)=ZeF net v n+(Zbt net b n - b)∧0≤ZcF v (ZcW net n)
 |0=>⟨by show (0:Int)=0+(b - b);omega,Xat _⟩
 |n+1=>by
  obtain⟨i1,i2⟩:=ZDs (net:=net) (v:=v) (b:=b) n
  have ev:vof ((n+1:Nat):Int) - 1=n:=by unfold vof;omega
  have ev':vof (0 - ((n+1:Nat):Int)) - 1=n:=by unfold vof;omega
  unfold ZcW
  rw[ZqU]
  by_cases q1:0<net.getD (n+1) 0
  ·have e:ZcF v [(net.getD (n+1) 0,((n+1:Nat):Int))]=bif v.getD n false then net.getD (n+1) 0 else 0:=by
    unfold ZcF
    rw[Xa9,List.foldl_nil]
    unfold ZS
    dsimp only
    rw[ev,Xab,Xad (by omega)]
    cases v.getD n false with
    |true=>simp
    |false=>simp
   have h1:Zbt net b (n+1)=Zbt net b n:=by
    conv=>lhs;unfold Zbt
    rw[if_neg (by omega)]
   have h2:ZeF net v (n+1)=ZeF net v n+(bif v.getD n false then net.getD (n+1) 0 else 0):=rfl
   rw[if_pos q1,e,h1,h2]
   cases v.getD n false with
   |true=>rw[ctt];omega
   |false=>rw[cff];omega
  ·by_cases q2:net.getD (n+1) 0<0
   ·have e:ZcF v [(0 - net.getD (n+1) 0,0 - ((n+1:Nat):Int))]=bif v.getD n false then 0 else 0 - net.getD (n+1) 0:=by
     unfold ZcF
     rw[Xa9,List.foldl_nil]
     unfold ZS
     dsimp only
     rw[ev',Xab,decide_eq_false (by omega)]
     cases v.getD n false with
     |true=>simp
     |false=>simp
    have h1:Zbt net b (n+1)=Zbt net b n - net.getD (n+1) 0:=by
     conv=>lhs;unfold Zbt
     rw[if_pos q2]
    have h2:ZeF net v (n+1)=ZeF net v n+(bif v.getD n false then net.getD (n+1) 0 else 0):=rfl
    rw[if_neg q1,if_pos q2,e,h1,h2]
    cases v.getD n false with
    |true=>rw[ctt,ctt];omega
    |false=>rw[cff,cff];omega
   ·have h1:Zbt net b (n+1)=Zbt net b n:=by
     conv=>lhs;unfold Zbt
     rw[if_neg q2]
    have h2:ZeF net v (n+1)=ZeF net v n+(bif v.getD n false then net.getD (n+1) 0 else 0):=rfl
    have h3:net.getD (n+1) 0=0:=by omega
    have h4:ZcF v []=0:=rfl
    rw[if_neg q1,if_neg q2,h1,h2,h3,h4]
    cases v.getD n false with
    |true=>rw[ctt];omega
    |false=>rw[cff];omega
theorem ZCj {net:List Int} {v:List Bool} {b:Nat} {c x s:Int} (hx:0≤x∧x≤s) (hn:∀k:Nat,(k:Int)≤s→net.getD (b+k+1) 0=(0 - c)*k) (hv:∀k:Nat,(k:Int)≤s→v.getD (b+k) false=decide (x=k)):∀k:Nat,(k:Int)≤s+1→ZeF net v (b+k)=ZeF net v b+(if x<k then(0 - c)*x else 0)
 |0,_=>by rw[if_neg (by omega)];simp
 |k+1,h=>by
  have ih:=ZCj hx hn hv k (by omega)
  show ZeF net v (b+k)+(bif v.getD (b+k) false then net.getD (b+k+1) 0 else 0)=_
  rw[ih,hv k (by omega),hn k (by omega)]
  by_cases q:x=(k:Int)
  ·rw[Xad q,ctt,if_neg (by omega),if_pos (by omega),q]
   omega
  ·rw[decide_eq_false q,cff]
   by_cases q2:x<(k:Int)
   ·rw[if_pos q2,if_pos (by omega)];omega
   ·rw[if_neg q2,if_neg (by omega)];omega
theorem ZEl {net:List Int} {v:List Bool} {b:Nat} (h:∀j,1+b≤j→net.getD j 0=0):∀d,ZeF net v (b+d)=ZeF net v b
 |0=>rfl
 |d+1=>by
  show ZeF net v (b+d)+(bif v.getD (b+d) false then net.getD (b+d+1) 0 else 0)=_
  rw[ZEl h d,h (b+d+1) (by omega)]
  cases v.getD (b+d) false with
  |true=>rw[ctt];omega
  |false=>rw[cff];omega
end Go.AE.Y
namespace Go.AE.Y
open Go Go.AE
set_option maxHeartbeats 400000
def ZnO (s:Int×List Int) (t:Int×Int):Int×List Int:=if t.2<0 then(s.1 - t.1,s.2.set (0 - t.2).toNat (s.2.getD (0 - t.2).toNat 0 - t.1))else(s.1,s.2.set t.2.toNat (s.2.getD t.2.toNat 0+t.1))
def Zc7 (ts:List (Int×Int)) (b:Int):Int×List Int:=ts.foldl ZnO (b,List.replicate 13 0)
def okS (t:Int×Int):Prop:=(-1000≤t.1∧t.1≤1000)∧ZZ t.2=true
theorem ZFe (j:Nat):(List.replicate 13 (0:Int)).getD j 0=0:=by
 rw[Xaa]
 rcases Xag j 13 with h|h
 ·rw[XaO h];rfl
 ·rw[Xaw (by rw[XaG];exact h)];rfl
theorem ZrQ {ts:List (Int×Int)} {b:Int} {n:Nat} (h:n<ts.length):Zc7 (ts.take (n+1)) b=ZnO (Zc7 (ts.take n) b) (ts.getD n (0,0)):=by
 unfold Zc7
 rw[ZeE (0,0) h,Xa6]
 rfl
theorem ZwB {ts:List (Int×Int)} {b:Int} (h:∀t∈ts,okS t):∀n:Nat,n≤ts.length→(Zc7 (ts.take n) b).2.length=13∧(Zc7 (ts.take n) b).2.getD 0 0=0∧(b - 1000*n≤(Zc7 (ts.take n) b).1∧(Zc7 (ts.take n) b).1≤b+1000*n)∧∀j,-1000*(n:Int)≤(Zc7 (ts.take n) b).2.getD j 0∧(Zc7 (ts.take n) b).2.getD j 0≤1000*(n:Int)
 |0,_=>by
  rw[XaR]
  refine⟨rfl,rfl,⟨by show b - _≤b;omega,by show b≤b+_;omega⟩,fun j=>?_⟩
  show _≤(List.replicate 13 (0:Int)).getD j 0∧(List.replicate 13 (0:Int)).getD j 0≤_
  rw[ZFe]
  omega
 |n+1,hn=>by
  obtain⟨i1,i2,i3,i4⟩:=ZwB h n (by omega)
  obtain⟨o1,o2⟩:=h _ (ZA (l:=ts) (i:=n) (d:=(0,0)) (by omega))
  have hl:=Zz.1 o2
  rw[ZrQ (by omega)]
  generalize Zc7 (ts.take n) b=s at i1 i2 i3 i4
  generalize ts.getD n (0,0)=t at o1 hl
  unfold ZnO
  by_cases q:t.2<0
  ·rw[if_pos q]
   dsimp only
   refine⟨by rw[Xam];exact i1,by rw[ZV (by omega)];exact i2,⟨by omega,by omega⟩,fun j=>?_⟩
   have hj:=i4 j
   have hv:=i4 (0 - t.2).toNat
   rw[Zjp]
   split<;>omega
  ·rw[if_neg q]
   dsimp only
   refine⟨by rw[Xam];exact i1,by rw[ZV (by omega)];exact i2,⟨by omega,by omega⟩,fun j=>?_⟩
   have hj:=i4 j
   have hv:=i4 t.2.toNat
   rw[Zjp]
   split<;>omega
theorem Zq1 {net:List Int} {b K:Int} (hK:0≤K) (hn:∀j,0 - K≤net.getD j 0∧net.getD j 0≤K):∀n:Nat,b≤Zbt net b n∧Zbt net b n≤b+K*n
 |0=>⟨Xat _,by show b≤b+K*((0:Nat):Int);omega⟩
 |n+1=>by
  have:=Zq1 (b:=b) hK hn n
  have:=hn (n+1)
  have e:K*((n+1:Nat):Int)=K*n+K:=by rw[Int.natCast_add,Int.mul_add];simp
  unfold Zbt
  split<;>omega
theorem ZAA {o:List Int} {b:Int} (f1:o.length=13) (h00:o.getD 0 0=0) (hbd:∀j,-100000≤o.getD j 0∧o.getD j 0≤100000) (hb : -100000≤b∧b≤100000):Zj8 (b,o)=some (Zc2 o b):=by
 unfold Zj8
 dsimp only
 rw[Zb ⟨rfl,rfl,by omega⟩]
 refine ZK (f:=ZfM o) (fun s:Int×Int×List (Int×Int)=>∃n:Nat,s.2.1=n∧n≤13∧s.1=Zbt o b (n - 1)∧s.2.2=ZcW o (n - 1)) (fun s=>13 - s.2.1.toNat) (fun _=>Zc2 o b) ?_ _ ⟨0,rfl,Nat.zero_le _,rfl,rfl⟩
 rintro⟨c,s,t⟩ ⟨n,hs,hn,hc,ht⟩
 dsimp only at hs hc ht ⊢
 subst hs
 subst hc
 subst ht
 have hpl:=ZqO o (n - 1)
 have hnb:=Zq1 (net:=o) (b:=b) (K:=100000) (by omega) (fun j=>by have:=hbd j;omega) (n - 1)
 unfold ZfM
 dsimp only
 rw[ZMO o f1,Xab]
 rcases Xag n 13 with h4|h4
 ·left
  have hbn:=hbd n
  rw[Zc (by omega),Zb ⟨⟨by omega,by omega⟩,by omega⟩]
  cases n with
  |zero=>
   rw[h00,Zd (by omega),Zd (by omega),Zf (by omega) (by omega)]
   exact⟨_,rfl,⟨1,rfl,by omega,rfl,rfl⟩,by (try dsimp only)<;>omega,rfl⟩
  |succ n=>
   rw[XbU]at hpl hnb ⊢
   by_cases q1:0<o.getD (n+1) 0
   ·rw[Zc q1,Zb (by simp[Zl];omega),Zf (by omega) (by omega)]
    refine⟨_,rfl,⟨n+2,by simp;omega,by omega,?_,?_⟩,by (try dsimp only)<;>omega,rfl⟩
    ·show Zbt o b n=Zbt o b (n+1)
     conv=>rhs;unfold Zbt
     rw[if_neg (by omega)]
    ·show _=ZcW o (n+1)
     conv=>rhs;unfold ZcW
     rw[if_pos q1]
   ·rw[Zd q1]
    by_cases q2:o.getD (n+1) 0<0
    ·unfold Znn
     dsimp only
     rw[Zc q2,Zf (by omega) (by omega),Zf (by omega) (by omega),Zb (by simp[Zl];omega),Zf (by omega) (by omega),Zf (by omega) (by omega)]
     refine⟨_,rfl,⟨n+2,by simp;omega,by omega,?_,?_⟩,by (try dsimp only)<;>omega,rfl⟩
     ·show Zbt o b n - _=Zbt o b (n+1)
      conv=>rhs;unfold Zbt
      rw[if_pos q2]
     ·show _=ZcW o (n+1)
      conv=>rhs;unfold ZcW
      rw[if_neg q1,if_pos q2]
    ·rw[Zd q2,Zf (by omega) (by omega)]
     refine⟨_,rfl,⟨n+2,by simp;omega,by omega,?_,?_⟩,by (try dsimp only)<;>omega,rfl⟩
     ·show Zbt o b n=Zbt o b (n+1)
      conv=>rhs;unfold Zbt
      rw[if_neg q2]
     ·show _=ZcW o (n+1)
      conv=>rhs;unfold ZcW
      rw[if_neg q1,if_neg q2,Xaz]
 ·right
  have h12:n - 1=12:=by omega
  rw[h12]at hpl ⊢
  have hv:Zdj (max 0 (Zbt o b 12)) (ZcW o 12)=some (Zc2 o b):=Zw5 _ _ (by omega)
  unfold Znm
  dsimp only
  rw[Zd (by omega),hv,Ze]
  generalize Zc2 o b=q
  rfl
theorem Zur {ts:List (Int×Int)} {b:Int} (hts:∀t∈ts,okS t) (hl:ts.length≤50) (hb : -50000≤b∧b≤50000):Zhv ts b=some (Zc2 (Zc7 ts b).2 (Zc7 ts b).1):=by
 unfold Zhv
 refine ZK (f:=ZhD ts) (fun s:Int×Int×List Int=>∃n:Nat,s.2.1=n∧n≤ts.length∧(s.1,s.2.2)=Zc7 (ts.take n) b) (fun s=>ts.length - s.2.1.toNat) (fun _=>Zc2 (Zc7 ts b).2 (Zc7 ts b).1) ?_ _ ⟨0,rfl,Nat.zero_le _,rfl⟩
 rintro⟨b',s,o⟩ ⟨n,hs,hn,ho⟩
 dsimp only at hs ho ⊢
 subst hs
 obtain⟨f1,f2,f3,f4⟩:=ZwB (b:=b) hts n hn
 have e1:b'=(Zc7 (ts.take n) b).1:=by rw[←ho]
 have e2:o=(Zc7 (ts.take n) b).2:=by rw[←ho]
 rw[←e1]at f3
 rw[←e2]at f1 f2 f4
 unfold ZhD
 dsimp only
 rcases Xag n ts.length with h1|h1
 ·left
  obtain⟨⟨ok1,ok1'⟩,ok2⟩:=hts _ (ZA (l:=ts) (i:=n) (d:=(0,0)) h1)
  have hlit:=Zz.1 ok2
  rw[Zc (by omega),Zb ⟨by omega,by omega⟩,Xab]
  by_cases q:(ts.getD n (0,0)).2<0
  ·have:=f4 (0 - (ts.getD n (0,0)).2).toNat
   rw[Zc q,Zf (by omega) (by omega),Zf (by omega) (by omega),Zb ⟨rfl,⟨by omega,by omega⟩,by omega⟩,Zf (by omega) (by omega),Zb ⟨rfl,⟨by omega,by omega⟩,by omega⟩,Zf (by omega) (by omega)]
   refine⟨_,rfl,⟨n+1,by simp,by omega,?_⟩,by (try dsimp only)<;>omega,rfl⟩
   dsimp only
   rw[ZrQ h1,←ho]
   unfold ZnO
   rw[if_pos q]
  ·have:=f4 (ts.getD n (0,0)).2.toNat
   rw[Zd q,Zb ⟨rfl,⟨by omega,by omega⟩,by omega⟩,Zf (by omega) (by omega),Zb ⟨rfl,⟨by omega,by omega⟩,by omega⟩,Zf (by omega) (by omega)]
   refine⟨_,rfl,⟨n+1,by simp,by omega,?_⟩,by (try dsimp only)<;>omega,rfl⟩
   dsimp only
   rw[ZrQ h1,←ho]
   unfold ZnO
   rw[if_neg q]
 ·right
  have hnn:n=ts.length:=by omega
  rw[Zd (by omega),ZAA f1 f2 (fun j=>by have:=f4 j;omega) ⟨by omega,by omega⟩]
  rw[hnn,XaC]at ho
  rw[←ho]
  generalize Zc2 o b'=q
  rfl
theorem ZEk (v:List Bool):∀n,ZeF (List.replicate 13 0) v n=0
 |0=>rfl
 |n+1=>by
  unfold ZeF
  rw[ZEk v n,ZFe]
  cases v.getD n false<;>rfl
theorem Zze {net:List Int} {v:List Bool} {j:Nat} {x:Int} (hj:j+1<net.length):∀n,ZeF (net.set (j+1) (net.getD (j+1) 0+x)) v n=ZeF net v n+(if j<n then(bif v.getD j false then x else 0)else 0)
 |0=>by show (0:Int)=0+_;rw[if_neg (by omega)];rfl
 |n+1=>by
  unfold ZeF
  rw[Zze hj n]
  by_cases e:j=n
  ·subst e
   rw[ZcT hj,if_neg (by omega),if_pos (by omega)]
   cases v.getD j false with
   |true=>rw[ctt,ctt,ctt];omega
   |false=>rw[cff,cff,cff,Int.add_zero]
  ·rw[ZV (by omega)]
   by_cases q:j<n
   ·rw[if_pos q,if_pos (by omega)];omega
   ·rw[if_neg q,if_neg (by omega)];omega
theorem ZwQ (v:List Bool) (t:Int×Int):ZcF v [t]=bif ZS v t.2 then t.1 else 0:=by
 unfold ZcF
 rw[Xa9,List.foldl_nil]
 cases ZS v t.2 with
 |true=>rw[ctt,ctt,Int.zero_add]
 |false=>rw[cff,cff]
theorem ZJ9 {s:Int×List Int} {t:Int×Int} {v:List Bool} (hs:s.2.length=13) (ht:ZZ t.2=true):ZeF (ZnO s t).2 v 12 - (ZnO s t).1=ZeF s.2 v 12 - s.1+ZcF v [t]:=by
 have hl:=Zz.1 ht
 rw[ZwQ]
 unfold ZnO ZS
 by_cases q:t.2<0
 ·rw[if_pos q]
  dsimp only
  obtain⟨j,hj⟩:∃j:Nat,(0 - t.2).toNat=j+1:=⟨(0 - t.2).toNat - 1,by omega⟩
  have ev:(vof t.2 - 1).toNat=j:=by unfold vof;omega
  rw[hj,show s.2.getD (j+1) 0 - t.1=s.2.getD (j+1) 0+(0 - t.1) by omega,Zze (by omega),if_pos (by omega),ev,decide_eq_false (show ¬0<t.2 by omega)]
  cases v.getD j false with
  |true=>rw[ctt,show (true==false)=false from rfl,cff];omega
  |false=>rw[cff,show (false==false)=true from rfl,ctt];omega
 ·rw[if_neg q]
  dsimp only
  obtain⟨j,hj⟩:∃j:Nat,t.2.toNat=j+1:=⟨t.2.toNat - 1,by omega⟩
  have ev:(vof t.2 - 1).toNat=j:=by unfold vof;omega
  rw[hj,Zze (by omega),if_pos (by omega),ev,Xad (show 0<t.2 by omega)]
  cases v.getD j false with
  |true=>rw[ctt,show (true==true)=true from rfl,ctt];omega
  |false=>rw[cff,show (false==true)=false from rfl,cff];omega
theorem ZD8 {ts:List (Int×Int)} {b:Int} {v:List Bool} (h:∀t∈ts,okS t):∀n,n≤ts.length→ZeF (Zc7 (ts.take n) b).2 v 12 - (Zc7 (ts.take n) b).1=ZcF v (ts.take n) - b
 |0,_=>by
  rw[XaR]
  show ZeF (List.replicate 13 0) v 12 - b=0 - b
  rw[ZEk]
 |n+1,hn=>by
  have ih:=ZD8 (b:=b) (v:=v) h n (by omega)
  rw[ZrQ (by omega),ZJ9 (ZwB h n (by omega)).1 (h _ (ZA (l:=ts) (i:=n) (d:=(0,0)) (by omega))).2,ih,ZeE (0,0) (by omega),ZqU]
  omega
theorem ZEa {ts:List (Int×Int)} {b:Int} {v:List Bool} (h:∀t∈ts,okS t):ZY v (ZcW (Zc7 ts b).2 12,max 0 (Zbt (Zc7 ts b).2 (Zc7 ts b).1 12))=decide (b≤ZcF v ts):=by
 have h1:=ZD8 (b:=b) (v:=v) h ts.length (Nat.le_refl _)
 rw[XaC]at h1
 obtain⟨h2,h3⟩:=ZDs (net:=(Zc7 ts b).2) (v:=v) (b:=(Zc7 ts b).1) 12
 unfold ZY
 dsimp only
 rw[decide_eq_decide]
 omega
end Go.AE.Y
namespace Go.AE.Y
open Go Go.AE
theorem ZK7 {c x:List Int} {n:Nat} (h:∀i,i<n → -27≤c.getD i 0*x.getD i 0∧c.getD i 0*x.getD i 0≤27) : -27*(n:Int)≤Z1 c x n∧Z1 c x n≤27*n:=by
 induction n with
 |zero=>simp[Z1]
 |succ n ih=>
  have:=ih (fun i hi=>h i (by omega))
  have:=h n (by omega)
  rw[Zjh]
  omega
theorem Zv5 {m:Zo} {x:List Int} (h:ZJ m x=true):x.length=m.1.length∧∀i,i<x.length→0≤x.getD i 0∧x.getD i 0≤m.1.getD i 0:=by
 unfold ZJ cellAt at h
 simp only[Xae,Xaf,Xar]at h
 exact⟨h.1,fun i hi=>h.2 i (Xax.2 hi)⟩
theorem ZC8 {m:Zo} (hm:Zy m=true) {i:Nat} (hi:i<m.1.length):0≤m.1.getD i 0∧m.1.getD i 0≤3:=by
 unfold Zy at hm
 simp only[Xae,Xaf,Xar]at hm
 have h2:=hm.2.2.1 _ (ZA (l:=m.1) (i:=i) (d:=0) hi)
 unfold ZdY at h2
 simp only[Xae,Xaf]at h2
 omega
def ZlC (v:List Int) (i:Nat):Bool:=!((v.take i).any (fun x=>v.getD i 0==x))
def Zuo (v:List Int):Bool:=(List.range v.length).all (ZlC v)
def holdsB (r:ZH) (v:List Int):Bool:=
 bif r.1==1 then decide (r.2.2.2.1≤Z1 r.2.2.1 v v.length)else bif r.1==2 then Zuo v else bif r.1==3 then r.2.2.2.2.any (fun row=>row==v)else decide (v.getD 0 0<v.getD 1 0)
def Zca (l x:List Int):List Int:=l.map (fun v=>x.getD v.toNat 0)
def Zd5 (m:Zo) (x:List Int):Bool:=m.2.all (fun r=>holdsB r (Zca r.2.1 x))
structure ZE5 (r:ZH) (v:List Int):Prop where
 len:v.length=r.2.1.length
 few:v.length≤1048576
 dig:∀i,0≤v.getD i 0∧v.getD i 0≤3
theorem ZwI {n:Int} {r:ZH} (h:ZfW n r=true):(∀i,i<r.2.1.length→0≤r.2.1.getD i 0∧r.2.1.getD i 0<n)∧1≤r.2.1.length∧Zhg r=true:=by
 unfold ZfW at h
 simp only[Xae,Xaf]at h
 exact⟨fun i hi=>ZKt h.1 hi,h.2.1,h.2.2.2⟩
theorem ZNE {r:ZH} (h:Zhg r=true) (h1:r.1=1):r.2.2.1.length=r.2.1.length∧∀i,-9≤r.2.2.1.getD i 0∧r.2.2.1.getD i 0≤9:=by
 unfold Zhg ZAG at h
 rw[beq_iff_eq.2 h1,cond_true]at h
 simp only[Xae,Xaf,Xar]at h
 refine⟨by omega,fun i=>?_⟩
 rcases Xag i r.2.2.1.length with h2|h2
 ·have:=h.2.2 _ (ZA (d:=0) h2)
  unfold ZqY at this
  simp only[Xae,Xaf]at this
  exact this.2
 ·rw[Xaa,Xaw h2]
  decide
theorem ZIm {r:ZH} (h:Zhg r=true) (h1:r.1≠1) (h2:r.1≠2) (h3:r.1≠3):r.1=4∧r.2.1.length=2:=by
 unfold Zhg at h
 rw[beq_eq_false_iff_ne.2 h1,beq_eq_false_iff_ne.2 h3,beq_eq_false_iff_ne.2 h2,cond_false,cond_false]at h
 by_cases h4:r.1=4
 ·rw[beq_iff_eq.2 h4,cond_true,decide_eq_true_iff]at h
  exact⟨h4,h⟩
 ·rw[beq_eq_false_iff_ne.2 h4,cond_false]at h
  cases h
theorem ZGi {r:ZH} {v:List Int} (h:Zhg r=true) (h1:r.1=1) (hv:ZE5 r v) {f:Int×Int→Option ((Int×Int)⊕Bool)} (hf:(∀a i:Int,f (a,i)=cond (decide (i<(v.length:Int))) (
   rq (0≤i∧i<v.length) <|rq (0≤i∧i<r.2.2.1.length) <|rq (i64 ((r.2.2.1.getD i.toNat 0)*(v.getD i.toNat 0))) <|rq (i64 (a+((r.2.2.1.getD i.toNat 0)*(v.getD i.toNat 0)))) <|rq (i64 (i+(1:Int))) <|
   some (.inl ((a+((r.2.2.1.getD i.toNat 0)*(v.getD i.toNat 0))),(i+(1:Int))))) (some (.inr (decide (r.2.2.2.1≤a)))))∨∀a i:Int,f (a,i)=cond (decide (i<(v.length:Int))) (
   rq (0≤i∧i<r.2.2.1.length) <|rq (0≤i∧i<v.length) <|rq (i64 ((r.2.2.1.getD i.toNat 0)*(v.getD i.toNat 0))) <|rq (i64 (a+((r.2.2.1.getD i.toNat 0)*(v.getD i.toNat 0)))) <|rq (i64 (i+(1:Int))) <|
   some (.inl ((a+((r.2.2.1.getD i.toNat 0)*(v.getD i.toNat 0))),(i+(1:Int))))) (some (.inr (decide (r.2.2.2.1≤a))))) :
  loop f ((0:Int),(0:Int))=some (decide (r.2.2.2.1≤Z1 r.2.2.1 v v.length)):=by
 obtain⟨k1,k2⟩:=ZNE h h1
 have hl:=hv.len
 have hfew:=hv.few
 refine ZK (f:=f) (fun s:Int×Int=>∃i:Nat,s.2=i∧i≤v.length∧s.1=Z1 r.2.2.1 v i) (fun s=>v.length - s.2.toNat) (fun _=>decide (r.2.2.2.1≤Z1 r.2.2.1 v v.length)) ?_ _ ⟨0,rfl,Nat.zero_le _,rfl⟩
 rintro⟨a,s⟩ ⟨i,rfl,hi,ha⟩
 dsimp only at ha ⊢
 subst ha
 have e:=hf.imp (fun q=>q (Z1 r.2.2.1 v i) (i:Int)) (fun q=>q (Z1 r.2.2.1 v i) (i:Int))
 rcases Xag i v.length with h2|h2
 ·left
  have hb:=ZK7 (c:=r.2.2.1) (x:=v) (n:=i) (fun j _=>Zm0 (k2 j) (hv.dig j))
  have hm:=Zm0 (k2 i) (hv.dig i)
  refine⟨(Z1 r.2.2.1 v (i+1),(i:Int)+1),?_,⟨i+1,by simp,by omega,rfl⟩,by (try dsimp only)<;>omega,rfl⟩
  rcases e with e|e
  ·rw[e,Zc (by omega),Zb ⟨by omega,by omega⟩,Zb ⟨by omega,by omega⟩,Xab,Zf (by omega) (by omega),Zf (by omega) (by omega),Zf (by omega) (by omega),Zjh]
  ·rw[e,Zc (by omega),Zb ⟨by omega,by omega⟩,Zb ⟨by omega,by omega⟩,Xab,Zf (by omega) (by omega),Zf (by omega) (by omega),Zf (by omega) (by omega),Zjh]
 ·right
  have:i=v.length:=by omega
  subst this
  rcases e with e|e<;>rw[e,Zd (by omega)]
theorem ZF4 {v:List Int} (hv:v.length≤1048576):loop (Zgc v) (0:Int)=some (Zuo v):=by
 unfold Zuo
 rw[Zeh v.length (ZlC v) false true]
 ·cases (List.range v.length).all (ZlC v)<;>rfl
 ·intro i hi _
  unfold Zgc ZlC
  rw[Zc (by omega),Zb ⟨by omega,by omega⟩,Zb ⟨by omega,by omega⟩,Xab,Zuc _ _ (by rw[XaB];omega),Ze]
  cases (v.take i).any (fun x=>v.getD i 0==x)with
  |true=>rw[ctt,Xbi,cff]
  |false=>rw[cff,Zf (by omega) (by omega),Xbe,ctt]
 ·unfold Zgc
  rw[Zd (by omega)]
theorem ZE2 (v:List Int) (y:Int) {k:Nat} (h:k<v.length):(v.take (k+1)).any (fun x=>y==x)=((v.take k).any (fun x=>y==x)||y==v.getD k 0):=by
 rw[ZnA h,List.any_append]
 simp only[List.any_cons,List.any_nil,Bool.or_false]
theorem ZGV {v:List Int} (hv:v.length≤1048576) {i:Nat} (hi:i<v.length):loop (Zjf v i) (0:Int)=some (bif ZlC v i then .inl ((i:Int)+1)else .inr false):=by
 refine ZK (f:=Zjf v i) (fun s:Int=>∃k:Nat,s=k∧k≤i∧(v.take k).any (fun x=>v.getD i 0==x)=false) (fun s=>i - s.toNat) (fun _=>bif ZlC v i then .inl ((i:Int)+1)else .inr false) ?_ _ ⟨0,rfl,Nat.zero_le _,rfl⟩
 rintro s ⟨k,rfl,hk,ha⟩
 unfold Zjf
 rcases Xag k i with h1|h1
 ·have hs:=ZE2 v (v.getD i 0) (k:=k) (by omega)
  rw[ha,XbC]at hs
  rw[Zc (by omega),Zb ⟨by omega,by omega⟩,Zb ⟨by omega,by omega⟩,Xab,Xab]
  by_cases hq:v.getD k 0=v.getD i 0
  ·right
   have:ZlC v i=false:=by
    unfold ZlC
    rw[beq_iff_eq.2 hq.symm]at hs
    have hm:∃x∈v.take i,(v.getD i 0==x)=true:=by
     obtain⟨x,hx,hx2⟩:=Xbo.1 hs
     exact⟨x,(List.take_subset_take_left v (by omega)) hx,hx2⟩
    rw[Xbo.2 hm,Xbi]
   rw[Zx hq,this,cff]
  ·left
   rw[Zu hq,Zf (by omega) (by omega)]
   rw[beq_eq_false_iff_ne.2 (fun e=>hq e.symm)]at hs
   exact⟨_,rfl,⟨k+1,by simp,by omega,hs⟩,by omega,rfl⟩
 ·right
  have:k=i:=by omega
  subst this
  unfold ZlC
  rw[Zd (by omega),Zf (by omega) (by omega),ha,Xbe,ctt]
theorem ZGU {v:List Int} (hv:v.length≤1048576):loop (Zje v) (0:Int)=some (Zuo v):=by
 unfold Zuo
 rw[Zeh v.length (ZlC v) false true]
 ·cases (List.range v.length).all (ZlC v)<;>rfl
 ·intro i hi _
  unfold Zje
  rw[Zc (by omega),ZGV hv hi]
 ·unfold Zje
  rw[Zd (by omega)]
def ZrT (a b:List Int) (i:Nat):Bool:=a.getD i 0==b.getD i 0
theorem ZAb (a b:List Int):(decide (a.length=b.length)&&(List.range a.length).all (ZrT a b))=(a==b):=by
 rw[Xbq]
 simp only[Xae,Xaf,Xar,Xax,beq_iff_eq,ZrT]
 constructor
 ·rintro⟨h1,h2⟩
  apply XbP h1
  intro j j1 j2
  have:=h2 j j1
  rwa [Xaa,Xac j1,Xaa,Xac j2]at this
 ·rintro rfl
  exact⟨rfl,fun _ _=>rfl⟩
theorem ZFn (a b:List Int) (ha:a.length≤1048576):Zk4 a b=some (a==b):=by
 unfold Zk4
 rw[←ZAb]
 by_cases hl:a.length=b.length
 ·rw[Zdh (by omega),Xad hl,Xaj,Zeh a.length (ZrT a b) false true]
  ·cases (List.range a.length).all (ZrT a b)<;>rfl
  ·intro i hi _
   unfold Zih ZrT
   rw[Zc (by omega),Zb ⟨by omega,by omega⟩,Zb ⟨by omega,by omega⟩,Xab]
   by_cases hq:a.getD i 0=b.getD i 0
   ·rw[Zdh hq,Zf (by omega) (by omega),beq_iff_eq.2 hq,ctt]
   ·rw[Zd9 hq,beq_eq_false_iff_ne.2 hq,cff]
  ·unfold Zih
   rw[Zd (by omega)]
 ·rw[Zd9 (by omega),decide_eq_false hl,Xai]
theorem ZDk (a b:List Int) (ha:a.length≤1048576):Zq6 a b=some (a==b):=by
 unfold Zq6
 rw[←ZAb]
 by_cases hl:a.length=b.length
 ·rw[Zdh (by omega),Xad hl,Xaj,Zeh a.length (ZrT a b) false true]
  ·cases (List.range a.length).all (ZrT a b)<;>rfl
  ·intro i hi _
   unfold Znx ZrT
   rw[Zc (by omega),Zb ⟨by omega,by omega⟩,Zb ⟨by omega,by omega⟩,Xab]
   by_cases hq:a.getD i 0=b.getD i 0
   ·rw[Zdh hq,Zf (by omega) (by omega),beq_iff_eq.2 hq,ctt]
   ·rw[Zd9 hq,beq_eq_false_iff_ne.2 hq,cff]
  ·unfold Znx
   rw[Zd (by omega)]
 ·rw[Zd9 (by omega),decide_eq_false hl,Xai]
theorem ZrK {r:ZH} {v:List Int} (hs:Zfi r) (h:Zhg r=true) (hv:ZE5 r v):Zi4 r v=some (holdsB r v):=by
 obtain⟨s1,s2,s3,s4⟩:=hs
 unfold Zi4 holdsB
 by_cases h1:r.1=1
 ·rw[Zx h1,beq_iff_eq.2 h1,ctt,ZGi h h1 hv (f:=ZmU r v) (Or.inl (fun _ _=>rfl))]
 ·rw[Zu h1,beq_eq_false_iff_ne.2 h1,cff]
  by_cases h2:r.1=2
  ·rw[Zx h2,beq_iff_eq.2 h2,ctt,ZF4 hv.few]
  ·rw[Zu h2,beq_eq_false_iff_ne.2 h2,cff]
   by_cases h3:r.1=3
   ·rw[Zx h3,beq_iff_eq.2 h3,ctt]
    unfold Zc0 Zdv
    obtain⟨q,hq1,hq2⟩:=Zhy (f:=Zbn r.2.2.2.2 v) r.2.2.2.2 [] (fun row=>row==v) (fun i hi=>by
     have hx:=s4 _ (ZA (l:=r.2.2.2.2) (i:=i) (d:=[]) hi)
     unfold Zbn ZnR
     rw[Zc (by omega),Zb ⟨by omega,by omega⟩,Xab,ZFn _ _ hx,Ze,Ze]
     cases r.2.2.2.2.getD i []==v with
     |true=>rw[ctt,ctt]
     |false=>rw[cff,cff,Zf (by omega) (by omega)]) (by
     unfold Zbn
     rw[Zd (by omega)])
    rw[hq1,Ze,Ze,hq2]
   ·obtain⟨_,k2⟩:=ZIm h h1 h2 h3
    have hl:=hv.len
    rw[Zu h3,beq_eq_false_iff_ne.2 h3,cff,Zb ⟨by omega,by omega⟩,Zb ⟨by omega,by omega⟩]
    rfl
theorem ZE1 {r:ZH} {v:List Int} (hs:Zfi r) (h:Zhg r=true) (hv:ZE5 r v):Zmk r v=some (holdsB r v):=by
 obtain⟨s1,s2,s3,s4⟩:=hs
 unfold Zmk holdsB
 by_cases h1:r.1=1
 ·rw[Zx h1,beq_iff_eq.2 h1,ctt,ZGi h h1 hv (f:=Zqc r v) (Or.inr (fun _ _=>rfl))]
 ·rw[Zu h1,beq_eq_false_iff_ne.2 h1,cff]
  by_cases h2:r.1=2
  ·rw[Zx h2,beq_iff_eq.2 h2,ctt,ZGU hv.few]
  ·rw[Zu h2,beq_eq_false_iff_ne.2 h2,cff]
   by_cases h3:r.1=3
   ·rw[Zu (by omega),beq_iff_eq.2 h3,ctt,Zeh r.2.2.2.2.length (fun i=>!(r.2.2.2.2.getD i []==v)) true false]
    ·rw[Zky r.2.2.2.2 (fun row=>!(row==v)) [],Xa3]
     cases r.2.2.2.2.all (fun row=>!(row==v))<;>rfl
    ·intro i hi _
     have hx:=s4 _ (ZA (l:=r.2.2.2.2) (i:=i) (d:=[]) hi)
     unfold Zml
     rw[Zc (by omega),Zb ⟨by omega,by omega⟩,Xab,ZDk _ _ hx,Ze]
     cases r.2.2.2.2.getD i []==v with
     |true=>rw[ctt,Xbi,cff]
     |false=>rw[cff,Zf (by omega) (by omega),Xbe,ctt]
    ·unfold Zml
     rw[Zd (by omega)]
   ·obtain⟨k1,k2⟩:=ZIm h h1 h2 h3
    have hl:=hv.len
    rw[Zx k1,beq_eq_false_iff_ne.2 h3,cff,Zb ⟨by omega,by omega⟩,Zb ⟨by omega,by omega⟩]
    rfl
theorem ZAP {m:Zo} {r:ZH} {x:List Int} (hm:Zy m=true) (hs:Zfi r) (hx:ZJ m x=true) (hr:ZfW m.1.length r=true):ZE5 r (Zca r.2.1 x):=by
 obtain⟨x1,x2⟩:=Zv5 hx
 obtain⟨r1,r2,r3⟩:=ZwI hr
 refine⟨by unfold Zca;rw[Xak],by unfold Zca;rw[Xak];exact hs.1,fun i=>?_⟩
 rcases Xag i r.2.1.length with h1|h1
 ·unfold Zca
  rw[ZmR r.2.1 (fun v=>x.getD v.toNat 0) i 0 0 h1]
  have q1:=r1 i h1
  have q2:=x2 (r.2.1.getD i 0).toNat (by omega)
  have q3:=ZC8 hm (i:=(r.2.1.getD i 0).toNat) (by omega)
  omega
 ·rw[Xaa,Xaw (by unfold Zca;rw[Xak];exact h1)]
  decide
theorem ZBy {m:Zo} {r:ZH} {x:List Int} (hm:Zy m=true) (hs:Zfi r) (hx:ZJ m x=true) (hr:ZfW m.1.length r=true):ZpW r x=some (holdsB r (Zca r.2.1 x)):=by
 obtain⟨x1,x2⟩:=Zv5 hx
 obtain⟨r1,r2,r3⟩:=ZwI hr
 have hs1:=hs.1
 unfold ZpW
 refine ZK (f:=Zmf r x) (fun s:Int×List Int=>∃i:Nat,s.1=i∧i≤r.2.1.length∧s.2=Zca (r.2.1.take i) x) (fun s=>r.2.1.length - s.1.toNat) (fun _=>holdsB r (Zca r.2.1 x)) ?_ _ ⟨0,rfl,Nat.zero_le _,rfl⟩
 rintro⟨s,v⟩ ⟨i,rfl,hi,rfl⟩
 dsimp only
 unfold Zmf
 dsimp only
 rcases Xag i r.2.1.length with h1|h1
 ·left
  have q1:=r1 i h1
  have hl:(Zca (r.2.1.take i) x).length=i:=by unfold Zca;rw[Xak,XaB];omega
  rw[Zc (by omega),Zb ⟨by omega,by omega⟩,Xab,Zb ⟨by omega,by omega⟩,Zb (by rw[hl,Xav];simp only[Zl];omega),Zf (by omega) (by omega)]
  refine⟨_,rfl,⟨i+1,by simp,by omega,?_⟩,by (try dsimp only)<;>omega,rfl⟩
  unfold Zca
  rw[ZnA h1,Xa1]
  rfl
 ·right
  have:i=r.2.1.length:=by omega
  subst this
  unfold ZpX
  rw[Zd (by omega),XaC,ZrK hs r3 (ZAP hm hs hx hr),Ze]
  rfl
theorem ZCb {m:Zo} {r:ZH} {x:List Int} (hm:Zy m=true) (hs:Zfi r) (hx:ZJ m x=true) (hr:ZfW m.1.length r=true):Zqb r x=some (holdsB r (Zca r.2.1 x)):=by
 obtain⟨x1,x2⟩:=Zv5 hx
 obtain⟨r1,r2,r3⟩:=ZwI hr
 have hs1:=hs.1
 unfold Zqb
 refine ZK (f:=Zmm r x) (fun s:Int×List Int=>∃i:Nat,s.1=i∧i≤r.2.1.length∧s.2=Zca (r.2.1.take i) x) (fun s=>r.2.1.length - s.1.toNat) (fun _=>holdsB r (Zca r.2.1 x)) ?_ _ ⟨0,rfl,Nat.zero_le _,rfl⟩
 rintro⟨s,v⟩ ⟨i,rfl,hi,rfl⟩
 dsimp only
 unfold Zmm
 dsimp only
 rcases Xag i r.2.1.length with h1|h1
 ·left
  have q1:=r1 i h1
  have hl:(Zca (r.2.1.take i) x).length=i:=by unfold Zca;rw[Xak,XaB];omega
  rw[Zc (by omega),Zb ⟨by omega,by omega⟩,Xab,Zb ⟨by omega,by omega⟩,Zb (by rw[hl,Xav];simp only[Zl];omega),Zf (by omega) (by omega)]
  refine⟨_,rfl,⟨i+1,by simp,by omega,?_⟩,by (try dsimp only)<;>omega,rfl⟩
  unfold Zca
  rw[ZnA h1,Xa1]
  rfl
 ·right
  have:i=r.2.1.length:=by omega
  subst this
  rw[Zd (by omega),XaC,ZE1 hs r3 (ZAP hm hs hx hr)]
  rfl
theorem Zww {m:Zo} (hm:Zy m=true):∀r∈m.2,ZfW m.1.length r=true:=by
 unfold Zy at hm
 simp only[Xae,Xar]at hm
 exact hm.2.2.2.2
theorem Zvc {m:Zo} {x:List Int} (h:Zek m) (hm:Zy m=true) (hx:ZJ m x=true):ZgM m x=some (Zd5 m x):=by
 have h2:=h.2.1
 unfold ZgM Zcr ZcE Zd5
 obtain⟨q,hq1,hq2⟩:=Zhy (f:=Z7 m.2 x) m.2 (0,[],[],0,[]) (fun r=>!holdsB r (Zca r.2.1 x)) (fun i hi=>by
  have hr:=ZA (l:=m.2) (i:=i) (d:=(0,[],[],0,[])) hi
  unfold Z7 ZlX
  rw[Zc (by omega),Zb ⟨by omega,by omega⟩,Xab,ZBy hm (h.2.2 _ hr) hx (Zww hm _ hr),Ze,Ze]
  cases holdsB (m.2.getD i (0,[],[],0,[])) (Zca (m.2.getD i (0,[],[],0,[])).2.1 x)with
  |true=>rw[Xbi,cff,cff,Zf (by omega) (by omega)]
  |false=>rw[Xbe,ctt,ctt]) (by
  unfold Z7
  rw[Zd (by omega)])
 rw[hq1,Ze,Ze,hq2,Xa3]
 simp only[XbI]
end Go.AE.Y
namespace Go.AE.Y
open Go Go.AE
def Zfh (s:List Int):Nat→List Int→Bool×List Int
 |0,x=>(false,x)
 |n+1,x=>bif decide (x.getD n 0<s.getD n 0)then(true,x.set n (x.getD n 0+1))else Zfh s n (x.set n 0)
def Zm1 (x:List Int):Nat→Int
 |0=>0
 |n+1=>4*Zm1 x n+x.getD n 0
def Dig (s x:List Int):Prop:=∀i,0≤x.getD i 0∧x.getD i 0≤s.getD i 0
theorem ZwF (s:List Int) (n:Nat) (x:List Int):Zfh s (n+1) x=bif decide (x.getD n 0<s.getD n 0)then(true,x.set n (x.getD n 0+1))else Zfh s n (x.set n 0):=rfl
theorem Zzr (s:List Int):∀n x,(Zfh s n x).2.length=x.length
 |0,_=>rfl
 |n+1,x=>by
  unfold Zfh
  cases decide (x.getD n 0<s.getD n 0)with
  |true=>rw[ctt];exact Xam
  |false=>rw[cff,Zzr s n];exact Xam
theorem Zu9 {s x:List Int} (h:Dig s x) {n:Nat} {v:Int} (h0:0≤v) (h1:v≤s.getD n 0):Dig s (x.set n v):=by
 intro i
 rw[Zjp]
 by_cases hi:n=i∧n<x.length
 ·rw[if_pos hi,←hi.1];exact⟨h0,h1⟩
 ·rw[if_neg hi];exact h i
theorem ZIv {s:List Int}:∀n x,Dig s x→Dig s (Zfh s n x).2
 |0,_,h=>h
 |n+1,x,h=>by
  have hn:=h n
  unfold Zfh
  cases hq:decide (x.getD n 0<s.getD n 0)with
  |true=>
   have:=of_decide_eq_true hq
   rw[ctt]
   exact Zu9 h (by omega) (by omega)
  |false=>
   rw[cff]
   exact ZIv n _ (Zu9 h (by omega) (by omega))
theorem ZGt {s:List Int}:∀n x,n≤x.length→(Zfh s n x).1=true→∃k,k<n∧(Zfh s n x).2.getD k 0=x.getD k 0+1∧(∀j,j<k→(Zfh s n x).2.getD j 0=x.getD j 0)∧∀j,k<j→j<n→(Zfh s n x).2.getD j 0=0
 |0,_,_,h=>by cases h
 |n+1,x,hl,h=>by
  unfold Zfh at h ⊢
  cases hq:decide (x.getD n 0<s.getD n 0)with
  |true=>
   rw[ctt]
   refine⟨n,by omega,ZcT (by omega),fun j hj=>ZV (by omega),fun j h1 h2=>by omega⟩
  |false=>
   rw[hq,cff]at h
   rw[cff]
   obtain⟨k,k1,k2,k3,k4⟩:=ZGt n (x.set n 0) (by rw[Xam];omega) h
   have hn:(Zfh s n (x.set n 0)).2.getD n 0=0:=by
    have:∀n' y,n'≤n→(Zfh s n' y).2.getD n 0=y.getD n 0:=by
     intro n'
     induction n' with
     |zero=>intro y _;rfl
     |succ a ih=>
      intro y ha
      unfold Zfh
      cases decide (y.getD a 0<s.getD a 0)with
      |true=>rw[ctt];exact ZV (by omega)
      |false=>rw[cff,ih _ (by omega)];exact ZV (by omega)
    rw[this n _ (Nat.le_refl _)]
    exact ZcT (by omega)
   refine⟨k,by omega,by rw[k2,ZV (by omega)],fun j hj=>by rw[k3 j hj,ZV (by omega)],fun j h1 h2=>?_⟩
   rcases Xag j n with h3|h3
   ·exact k4 j h1 h3
   ·rw[show j=n by omega];exact hn
theorem ZNG {x y:List Int} {k:Nat} (h1:y.getD k 0=x.getD k 0+1) (h2:∀j,j<k→y.getD j 0=x.getD j 0) (h3:∀i,x.getD i 0≤3) {n:Nat} (h4:∀j,k<j→j<n→y.getD j 0=0) :
  (∀j,j≤k→Zm1 y j=Zm1 x j)∧(k<n→Zm1 x n+1≤Zm1 y n):=by
 have e:∀j,j≤k→Zm1 y j=Zm1 x j:=by
  intro j
  induction j with
  |zero=>intro _;rfl
  |succ j ih=>
   intro hj
   unfold Zm1
   rw[ih (by omega),h2 j (by omega)]
 refine⟨e,?_⟩
 induction n with
 |zero=>intro h;omega
 |succ n ih=>
  intro hk
  unfold Zm1
  rcases Xag k n with h5|h5
  ·have:=ih (fun j a b=>h4 j a (by omega)) h5
   have:=h4 n h5 (by omega)
   have:=h3 n
   omega
  ·have:k=n:=by omega
   subst this
   rw[e k (Nat.le_refl _),h1]
   omega
theorem ZEb {x:List Int} (h:∀i,0≤x.getD i 0∧x.getD i 0≤3):∀n:Nat,0≤Zm1 x n∧Zm1 x n+1≤((4^n:Nat):Int)
 |0=>⟨Xat _,by show (0:Int)+1≤((4^0:Nat):Int);decide⟩
 |n+1=>by
  have ih:=ZEb h n
  have:=h n
  have e:((4^(n+1):Nat):Int)=4*((4^n:Nat):Int):=by rw[Nat.pow_succ];omega
  rw[e]
  unfold Zm1
  omega
theorem Zez {m:Zo} {x:List Int} (hx:ZJ m x=true):x.length=m.1.length∧Dig m.1 x:=by
 obtain⟨x1,x2⟩:=Zv5 hx
 refine⟨x1,fun i=>?_⟩
 rcases Xag i x.length with h|h
 ·exact x2 i h
 ·rw[Xaa,Xaw h,Xaa,Xaw (by omega)]
  decide
theorem ZDU {m:Zo} {x:List Int} (hl:x.length=m.1.length) (h:Dig m.1 x):ZJ m x=true:=by
 unfold ZJ cellAt
 simp only[Xae,Xaf,Xar]
 exact⟨hl,fun i _=>h i⟩
theorem ZrH {m:Zo} {x:List Int} (hm:Zy m=true) (h:Dig m.1 x):∀i,0≤x.getD i 0∧x.getD i 0≤3:=by
 intro i
 have h1:=h i
 rcases Xag i m.1.length with h2|h2
 ·have:=ZC8 hm h2
  omega
 ·have e:m.1.getD i 0=0:=by rw[Xaa,Xaw h2];rfl
  omega
def Z8 (m:Zo) (x:List Int):Bool×List Int:=Zfh m.1 x.length x
def muF (x:List Int):Nat:=1024 - (Zm1 x x.length).toNat
theorem ZhF {m:Zo} {x:List Int} (hx:ZJ m x=true):ZJ m (Z8 m x).2=true:=by
 obtain⟨x1,x2⟩:=Zez hx
 exact ZDU (by unfold Z8;rw[Zzr];exact x1) (ZIv _ _ x2)
theorem Zp5 {m:Zo} {x:List Int} (hm:Zy m=true) (hx:ZJ m x=true):1≤muF x∧0≤Zm1 x x.length∧Zm1 x x.length≤1023:=by
 obtain⟨x1,x2⟩:=Zez hx
 obtain⟨m1,m2,m3⟩:=ZcN hm
 have hb:=ZEb (ZrH hm x2) x.length
 have h4:4^x.length≤4^5:=Nat.pow_le_pow_right (by decide) (by omega)
 have h5:(4:Nat)^5=1024:=by decide
 unfold muF
 omega
theorem Zpw {m:Zo} {x:List Int} (hm:Zy m=true) (hx:ZJ m x=true) (h:(Z8 m x).1=true):muF (Z8 m x).2<muF x:=by
 obtain⟨x1,x2⟩:=Zez hx
 have hp:=Zp5 hm hx
 have hp':=Zp5 hm (ZhF hx)
 have hl:(Z8 m x).2.length=x.length:=Zzr _ _ _
 obtain⟨k,k1,k2,k3,k4⟩:=ZGt (s:=m.1) x.length x (Nat.le_refl _) h
 have:=(ZNG k2 k3 (fun i=>(ZrH hm x2 i).2) k4).2 k1
 unfold muF at *
 rw[hl]at hp' ⊢
 have e:Zm1 (Z8 m x).2 x.length=Zm1 (Zfh m.1 x.length x).2 x.length:=rfl
 omega
def ZbN (m:Zo) (c b x:List Int):List Int:=bif Zd5 m x&&(b.isEmpty||decide (Z1 c x x.length<Z1 c b b.length))then x else b
def Zlt (m:Zo) (c:List Int):Nat→List Int→List Int→List Int
 |0,x,b=>ZbN m c b x
 |n+1,x,b=>bif (Z8 m x).1 then Zlt m c n (Z8 m x).2 (ZbN m c b x)else ZbN m c b x
theorem ZEp {m:Zo} {c:List Int} (hm:Zy m=true):∀n n' x b,ZJ m x=true→muF x≤n→muF x≤n'→Zlt m c n x b=Zlt m c n' x b
 |0,_,x,_,hx,h,_=>by have:=(Zp5 hm hx).1;omega
 |_+1,0,x,_,hx,_,h=>by have:=(Zp5 hm hx).1;omega
 |n+1,n'+1,x,b,hx,h,h'=>by
  unfold Zlt
  cases hq:(Z8 m x).1 with
  |false=>rfl
  |true=>
   have:=Zpw hm hx hq
   rw[ctt,ctt]
   exact ZEp hm n n' _ _ (ZhF hx) (by omega) (by omega)
def Zgh (m:Zo) (c:List Int):List Int:=Zlt m c 1024 (List.replicate m.1.length 0) []
def ZFc (m:Zo) (c:List Int):Bool×List Int:=bif Zy m&&Zgi m c then(!(Zgh m c).isEmpty,Zgh m c)else(false,[])
theorem ZDl {m:Zo} {x:List Int} (hm:Zy m=true) (hx:ZJ m x=true):Zop m x=some (Z8 m x):=by
 obtain⟨x1,x2⟩:=Zez hx
 obtain⟨m1,m2,m3⟩:=ZcN hm
 unfold Zop Z8
 rw[Xau,Zb (by simp only[Xap,Zl];omega),Zf (by omega) (by omega)]
 refine ZK (f:=Zny m) (fun s:Int×List Int=>∃n:Nat,s.1=(n:Int) - 1∧n≤x.length∧s.2.length=x.length∧Dig m.1 s.2) (fun s=>(s.1+1).toNat) (fun s=>Zfh m.1 (s.1+1).toNat s.2) ?_ _ ⟨x.length,rfl,Nat.le_refl _,rfl,x2⟩ |>.trans ?_
 ·rintro⟨s,y⟩ ⟨n,hs,hn,hl,hd⟩
  dsimp only at hs hl hd ⊢
  subst hs
  unfold Zny
  dsimp only
  cases n with
  |zero=>
   right
   rw[Zd (by omega)]
   rfl
  |succ n=>
   have e:(((n+1:Nat):Int) - 1).toNat=n:=by omega
   have e':(((n+1:Nat):Int) - 1+1).toNat=n+1:=by omega
   have hz:=ZrH hm hd n
   rw[Zc (by omega),Zb ⟨by omega,by omega⟩,Zb ⟨by omega,by omega⟩,e,e',ZwF]
   cases hq:decide (y.getD n 0<m.1.getD n 0)with
   |true=>
    right
    rw[ctt,ctt,Zb ⟨by omega,by omega⟩,Zf (by omega) (by omega),Zb ⟨by omega,by omega⟩]
   |false=>
    left
    rw[cff,cff,Zb ⟨by omega,by omega⟩,Zf (by omega) (by omega)]
    refine⟨_,rfl,⟨n,by (try dsimp only)<;>omega,by omega,by (try dsimp only)<;>(rw[Xam];exact hl),Zu9 hd (by omega) (by have:=hd n;omega)⟩,by (try dsimp only)<;>omega,?_⟩
    dsimp only
    rw[show (((n+1:Nat):Int) - 1 - 1+1).toNat=n by omega]
 ·dsimp only
  rw[show ((x.length:Int) - 1+1).toNat=x.length by omega]
theorem ZF6 {m:Zo} {x:List Int} (hm:Zy m=true) (hx:ZJ m x=true) (r:Bool×List Int) :
  loop (ZbL m.1 r) (((x.length:Int) - 1),x)=some (bif (Z8 m x).1 then .inl ((Z8 m x).2,r.2)else .inr r.2):=by
 obtain⟨x1,x2⟩:=Zez hx
 obtain⟨m1,m2,m3⟩:=ZcN hm
 unfold Z8
 refine ZK (f:=ZbL m.1 r) (fun s:Int×List Int=>∃n:Nat,s.1=(n:Int) - 1∧n≤x.length∧s.2.length=x.length∧Dig m.1 s.2) (fun s=>(s.1+1).toNat)
  (fun s=>bif (Zfh m.1 (s.1+1).toNat s.2).1 then .inl ((Zfh m.1 (s.1+1).toNat s.2).2,r.2)else .inr r.2) ?_ _ ⟨x.length,rfl,Nat.le_refl _,rfl,x2⟩ |>.trans ?_
 ·rintro⟨s,y⟩ ⟨n,hs,hn,hl,hd⟩
  dsimp only at hs hl hd ⊢
  subst hs
  unfold ZbL Zco
  dsimp only
  cases n with
  |zero=>
   right
   rw[Zd (by omega),Zc (by omega)]
   rfl
  |succ n=>
   have e:(((n+1:Nat):Int) - 1).toNat=n:=by omega
   have e':(((n+1:Nat):Int) - 1+1).toNat=n+1:=by omega
   have hz:=ZrH hm hd n
   have hdn:=hd n
   rw[Zc (by omega),Zb ⟨by omega,by omega⟩,Zb ⟨by omega,by omega⟩,e,e',ZwF]
   by_cases hq:y.getD n 0=m.1.getD n 0
   ·left
    rw[Zx hq,decide_eq_false (show ¬y.getD n 0<m.1.getD n 0 by omega),cff,Zb ⟨by omega,by omega⟩,Zf (by omega) (by omega)]
    refine⟨_,rfl,⟨n,by (try dsimp only)<;>omega,by omega,by (try dsimp only)<;>(rw[Xam];exact hl),Zu9 hd (by omega) (by omega)⟩,by (try dsimp only)<;>omega,?_⟩
    dsimp only
    rw[show (((n+1:Nat):Int) - 1 - 1+1).toNat=n by omega]
   ·right
    rw[Zu hq,Xad (show y.getD n 0<m.1.getD n 0 by omega),ctt,Zd (by omega),Zb ⟨by omega,by omega⟩,Zf (by omega) (by omega),Zb ⟨by omega,by omega⟩]
    rfl
 ·dsimp only
  rw[show ((x.length:Int) - 1+1).toNat=x.length by omega]
theorem Zub {s:List Int} (h:s.length≤1048576):Zbu s=some s:=by
 unfold Zbu
 refine ZyK (fun e=>by rw[e]) ?_
 rw[Zb (by simp only[Xap,Zl];omega),Xau]
def ZA6 (m:Zo) (b:List Int):Prop:=b=[]∨ZJ m b=true
theorem ZKc {m:Zo} {c b x:List Int} (hb:ZA6 m b) (hx:ZJ m x=true):ZA6 m (ZbN m c b x):=by
 unfold ZbN
 cases Zd5 m x&&(b.isEmpty||decide (Z1 c x x.length<Z1 c b b.length))with
 |true=>exact Or.inr hx
 |false=>exact hb
theorem ZGa {m:Zo} {c b x:List Int} (h:Zek m) (hm:Zy m=true) (hc:Zgi m c=true) (hx:ZJ m x=true) (hb:ZA6 m b):Zen m c x b=some (true,ZbN m c b x):=by
 obtain⟨t1,t2,t3,t4⟩:=ZwT hm hc hx
 obtain⟨m1,m2,m3⟩:=ZcN hm
 have hne:x≠[]:=by rintro rfl;simp at t1;omega
 unfold Zen ZbN
 rw[Zvc h hm hx,Ze]
 cases Zd5 m x with
 |false=>rw[cff,Xai,cff]
 |true=>
  rw[ctt,Xaj]
  rcases hb with rfl|hb
  ·rw[show ([]:List Int).isEmpty=true from rfl,ctt,XbQ,ctt,Zub (by omega),Ze,Zb hne]
  ·obtain⟨u1,u2,u3,u4⟩:=ZwT hm hc hb
   have hbe:b.isEmpty=false:=by
    cases b with
    |nil=>simp at u1;omega
    |cons y z=>rfl
   rw[hbe,cff,XbC,Zi6 (by omega) (by omega) t4,Ze,Zi6 (by omega) (by omega) u4,Ze]
   cases decide (Z1 c x x.length<Z1 c b b.length)with
   |true=>rw[ctt,ctt,Zub (by omega),Ze,Zb hne]
   |false=>rw[cff,cff]
theorem ZnC {m:Zo} (hm:Zy m=true):ZJ m (List.replicate m.1.length 0)=true:=by
 refine ZDU XaG (fun i=>?_)
 have e:(List.replicate m.1.length (0:Int)).getD i 0=0:=by
  rw[Xaa]
  rcases Xag i m.1.length with h|h
  ·rw[XaO h];rfl
  ·rw[Xaw (by rw[XaG];exact h)];rfl
 rw[e]
 rcases Xag i m.1.length with h|h
 ·have:=ZC8 hm h
  omega
 ·rw[Xaa,Xaw h]
  decide
theorem ZLb {m:Zo} {c x b:List Int} (hm:Zy m=true) (hx:ZJ m x=true) (hq:(Z8 m x).1=true):Zlt m c 1024 (Z8 m x).2 (ZbN m c b x)=Zlt m c 1024 x b:=by
 have h1:Zlt m c 1024 x b=bif (Z8 m x).1 then Zlt m c 1023 (Z8 m x).2 (ZbN m c b x)else ZbN m c b x:=rfl
 have h2:=Zpw hm hx hq
 have h3:muF x≤1024:=by unfold muF;omega
 rw[h1,hq,ctt]
 exact ZEp hm _ _ _ _ (ZhF hx) (by omega) (by omega)
theorem ZLa {m:Zo} {c x b:List Int} (hq:(Z8 m x).1=false):Zlt m c 1024 x b=ZbN m c b x:=by
 have h1:Zlt m c 1024 x b=bif (Z8 m x).1 then Zlt m c 1023 (Z8 m x).2 (ZbN m c b x)else ZbN m c b x:=rfl
 rw[h1,hq,cff]
theorem Zvb (m:Zo) (c:List Int) (h:Zek m) (hc:c.length≤1048576):Zga m c=some (ZFc m c):=by
 unfold Zga ZFc
 rw[Zgb m h,Ze]
 cases hm:Zy m with
 |false=>rw[cnf,Xai,cff]
 |true=>
  obtain⟨m1,m2,m3⟩:=ZcN hm
  rw[cnt,Xaj,Zfz m c hc,Ze]
  cases ho:Zgi m c with
  |false=>rw[cnf,cff]
  |true=>
   have hz:=ZnC hm
   rw[cnt,ctt,Zb ⟨by omega,by simp only[Zl];omega,rfl⟩,Xab]
   have key:ZcK m.1 (List.replicate m.1.length 0) m c=some (Zgh m c):=by
    unfold ZcK Zgh
    rw[Zub (by rw[XaG];omega),Ze]
    refine ZK (f:=Zcp m.1 m c) (fun s:List Int×List Int=>ZJ m s.1=true∧ZA6 m s.2) (fun s=>muF s.1) (fun s=>Zlt m c 1024 s.1 s.2) ?_ _ ⟨hz,Or.inl rfl⟩
    rintro⟨x,b⟩ ⟨hx,hb⟩
    dsimp only at hx hb ⊢
    obtain⟨x1,x2⟩:=Zez hx
    unfold Zcp
    dsimp only
    rw[ZGa h hm ho hx hb,Ze,ctt,Zf (by omega) (by omega),ZF6 hm hx]
    cases hq:(Z8 m x).1 with
    |true=>
     left
     exact⟨_,rfl,⟨ZhF hx,ZKc hb hx⟩,Zpw hm hx hq,ZLb hm hx hq⟩
    |false=>
     right
     rw[cff,ZLa hq]
   rw[key,Ze]
   rfl
end Go.AE.Y
namespace Go.AE.Y
open Go Go.AE
def LtL (n:Nat) (x y:List Int):Prop:=∃k,k<n∧x.getD k 0<y.getD k 0∧∀j,j<k→x.getD j 0=y.getD j 0
theorem LtL.trans {n:Nat} {x y z:List Int}:LtL n x y→LtL n y z→LtL n x z:=by
 rintro⟨a,a1,a2,a3⟩ ⟨b,b1,b2,b3⟩
 rcases Xag a b with h|h
 ·exact⟨a,a1,by rw[←b3 a h];exact a2,fun j hj=>by rw[a3 j hj,b3 j (by omega)]⟩
 ·rcases Xag b a with h'|h'
  ·exact⟨b,b1,by rw[a3 b h'];exact b2,fun j hj=>by rw[a3 j (by omega),b3 j hj]⟩
  ·have:a=b:=by omega
   subst this
   exact⟨a,a1,by omega,fun j hj=>by rw[a3 j hj,b3 j hj]⟩
theorem Zwh {x y:List Int}:∀n,(∀i,i<n→x.getD i 0≤y.getD i 0)→(∀i,i<n→x.getD i 0=y.getD i 0)∨LtL n x y
 |0,_=>Or.inl (fun i hi=>by omega)
 |n+1,h=>by
  rcases Zwh n (fun i hi=>h i (by omega))with e|⟨k,k1,k2,k3⟩
  ·have hn:=h n (by omega)
   by_cases q:x.getD n 0=y.getD n 0
   ·left
    intro i hi
    rcases Xag i n with h2|h2
    ·exact e i h2
    ·rw[show i=n by omega];exact q
   ·right
    exact⟨n,by omega,by omega,e⟩
  ·exact Or.inr ⟨k,by omega,k2,k3⟩
theorem Zul {x y:List Int} (hl:x.length=y.length) (h:∀i,i<x.length→x.getD i 0=y.getD i 0):x=y:=by
 apply XbP hl
 intro i h1 h2
 have:=h i h1
 rwa [Xaa,Xaa,Xac h1,Xac h2]at this
theorem ZyL {s:List Int}:∀n x,n≤x.length→((Zfh s n x).1=false∧∀j,j<n→s.getD j 0≤x.getD j 0)∨((Zfh s n x).1=true∧∃k,k<n∧(Zfh s n x).2.getD k 0=x.getD k 0+1∧(∀j,j<k→(Zfh s n x).2.getD j 0=x.getD j 0)∧(∀j,n≤j→(Zfh s n x).2.getD j 0=x.getD j 0)∧∀j,k<j→j<n→(Zfh s n x).2.getD j 0=0∧s.getD j 0≤x.getD j 0)
 |0,_,_=>Or.inl ⟨rfl,fun j hj=>by omega⟩
 |n+1,x,hl=>by
  rw[ZwF]
  cases hq:decide (x.getD n 0<s.getD n 0)with
  |true=>
   rw[ctt]
   right
   exact⟨rfl,n,by omega,ZcT (by omega),fun j hj=>ZV (by omega),fun j hj=>ZV (by omega),fun j h1 h2=>by omega⟩
  |false=>
   rw[cff]
   have hq':=of_decide_eq_false hq
   rcases ZyL n (x.set n 0) (by rw[Xam];omega)with⟨h1,h2⟩|⟨h1,k,k1,k2,k3,k4,k5⟩
   ·left
    refine⟨h1,fun j hj=>?_⟩
    rcases Xag j n with h3|h3
    ·have:=h2 j h3
     rwa [ZV (by omega)]at this
    ·rw[show j=n by omega];omega
   ·right
    refine⟨h1,k,by omega,by rw[k2,ZV (by omega)],fun j hj=>by rw[k3 j hj,ZV (by omega)],fun j hj=>by rw[k4 j (by omega),ZV (by omega)],fun j h3 h4=>?_⟩
    rcases Xag j n with h5|h5
    ·have:=k5 j h3 h5
     rwa [ZV (by omega)]at this
    ·have:j=n:=by omega
     subst this
     exact⟨by rw[k4 j (Nat.le_refl _)];exact ZcT (by omega),by omega⟩
theorem Zzq {m:Zo} {x:List Int} (hx:ZJ m x=true) (h:(Z8 m x).1=true):LtL m.1.length x (Z8 m x).2:=by
 obtain⟨x1,_⟩:=Zez hx
 unfold Z8 at h ⊢
 rcases ZyL (s:=m.1) x.length x (Nat.le_refl _)with⟨h1,_⟩|⟨_,k,k1,k2,k3,_⟩
 ·rw[h1]at h;cases h
 ·exact⟨k,by omega,by rw[k2];omega,fun j hj=>(k3 j hj).symm⟩
theorem ZNd {m:Zo} {x y:List Int} (hx:ZJ m x=true) (hy:ZJ m y=true) (h:LtL m.1.length x y):(Z8 m x).1=true∧((Z8 m x).2=y∨LtL m.1.length (Z8 m x).2 y):=by
 obtain⟨x1,x2⟩:=Zez hx
 obtain⟨y1,y2⟩:=Zez hy
 obtain⟨a,a1,a2,a3⟩:=h
 have hl:(Z8 m x).2.length=x.length:=Zzr _ _ _
 unfold Z8 at hl ⊢
 have hya:=y2 a
 rcases ZyL (s:=m.1) x.length x (Nat.le_refl _)with⟨h1,h2⟩|⟨h1,k,k1,k2,k3,k4,k5⟩
 ·have:=h2 a (by omega)
  omega
 ·refine⟨h1,?_⟩
  rcases Xag k a with q|q
  ·have:=(k5 a q (by omega)).2
   omega
  ·rcases Xag a k with q'|q'
   ·right
    exact⟨a,a1,by rw[k3 a q'];exact a2,fun j hj=>by rw[k3 j (by omega),a3 j hj]⟩
   ·have:a=k:=by omega
    subst this
    have hle:∀i,i<m.1.length→(Zfh m.1 x.length x).2.getD i 0≤y.getD i 0:=fun i hi=>by
     rcases Xag i a with r|r
     ·rw[k3 i r,a3 i r];omega
     ·rcases Xag a i with r'|r'
      ·rw[(k5 i r' (by omega)).1];exact(y2 i).1
      ·rw[show i=a by omega,k2];omega
    rcases Zwh m.1.length hle with e|e
    ·left
     exact Zul (by omega) (fun i hi=>e i (by omega))
    ·exact Or.inr e
def Zl0 (m:Zo):Nat→List Int→List (List Int)
 |0,x=>[x]
 |n+1,x=>x::bif (Z8 m x).1 then Zl0 m n (Z8 m x).2 else[]
def ZpF (m:Zo) (x:List Int):List (List Int):=Zl0 m 1024 x
def Zmv (m:Zo):List Int:=List.replicate m.1.length 0
theorem ZGK {m:Zo} (hm:Zy m=true):∀n n' x,ZJ m x=true→muF x≤n→muF x≤n'→Zl0 m n x=Zl0 m n' x
 |0,_,x,hx,h,_=>by have:=(Zp5 hm hx).1;omega
 |_+1,0,x,hx,_,h=>by have:=(Zp5 hm hx).1;omega
 |n+1,n'+1,x,hx,h,h'=>by
  unfold Zl0
  cases hq:(Z8 m x).1 with
  |false=>rfl
  |true=>
   have:=Zpw hm hx hq
   rw[ctt,ctt,ZGK hm n n' _ (ZhF hx) (by omega) (by omega)]
theorem ZAs {m:Zo} {x:List Int} (hm:Zy m=true) (hx:ZJ m x=true):ZpF m x=x::bif (Z8 m x).1 then ZpF m (Z8 m x).2 else[]:=by
 have h1:ZpF m x=x::bif (Z8 m x).1 then Zl0 m 1023 (Z8 m x).2 else[]:=rfl
 rw[h1]
 cases hq:(Z8 m x).1 with
 |false=>rw[cff,cff]
 |true=>
  have h2:=Zpw hm hx hq
  have h3:muF x≤1024:=by unfold muF;omega
  rw[ctt,ctt]
  unfold ZpF
  rw[ZGK hm 1023 1024 _ (ZhF hx) (by omega) (by omega)]
theorem ZB4 {m:Zo}:∀n x,ZJ m x=true→∀z∈Zl0 m n x,ZJ m z=true∧(z=x∨LtL m.1.length x z)
 |0,x,hx,z,hz=>by
  unfold Zl0 at hz
  rw[Xah]at hz
  subst hz
  exact⟨hx,Or.inl rfl⟩
 |n+1,x,hx,z,hz=>by
  unfold Zl0 at hz
  rcases XaA.1 hz with rfl|hz
  ·exact⟨hx,Or.inl rfl⟩
  ·cases hq:(Z8 m x).1 with
   |false=>rw[hq,cff]at hz;cases hz
   |true=>
    rw[hq,ctt]at hz
    obtain⟨h1,h2⟩:=ZB4 n _ (ZhF hx) z hz
    refine⟨h1,Or.inr ?_⟩
    rcases h2 with rfl|h2
    ·exact Zzq hx hq
    ·exact(Zzq hx hq).trans h2
theorem ZB5 {m:Zo}:∀n x,ZJ m x=true→(Zl0 m n x).Pairwise (LtL m.1.length)
 |0,x,hx=>by unfold Zl0;exact Xbg _ _
 |n+1,x,hx=>by
  unfold Zl0
  cases hq:(Z8 m x).1 with
  |false=>rw[cff];exact Xbg _ _
  |true=>
   rw[ctt]
   refine List.Pairwise.cons (fun z hz=>?_) (ZB5 n _ (ZhF hx))
   rcases(ZB4 n _ (ZhF hx) z hz).2 with rfl|h2
   ·exact Zzq hx hq
   ·exact(Zzq hx hq).trans h2
theorem ZGJ {m:Zo} (hm:Zy m=true) {y:List Int} (hy:ZJ m y=true):∀n x,ZJ m x=true→muF x≤n→(x=y∨LtL m.1.length x y)→y∈Zl0 m n x
 |0,x,hx,h,_=>by have:=(Zp5 hm hx).1;omega
 |n+1,x,hx,h,hl=>by
  unfold Zl0
  rcases hl with rfl|hl
  ·exact Xas
  ·obtain⟨h1,h2⟩:=ZNd hx hy hl
   have:=Zpw hm hx h1
   rw[h1,ctt]
   refine Xao _ (ZGJ hm hy n _ (ZhF hx) (by omega) h2)
theorem Zvo {m:Zo} (hm:Zy m=true) {y:List Int}:y∈ZpF m (Zmv m)↔ZJ m y=true:=by
 have hz:=ZnC hm
 constructor
 ·intro h
  exact(ZB4 1024 _ hz y h).1
 ·intro h
  obtain⟨y1,y2⟩:=Zez h
  refine ZGJ hm h 1024 _ hz (by unfold muF;omega) ?_
  have e0:∀i,(Zmv m).getD i 0=0:=fun i=>by
   unfold Zmv
   rw[Xaa]
   rcases Xag i m.1.length with h|h
   ·rw[XaO h];rfl
   ·rw[Xaw (by rw[XaG];exact h)];rfl
  rcases Zwh (x:=Zmv m) (y:=y) m.1.length (fun i _=>by rw[e0];exact(y2 i).1)with e|e
  ·exact Or.inl (Zul (by unfold Zmv;rw[XaG];exact y1.symm) (fun i hi=>e i (by unfold Zmv at hi;rwa [XaG]at hi)))
  ·exact Or.inr e
theorem ZNq {m:Zo} {x z:List Int} (hx:ZJ m x=true) (h:z∈ZpF m x):ZJ m z=true:=(ZB4 1024 _ hx z h).1
theorem ZMn {X:Type} {m:Zo} {x:List Int} (hm:Zy m=true) (hx:ZJ m x=true) (good:List Int→X) (bad:X) {f:Int×List Int→Option ((Int×List Int)⊕X)} {g:Int×List Int→Option X}
  (hf:∀i y,f (i,y)=cond (decide ((0:Int)≤i)) (rq (0≤i∧i<y.length) <|rq (0≤i∧i<m.1.length) <|cond ((y.getD i.toNat 0)==(m.1.getD i.toNat 0)) (rq (0≤i∧i<y.length) <|rq (i64 (i - (1:Int))) <|some (.inl ((i - (1:Int)),(y.set i.toNat (0:Int))))) (up (g (i,y)))) (up (g (i,y))))
  (hg:∀i y,g (i,y)=cond (decide (i<(0:Int))) (some bad) (rq (0≤i∧i<y.length) <|rq (i64 ((y.getD i.toNat 0)+(1:Int))) <|rq (0≤i∧i<y.length) <|some (good (y.set i.toNat ((y.getD i.toNat 0)+(1:Int)))))) :
  loop f (((x.length:Int) - 1),x)=some (bif (Z8 m x).1 then good (Z8 m x).2 else bad):=by
 obtain⟨x1,x2⟩:=Zez hx
 obtain⟨m1,m2,m3⟩:=ZcN hm
 unfold Z8
 refine ZK (f:=f) (fun s:Int×List Int=>∃n:Nat,s.1=(n:Int) - 1∧n≤x.length∧s.2.length=x.length∧Dig m.1 s.2) (fun s=>(s.1+1).toNat)
  (fun s=>bif (Zfh m.1 (s.1+1).toNat s.2).1 then good (Zfh m.1 (s.1+1).toNat s.2).2 else bad) ?_ _ ⟨x.length,rfl,Nat.le_refl _,rfl,x2⟩ |>.trans ?_
 ·rintro⟨s,y⟩ ⟨n,hs,hn,hl,hd⟩
  dsimp only at hs hl hd ⊢
  subst hs
  rw[hf,hg]
  cases n with
  |zero=>
   right
   rw[Zd (by omega),Zc (by omega)]
   rfl
  |succ n=>
   have e:(((n+1:Nat):Int) - 1).toNat=n:=by omega
   have e':(((n+1:Nat):Int) - 1+1).toNat=n+1:=by omega
   have hz:=ZrH hm hd n
   have hdn:=hd n
   rw[Zc (by omega),Zb ⟨by omega,by omega⟩,Zb ⟨by omega,by omega⟩,e,e',ZwF]
   by_cases hq:y.getD n 0=m.1.getD n 0
   ·left
    rw[Zx hq,decide_eq_false (show ¬y.getD n 0<m.1.getD n 0 by omega),cff,Zb ⟨by omega,by omega⟩,Zf (by omega) (by omega)]
    refine⟨_,rfl,⟨n,by (try dsimp only)<;>omega,by omega,by (try dsimp only)<;>(rw[Xam];exact hl),Zu9 hd (by omega) (by omega)⟩,by (try dsimp only)<;>omega,?_⟩
    dsimp only
    rw[show (((n+1:Nat):Int) - 1 - 1+1).toNat=n by omega]
   ·right
    rw[Zu hq,Xad (show y.getD n 0<m.1.getD n 0 by omega),ctt,Zd (by omega),Zb ⟨by omega,by omega⟩,Zf (by omega) (by omega),Zb ⟨by omega,by omega⟩]
    rfl
 ·dsimp only
  rw[show ((x.length:Int) - 1+1).toNat=x.length by omega]
theorem ZL6 {m:Zo} {x:List Int} (hm:Zy m=true) (hx:ZJ m x=true):x≠[]:=by
 have:=(ZcN hm).1
 have:=(Zez hx).1
 rintro rfl
 simp at this
 omega
end Go.AE.Y
