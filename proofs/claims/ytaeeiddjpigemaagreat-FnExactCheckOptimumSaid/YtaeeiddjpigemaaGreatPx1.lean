/-
  Plain laws of the models, in one text. No conditions.
-/
import Derived.Test.YtaeeiddjpigemaaGreatAEx3
import Derived.Test.YtaeeiddjpigemaaGreatR8M
namespace Go.AE
theorem Zb {α:Type} {p:Prop} [Decidable p] {m:Option α} (h:p):rq p m=m:=if_pos h
theorem Zxc {α:Type} {p:Prop} {m m':Option α} {r:α} (h1:p→m=some r) (h2:m'=some r):nt p m m'=some r:=by
 unfold nt
 split
 ·rename_i hp
  rw[h1 hp,h2,if_pos rfl]
 ·exact h2
theorem ZH {S R:Type} {f:S→Option (S⊕R)} (Inv:S→Prop) (μ:S→Nat) (T:S→R)
  (step:∀s,Inv s→(∃s',f s=some (.inl s')∧Inv s'∧μ s' < μ s∧T s'=T s)∨f s=some (.inr (T s))):∀s,Inv s→loop f s=some (T s):=by
 have key:∀n s,μ s≤n→Inv s→loop f s=some (T s):=by
  intro n
  induction n with
  |zero=>
   intro s hn hs
   rw[Zdo]
   rcases step s hs with⟨s',h1,_,h3,_⟩|h1
   ·omega
   ·rw[h1];rfl
  |succ n ih=>
   intro s hn hs
   rw[Zdo]
   rcases step s hs with⟨s',h1,h2,h3,h4⟩|h1
   ·rw[h1,←h4];exact ih s' (by omega) h2
   ·rw[h1];rfl
 exact fun s=>key _ s (Nat.le_refl _)
theorem Zis {S R:Type} {f:S→Option (S⊕R)} (Inv:S→Prop) (μ:S→Nat) (Q:R→Prop)
  (step:∀s,Inv s→(∃s',f s=some (.inl s')∧Inv s'∧μ s' < μ s)∨(∃r,f s=some (.inr r)∧Q r)):∀s,Inv s→∃r,loop f s=some r∧Q r:=by
 have key:∀n s,μ s≤n→Inv s→∃r,loop f s=some r∧Q r:=by
  intro n
  induction n with
  |zero=>
   intro s hn hs
   rw[Zdo]
   rcases step s hs with⟨s',h1,_,h3⟩|⟨r,h1,h2⟩
   ·omega
   ·rw[h1];exact⟨r,rfl,h2⟩
  |succ n ih=>
   intro s hn hs
   rw[Zdo]
   rcases step s hs with⟨s',h1,h2,h3⟩|⟨r,h1,h2⟩
   ·rw[h1];exact ih s' (by omega) h2
   ·rw[h1];exact⟨r,rfl,h2⟩
 exact fun s=>key _ s (Nat.le_refl _)
theorem Zb4 {R:Type} {f:Int→Option (Int⊕R)} (n:Nat) (p:Nat→Bool) (bad:R) (fin:R)
  (h:∀i:Nat,i<n→(∀j,j<i→p j=true)→f i=some (bif p i then .inl ((i:Int)+1)else .inr bad)) (hn:f n=some (.inr fin)):loop f 0=some (bif (List.range n).all p then fin else bad):=by
 have key:∀k i:Nat,i+k=n→(∀j,j<i→p j=true)→loop f (i:Int)=some (bif (List.range' i k).all p then fin else bad):=by
  intro k
  induction k with
  |zero=>
   intro i hi _
   have:i=n:=by omega
   subst this
   rw[Zdo,hn]
   simp
  |succ k ih=>
   intro i hi hpre
   rw[Zdo,h i (by omega) hpre]
   cases hp:p i with
   |true=>
    have:=ih (i+1) (by omega) (fun j hj=>by
     rcases Xah j i with h1|h1
     ·exact hpre j h1
     ·have:j=i:=by omega
      subst this;exact hp)
    simp only[XaI,cond_true]
    rw[show ((i:Int)+1)=((i+1:Nat):Int) by omega,this]
    simp[List.range'_succ,hp]
   |false=>simp[List.range'_succ,hp]
 have:=key n 0 (by omega) (fun j hj=>by omega)
 simpa [List.range_eq_range']using this
theorem ZfV {α:Type} {f:Int→Option (Int⊕Int)} (l:List α) (d:α) (p:α→Bool) (h:∀i:Nat,i<l.length→f i=some (bif p (l.getD i d)then .inr (i:Int)else .inl ((i:Int)+1))) (hn:f l.length=some (.inr (-1))) :
  ∃r,loop f 0=some r∧decide (0≤r)=l.any p:=by
 have key:∀k i:Nat,i+k=l.length→∃r,loop f (i:Int)=some r∧decide (0≤r)=(l.drop i).any p:=by
  intro k
  induction k with
  |zero=>
   intro i hi
   have:i=l.length:=by omega
   subst this
   rw[Zdo,hn]
   exact⟨-1,rfl,by simp⟩
  |succ k ih=>
   intro i hi
   have hi':i<l.length:=by omega
   rw[Zdo,h i hi',XbD hi',List.any_cons]
   have e:l.getD i d=l[i]:=by rw[Xab,Xac hi'];rfl
   rw[e]
   cases hp:p l[i]with
   |true=>exact⟨i,rfl,by simp⟩
   |false=>
    obtain⟨r,h1,h2⟩:=ih (i+1) (by omega)
    refine⟨r,?_,by simpa using h2⟩
    simp only[cond_false,XaI]
    rw[show ((i:Int)+1)=((i+1:Nat):Int) by omega]
    exact h1
 exact key l.length 0 (by omega)
theorem ZrP {α β:Type} (l:List α) (f:α→β) (i:Nat) (d:α) (d':β) (h:i<l.length):(l.map f).getD i d'=f (l.getD i d):=by
 simp[Xab,h]
theorem Zg7 {α:Type} (l:List α) (p:α→Bool) (d:α):(List.range l.length).all (fun i=>p (l.getD i d))=l.all p:=by
 rw[Xbx,Xan,Xan]
 constructor
 ·intro h x hx
  obtain⟨i,hi,rfl⟩:=Xaq.1 hx
  have:=h i (XaF.2 hi)
  simpa [Xab,hi]using this
 ·intro h i hi
  have hi:=XaF.1 hi
  have:=h _ (XbI hi)
  simpa [Xab,hi]using this
theorem Zg {α:Type} {n:Int} {m:Option α} (h1 : -9223372036854775808≤n) (h2:n≤9223372036854775807):rq (i64 n) m=m:=if_pos ⟨h1,h2⟩
theorem Zd {α:Type} {p:Prop} [Decidable p] {m m':α} (h:p):cond (decide p) m m'=m:=by rw[Xae h];rfl
theorem Zc {α:Type} {p:Prop} [Decidable p] {m m':α} (h:¬p):cond (decide p) m m'=m':=by rw[decide_eq_false h];rfl
theorem Zf6 {α:Type} {a b:Int} {m m':α} (h:a≠b):cond (a != b) m m'=m:=by rw[bne_iff_ne.2 h];rfl
theorem Zc4 {α:Type} {a b:Int} {m m':α} (h:a=b):cond (a != b) m m'=m':=by subst h;simp
theorem Zu {α:Type} {a b:Int} {m m':α} (h:a=b):cond (a==b) m m'=m:=by subst h;simp
theorem Zs {α:Type} {a b:Int} {m m':α} (h:a≠b):cond (a==b) m m'=m':=by rw[beq_eq_false_iff_ne.2 h];rfl
theorem Ztl {α β:Type} {f:Int×List β→Option ((Int×List β)⊕List β)} (l:List α) (d:α) (e:β) (g:α→β)
  (h:∀(i:Nat) (out:List β),i<l.length→out.length=l.length→f (i,out)=some (.inl ((i:Int)+1,out.set i (g (l.getD i d))))) (hn:∀out,f (l.length,out)=some (.inr out)) :
  loop f (0,List.replicate l.length e)=some (l.map g):=by
 refine ZH (fun s:Int×List β=>∃i:Nat,s.1=i∧i≤l.length∧s.2=(l.map g).take i++List.replicate (l.length - i) e) (fun s=>l.length - s.1.toNat) (fun _=>l.map g) ?_ _ ⟨0,rfl,Nat.zero_le _,by simp⟩
 rintro⟨s,out⟩ ⟨i,rfl,hi,ho⟩
 dsimp only at ho ⊢
 have hlen:out.length=l.length:=by rw[ho];simp;omega
 rcases Xah i l.length with h1|h1
 ·left
  refine⟨_,h i out h1 hlen,⟨i+1,by simp,by omega,?_⟩,by dsimp only;omega,rfl⟩
  dsimp only
  apply Xa1
  intro j
  rw[ho]
  have e1:l.length - i=(l.length - (i+1))+1:=by omega
  rw[XbM]
  have hl1:((l.map g).take i).length=i:=by simp;omega
  have hl2:((l.map g).take (i+1)).length=i+1:=by simp;omega
  by_cases hj:i=j
  ·subst hj
   rw[if_pos rfl,if_pos (by simp;omega),XaP (by omega)]
   simp[Xab,h1]
  ·rw[if_neg hj]
   rcases Xah j i with h2|h2
   ·rw[XaP (by omega),XaP (by omega)]
    simp[h2,show j<i+1 by omega]
   ·rw[XaO (by omega),XaO (by omega),hl1,hl2]
    rw[List.getElem?_replicate,List.getElem?_replicate]
    congr 1
    apply propext
    omega
 ·right
  have:i=l.length:=by omega
  subst this
  rw[hn]
  congr 2
  rw[ho,XaY (by simp)]
  simp
theorem cnt {α:Type} {a b:α}:cond (!true) a b=b:=Eq.trans (congrArg (fun x=>cond x a b) (Xa2)) (Eq.trans rfl (id rfl))
theorem cnf {α:Type} {a b:α}:cond (!false) a b=a:=Eq.trans (congrArg (fun x=>cond x a b) (Xa7)) (Eq.trans rfl (id rfl))
theorem ctt {α:Type} {a b:α}:cond true a b=a:=Eq.trans rfl (id rfl)
theorem cff {α:Type} {a b:α}:cond false a b=b:=Eq.trans rfl (id rfl)
theorem Ze {α β:Type} {a:α} {f:α→Option β}:(some a).bind f=f a:=Eq.trans (XaI a f) (id rfl)
theorem ZMv {b:Bool}:(true&&b)=b:=Eq.trans (Xag b) (id rfl)
end Go.AE
namespace Go.AE.Y
open Go Go.AE
def Zbt (n:Int):Bool:=n != 0&&(decide (-12≤n)&&decide (n≤12))
theorem ZP {n:Int}:Zbt n=true↔n≠0 ∧ -12≤n∧n≤12:=by simp[Zbt]
theorem ZlZ (n:Int):ZfX n=some (Zbt n):=by
 unfold ZfX Zbr Zbt
 cases (n != 0)<;>cases (decide (-12≤n))<;>rfl
theorem Zqw (n:Int):ZlG n=some (Zbt n):=by
 unfold ZlG Zbt
 cases (n != 0)<;>cases (decide (-12≤n))<;>rfl
def vof (n:Int):Int:=max n (-n)
theorem Zhg {n:Int} (h : -13≤n∧n≤13):Zdm n=some (vof n):=by
 unfold Zdm vof
 simp(disch:=omega)only[Zg,Int.zero_sub]
theorem Zqv {n:Int} (h : -13≤n∧n≤13):Zja n=some (vof n):=by
 unfold Zja vof
 by_cases h1:n<0
 ·simp(disch:=omega)only[Zd,Zg]
  congr 1;omega
 ·simp(disch:=omega)only[Zc]
  congr 1;omega
theorem ZB {α:Type} {l:List α} {i:Nat} {d:α} (h:i<l.length):l.getD i d∈l:=by
 rw[Xab,Xac h];exact XbI h
end Go.AE.Y
namespace Go.AE.Y
open Go Go.AE
def Zcz (v:List Bool) (l:Int):Bool:=v.getD (vof l - 1).toNat false==decide (0<l)
end Go.AE.Y
namespace Go.AE.Y
open Go Go.AE
theorem ZiK (a:List Int) (h:a.length≤4000000000):ZcU a=some a:=by
 unfold ZcU
 rw[Zb (by simp[Zp];omega)]
 rw[Xaa]
 refine(Ztl a 0 0 id (fun i out hi ho=>?_) (fun out=>?_)).trans (by simp)
 ·unfold ZlA
  simp(disch:=omega)only[Zd,Zb,Zg,Xaa]
  rfl
 ·unfold ZlA
  simp(disch:=omega)only[Zc]
theorem ZIo (a:List (Int×Int)) (h:a.length≤4000000000):Zn5 a=some a:=by
 unfold Zn5
 rw[Zb (by simp[Zp];omega)]
 rw[Xaa]
 refine(Ztl a (0,0) (0,0) id (fun i out hi ho=>?_) (fun out=>?_)).trans (by simp)
 ·unfold Zkt ZtQ
  simp(disch:=omega)only[Zd,Zb,Zg,Xaa,XaI]
  rfl
 ·unfold Zkt
  simp(disch:=omega)only[Zc]
def Zob (a:List (List (Int×Int)×Int)):Prop:=a.length≤1048576∧∀x∈a,x.1.length≤1048576
theorem ZIi (a:List (Int×Int)) (left:Int) (h0:0≤left) (h1:left≤1048576) (h:a.length≤maxLen) :
  ∃r,Zn2 a left=some r∧r≤left∧(0≤r→a.length≤1048576):=by
 simp only[maxLen]at h
 unfold Zn2
 rw[Zg (by omega) (by omega)]
 by_cases h2:left - (a.length:Int)<0
 ·exact⟨-1,by rw[Zd h2],by omega,by omega⟩
 ·exact⟨_,by rw[Zc h2],by omega,by omega⟩
theorem ZjO (a:List Int) (h:a.length≤4000000000):Zew a a=some true:=by
 unfold Zew
 rw[Zc4 rfl,Zb4 a.length (fun _=>true) false true]
 ·rw[Xan.2 (fun _ _=>rfl)];rfl
 ·intro i hi _
  unfold Zlz
  simp(disch:=omega)only[Zd,Zb,Zg,Xaa,bne_self_eq_false,cond_false,cond_true]
 ·unfold Zlz
  simp(disch:=omega)only[Zc]
theorem ZEt (a:List (Int×Int)) (h:a.length≤4000000000):ZnV a a=some true:=by
 unfold ZnV
 rw[Zc4 rfl,Zb4 a.length (fun _=>true) false true]
 ·rw[Xan.2 (fun _ _=>rfl)];rfl
 ·intro i hi _
  unfold Zkp ZtP
  simp(disch:=omega)only[Zd,Zb,Zg,Xaa,bne_self_eq_false,cond_false,cond_true,XaI,Xa2]
 ·unfold Zkp
  simp(disch:=omega)only[Zc]
def Zek (c:List (Int×Int)) (i:Nat):Bool:=
 Zbt (c.getD i (0,0)).2&&((decide (1≤(c.getD i (0,0)).1)&&decide ((c.getD i (0,0)).1≤1000))&&(i==0||decide (vof (c.getD (i - 1) (0,0)).2<vof (c.getD i (0,0)).2)))
def Zw (c:List (Int×Int)×Int):Bool:=(List.range c.1.length).all (Zek c.1)&&(decide (0≤c.2)&&decide (c.2≤20000))
theorem ZAl {c:List (Int×Int)} {i:Nat} (h:Zek c i=true):Zbt (c.getD i (0,0)).2=true:=by
 unfold Zek at h;simp only[Xaf]at h;exact h.1
theorem ZO (c:List (Int×Int)×Int) (h:c.1.length≤4000000000):ZM c=some (Zw c):=by
 unfold ZM Zw
 rw[Zb4 c.1.length (Zek c.1) false (decide (0≤c.2)&&decide (c.2≤20000))]
 ·cases (List.range c.1.length).all (Zek c.1)
  ·rw[cond_false,Xad]
  ·rw[cond_true,Xag]
 ·intro i hi hpre
  unfold Zec Zek
  simp(disch:=omega)only[Zd,Zb,Zqw,XaI,Xaa]
  cases hl:Zbt (c.1.getD i (0,0)).2 with
  |false=>simp
  |true=>
   have hl':=ZP.1 hl
   rw[cnt,ZMv]
   by_cases h1:(c.1.getD i (0,0)).1<1
   ·rw[Zd h1,decide_eq_false (show ¬1≤(c.1.getD i (0,0)).1 by omega)];simp
   ·rw[Zc h1,Xae (show 1≤(c.1.getD i (0,0)).1 by omega)]
    by_cases h2:1000<(c.1.getD i (0,0)).1
    ·rw[Zd h2,decide_eq_false (show ¬(c.1.getD i (0,0)).1≤1000 by omega)];simp
    ·rw[Zc h2,Xae (show (c.1.getD i (0,0)).1≤1000 by omega)]
     by_cases h0:i=0
     ·subst h0
      simp(disch:=omega)only[Zc,Zg]
      simp
     ·have hp1:=ZP.1 (ZAl (hpre (i - 1) (by omega)))
      have e1:((i:Int) - 1).toNat=i - 1:=by omega
      rw[show (i==0)=false by simpa using h0]
      simp(disch:=omega)only[Zd,Zg,Zb,e1,Zqv,XaI]
      by_cases hv:vof (c.1.getD (i - 1) (0,0)).2<vof (c.1.getD i (0,0)).2
      ·rw[Zc (by omega),Xae hv];simp
      ·rw[Zd (by omega),decide_eq_false hv];simp
 ·unfold Zec
  simp(disch:=omega)only[Zc]
  by_cases h1:0≤c.2
  ·rw[Zd h1,Xae h1];simp
  ·rw[Zc h1,decide_eq_false h1];simp
theorem Zbu (n a b:Int):Zbr n a b=some (decide (a≤n)&&decide (n≤b)):=by
 unfold Zbr
 by_cases h:a≤n
 ·rw[Zd h,Xae h];simp
 ·rw[Zc h,decide_eq_false h];simp
theorem Z4 (c:List (Int×Int)×Int) (h:c.1.length≤4000000000):ZV c=some (Zw c):=by
 unfold ZV
 refine ZH (fun s:Int×Int=>∃i:Nat,s.2=i∧i≤c.1.length∧s.1=(if i=0 then 0 else vof (c.1.getD (i - 1) (0,0)).2)∧∀j,j<i→Zek c.1 j=true) (fun s=>c.1.length - s.2.toNat) (fun _=>Zw c) ?_ _ ⟨0,rfl,Nat.zero_le _,rfl,fun j hj=>by omega⟩
 rintro⟨b,s⟩ ⟨i,rfl,hi,hb,hpre⟩
 dsimp only at hb ⊢
 unfold ZgY
 rcases Xah i c.1.length with h1|h1
 ·have bad:Zek c.1 i=false→Zw c=false:=fun hq=>by
   unfold Zw
   rw[List.all_eq_false.2 ⟨i,XaF.2 h1,by rw[hq];simp⟩]
   rw[Xad]
  simp(disch:=omega)only[Zd,Zb,ZlZ,Ze,Xaa]
  cases hl:Zbt (c.1.getD i (0,0)).2 with
  |false=>
   right
   rw[bad (by unfold Zek;rw[hl,Xad]),cnf]
  |true=>
   have hl':=ZP.1 hl
   have hv1:1≤vof (c.1.getD i (0,0)).2:=by unfold vof;omega
   rw[cnt]
   rw[Zhg (by omega),Ze]
   by_cases hv:vof (c.1.getD i (0,0)).2≤b
   ·right
    rw[Zd hv,bad ?_]
    unfold Zek
    by_cases h0:i=0
    ·subst h0;rw[if_pos rfl]at hb;omega
    ·rw[if_neg h0]at hb
     rw[show (i==0)=false by simpa using h0,decide_eq_false (show ¬vof (c.1.getD (i - 1) (0,0)).2<vof (c.1.getD i (0,0)).2 by omega)]
     simp
   ·rw[Zc hv,Zbu]
    rw[Ze]
    cases hw:(decide (1≤(c.1.getD i (0,0)).1)&&decide ((c.1.getD i (0,0)).1≤1000))with
    |false=>
     right
     rw[bad (by unfold Zek;rw[hw];simp),cnf]
    |true=>
     left
     rw[cnt,Ze,Zg (by omega) (by omega)]
     refine⟨_,rfl,⟨i+1,by simp,by omega,by simp,fun j hj=>?_⟩,by dsimp only;omega,trivial⟩
     rcases Xah j i with h2|h2
     ·exact hpre j h2
     ·have:j=i:=by omega
      subst this
      unfold Zek
      rw[hl,hw]
      by_cases h0:j=0
      ·rw[show (j==0)=true by simpa using h0];simp
      ·rw[if_neg h0]at hb
       rw[Xae (show vof (c.1.getD (j - 1) (0,0)).2<vof (c.1.getD j (0,0)).2 by omega)]
       simp
 ·right
  have:i=c.1.length:=by omega
  subst this
  dsimp only
  rw[Zc (by omega),Zbu,Ze]
  unfold Zw
  rw[Xan.2 (fun j hj=>hpre j (XaF.1 hj)),Xag]
def ZfM (l:List (List (Int×Int)×Int)):Bool:=l.all Zw&&decide (l.length≤400)
theorem Zvs (l:List (List (Int×Int)×Int)) (h:Zob l):ZhX l=some (ZfM l):=by
 have h1:=h.1
 unfold ZhX ZfM
 rw[Zb4 l.length (fun i=>Zw (l.getD i ([],0))) false (decide (l.length≤400)),Zg7 l Zw ([],0)]
 ·cases l.all Zw<;>rfl
 ·intro i hi _
  have h2:=h.2 _ (ZB (d:=([],0)) hi)
  unfold ZfQ
  simp(disch:=omega)only[Zd,Zb,Xaa]
  rw[ZO _ (by omega)]
  simp(disch:=omega)only[XaI,Zg]
  cases Zw (l.getD i ([],0))<;>rfl
 ·unfold ZfQ
  simp(disch:=omega)only[Zc]
  rw[decide_eq_decide.2 (show ((l.length:Int)≤400↔l.length≤400) by omega)]
theorem Zu3 (l:List (List (Int×Int)×Int)) (h:Zob l):ZhT l=some (ZfM l):=by
 have h1:=h.1
 unfold ZhT ZfM
 by_cases h4:l.length≤400
 ·rw[Zd (by omega),Xae h4]
  unfold Zqn ZbI ZbV
  obtain⟨r,hr1,hr2⟩:=ZfV (f:=ZS l) l ([],0) (fun x=>!Zw x) (fun i hi=>by
   have h2:=h.2 _ (ZB (d:=([],0)) hi)
   unfold ZS ZnM
   simp(disch:=omega)only[Zd,Zb,Xaa]
   rw[Z4 _ (by omega)]
   simp(disch:=omega)only[XaI,Zg]
   cases Zw (l.getD i ([],0))<;>rfl) (by
   unfold ZS
   simp(disch:=omega)only[Zc])
  rw[hr1]
  simp only[XaI,hr2]
  rw[XaU]
  simp
 ·rw[Zc (by omega),decide_eq_false h4]
  simp
def ZcB (v:List Bool) (c:List (Int×Int)):Int:=c.foldl (fun a t=>bif Zcz v t.2 then a+t.1 else a) 0
def Zb2 (v:List Bool) (c:List (Int×Int)×Int):Bool:=decide (c.2≤ZcB v c.1)
theorem ZHQ {c:List (Int×Int)×Int} (h:Zw c=true):∀i,i<c.1.length→((c.1.getD i (0,0)).2≠0 ∧ -12≤(c.1.getD i (0,0)).2∧(c.1.getD i (0,0)).2≤12)∧1≤(c.1.getD i (0,0)).1∧(c.1.getD i (0,0)).1≤1000:=by
 intro i hi
 unfold Zw at h
 simp only[Xaf,Xan]at h
 have h1:=h.1 i (XaF.2 hi)
 refine⟨ZP.1 (ZAl h1),?_⟩
 unfold Zek at h1
 simp only[Xaf,Xai]at h1
 exact h1.2.1
theorem ZI2 {l:List (List (Int×Int)×Int)} (h:ZfM l=true):∀x∈l,Zw x=true:=by
 unfold ZfM at h
 simp only[Xaf,Xan]at h
 exact h.1
end Go.AE.Y
namespace Go.AE.Y
open Go Go.AE
abbrev ZE:=Int×List Int×List Int×Int×List (List Int)
abbrev Zt:=List Int×List ZE
def Zlu (l:List Int) (n:Int) (i:Nat):Bool:=(decide (0≤l.getD i 0)&&decide (l.getD i 0≤n - 1)) && !((l.take i).any (fun x=>l.getD i 0==x))
def ZnJ (l:List Int) (n:Int):Bool:=(List.range l.length).all (Zlu l n)
def Zo2 (n:Int):Bool:=n != 0&&(decide (-9≤n)&&decide (n≤9))
def Zc3 (n:Int):Bool:=decide (0≤n)&&decide (n≤3)
def ZyV (r:ZE):Bool:=decide ((r.2.2.1.length:Int)=r.2.1.length)&&((decide (-1000≤r.2.2.2.1)&&decide (r.2.2.2.1≤1000))&&r.2.2.1.all Zo2)
def Zxk (r:ZE) (row:List Int):Bool:=decide ((row.length:Int)=r.2.1.length)&&row.all Zc3
def ZIj (r:ZE):Bool:=decide ((r.2.2.2.2.length:Int)≤8)&&r.2.2.2.2.all (Zxk r)
def ZfK (r:ZE):Bool:=bif r.1==1 then ZyV r else bif r.1==3 then ZIj r else bif r.1==4 then decide (r.2.1.length=2)else r.1==2
def ZAe (r:ZE):Bool:=(r.1==1||(decide (r.2.2.1.length=0)&&r.2.2.2.1==0))&&(r.1==3||decide (r.2.2.2.2.length=0))
def Zex (n:Int) (r:ZE):Bool:=ZnJ r.2.1 n&&(decide (1≤r.2.1.length)&&(ZAe r&&ZfK r))
def Zl7 (l:List Int):Int:=l.foldl (fun a n=>a+(n+1)) 0
def ZF (m:Zt):Bool:=(decide (1≤m.1.length)&&decide (m.1.length≤5))&&(decide (m.2.length≤8)&&(m.1.all Zc3&&(decide (Zl7 m.1≤12)&&m.2.all (Zex m.1.length))))
def ZcG (r:ZE):Prop:=r.2.1.length≤1048576∧r.2.2.1.length≤1048576∧r.2.2.2.2.length≤1048576∧∀x∈r.2.2.2.2,x.length≤1048576
def Zds (m:Zt):Prop:=m.1.length≤1048576∧m.2.length≤1048576∧∀r∈m.2,ZcG r
theorem Zs4 (s:List Int) (v:Int) (h:s.length≤4000000000):ZbZ s v=some (s.any (fun x=>v==x)):=by
 unfold ZbZ Zi6
 obtain⟨r,hr1,hr2⟩:=ZfV (f:=Zch s v) s 0 (fun x=>v==x) (fun i hi=>by
  unfold Zch
  rw[Zd (by omega),Zb ⟨by omega,by omega⟩,Xaa]
  cases v==s.getD i 0 with
  |true=>rw[ctt,ctt]
  |false=>rw[cff,cff,Zg (by omega) (by omega)]) (by
  unfold Zch
  rw[Zc (by omega)])
 rw[hr1,Ze,hr2]
theorem ZJ8 {l:List Int} {i:Nat} (hi:i≤l.length) (v:Int):(l.take i).any (fun x=>v==x) = !(List.range i).all (fun k=>!(l.getD k 0==v)):=by
 have hl:(l.take i).length=i:=by rw[Xay];omega
 have h:=Zg7 (l.take i) (fun x=>!(v==x)) 0
 rw[hl]at h
 rw[XaU,←h]
 congr 1
 rw[Xbx,Xan,Xan]
 refine forall_congr' fun k=>forall_congr' fun hk=>?_
 have hk:=XaF.1 hk
 have e:(l.take i).getD k 0=l.getD k 0:=by rw[Xab,Xaw,if_pos hk,Xab]
 rw[e]
 simp only[Xbe,beq_eq_false_iff_ne,ne_eq]
 exact⟨fun h e=>h e.symm,fun h e=>h e.symm⟩
theorem Zxr (l:List Int) (h:l.length≤4000000000):ZbJ l=some (!l.all Zo2):=by
 unfold ZbJ ZcW
 obtain⟨r,hr1,hr2⟩:=ZfV (f:=Zbh l) l 0 (fun x=>!Zo2 x) (fun i hi=>by
  unfold Zbh ZmV
  rw[Zd (by omega),Zb ⟨by omega,by omega⟩,Xaa]
  unfold Zo2
  cases hz:(l.getD i 0==0)with
  |true=>rw[ctt,Ze,ctt,bne,hz];rfl
  |false=>
   rw[cff,Zbu,Ze,Ze,bne,hz,Xa7,Xag]
   cases (decide (-9≤l.getD i 0)&&decide (l.getD i 0≤9))with
   |true=>rw[cnt,Zg (by omega) (by omega),cnt]
   |false=>rw[cnf,cnf]) (by
  unfold Zbh
  rw[Zc (by omega)])
 rw[hr1,Ze,hr2,XaU]
 simp only[Xbu]
theorem Zvp (l:List Int) (h:l.length≤4000000000):ZbA l=some (!l.all Zc3):=by
 unfold ZbA ZcL
 obtain⟨r,hr1,hr2⟩:=ZfV (f:=Zbb l) l 0 (fun x=>!Zc3 x) (fun i hi=>by
  unfold Zbb Zk5
  rw[Zd (by omega),Zb ⟨by omega,by omega⟩,Xaa,Zbu,Ze,Ze]
  unfold Zc3
  cases (decide (0≤l.getD i 0)&&decide (l.getD i 0≤3))with
  |true=>rw[cnt,Zg (by omega) (by omega),cnt]
  |false=>rw[cnf,cnf]) (by
  unfold Zbb
  rw[Zc (by omega)])
 rw[hr1,Ze,hr2,XaU]
 simp only[Xbu]
theorem Zxs (r0:ZE) (h:ZcG r0):ZbB r0.2.2.2.2 r0=some (!r0.2.2.2.2.all (Zxk r0)):=by
 obtain⟨h1,h2,h3,h4⟩:=h
 unfold ZbB ZcM
 obtain⟨r,hr1,hr2⟩:=ZfV (f:=Zbc r0.2.2.2.2 r0) r0.2.2.2.2 [] (fun x=>!Zxk r0 x) (fun i hi=>by
  have hx:=h4 _ (ZB (d:=[]) hi)
  unfold Zbc ZmW
  rw[Zd (by omega),Zb ⟨by omega,by omega⟩,Xaa]
  unfold Zxk
  by_cases hl:((r0.2.2.2.2.getD i []).length:Int)=r0.2.1.length
  ·rw[Zc4 hl,Zvp _ (by omega),Ze,Ze,Xae hl,Xag]
   cases (r0.2.2.2.2.getD i []).all Zc3 with
   |true=>rw[cnt,Zg (by omega) (by omega),cnt]
   |false=>rw[cnf,cnf]
  ·rw[Zf6 hl,Ze,ctt,decide_eq_false hl,Xad,cnf]) (by
  unfold Zbc
  rw[Zc (by omega)])
 rw[hr1,Ze,hr2,XaU]
 simp only[Xbu]
theorem Zv7 (r:ZE) (h:ZcG r):Zdl r ()=some (.inr (ZfK r)):=by
 obtain⟨h1,h2,h3,h4⟩:=h
 unfold Zdl ZfK
 cases r.1==1 with
 |true=>
  rw[ctt,ctt]
  unfold ZyV
  by_cases hl:(r.2.2.1.length:Int)=r.2.1.length
  ·rw[Zu hl,Xae hl,Xag,Zbu,Ze]
   cases (decide (-1000≤r.2.2.2.1)&&decide (r.2.2.2.1≤1000))with
   |true=>rw[ctt,Zxr _ (by omega),Ze,Xag,Xbu]
   |false=>rw[cff,Xad]
  ·rw[Zs hl,decide_eq_false hl,Xad]
 |false=>
  rw[cff,cff]
  cases r.1==3 with
  |true=>
   rw[ctt,ctt]
   unfold ZIj
   by_cases hl:(r.2.2.2.2.length:Int)≤8
   ·rw[Zd hl,Xae hl,Xag,Zxs r ⟨h1,h2,h3,h4⟩,Ze,Xbu]
   ·rw[Zc hl,decide_eq_false hl,Xad]
  |false=>
   rw[cff,cff]
   cases r.1==4 with
   |true=>
    rw[ctt,ctt]
    congr 2
    rw[Xbx,beq_iff_eq,decide_eq_true_iff]
    omega
   |false=>rw[cff,cff]
theorem Zyh (r:ZE) (n:Int) (h:ZcG r) (hn:0≤n∧n≤4000000000):Zly r n=some (Zex n r):=by
 have hs:=h
 obtain⟨h1,h2,h3,h4⟩:=h
 unfold Zly Zex ZnJ
 rw[Zb4 r.2.1.length (Zlu r.2.1 n) false (decide (1≤r.2.1.length)&&(ZAe r&&ZfK r))]
 ·cases (List.range r.2.1.length).all (Zlu r.2.1 n)<;>rfl
 ·intro i hi _
  unfold ZhU Zlu
  rw[Zd (by omega),Zb ⟨by omega,by omega⟩,Zg (by omega) (by omega),Xaa,Zbu,Ze]
  cases (decide (0≤r.2.1.getD i 0)&&decide (r.2.1.getD i 0≤n - 1))with
  |false=>rw[cnf,Xad,cff]
  |true=>
   rw[cnt,Xag,Zb ⟨by omega,by omega⟩,Zs4 _ _ (by rw[Xay];omega),Ze]
   cases (r.2.1.take i).any (fun x=>r.2.1.getD i 0==x)with
   |true=>rw[ctt,cnt]
   |false=>rw[cff,Zg (by omega) (by omega),cnf]
 ·unfold ZhU
  rw[Zc (by omega)]
  by_cases h0:r.2.1.length=0
  ·rw[Zu (by omega),show decide (1≤r.2.1.length)=false from decide_eq_false (by omega),Xad]
  ·rw[Zs (by omega),show decide (1≤r.2.1.length)=true from Xae (by omega),Xag,Zv7 r hs]
   unfold ZAe
   have e3:(r.1 != 3) = !(r.1==3):=rfl
   have e1:(r.1 != 1) = !(r.1==1):=rfl
   rw[e1,e3]
   have hrows:(cond (decide ((0:Int)<(r.2.2.2.2.length:Int))) (some (Sum.inr false)) (some (Sum.inr (ZfK r))):Option (Int⊕Bool))=some (Sum.inr (decide (r.2.2.2.2.length=0)&&ZfK r)):=by
    by_cases hq:(0:Int)<r.2.2.2.2.length
    ·rw[Zd hq,show decide (r.2.2.2.2.length=0)=false from decide_eq_false (by omega),Xad]
    ·rw[Zc hq,show decide (r.2.2.2.2.length=0)=true from Xae (by omega),Xag]
   rw[hrows]
   cases r.1==1 with
   |true=>
    rw[cnt,XbQ,Xag]
    cases r.1==3 with
    |true=>rw[cnt,XbQ,Xag]
    |false=>rw[cnf,XbB]
   |false=>
    rw[cnf,XbB]
    by_cases hc:(0:Int)<r.2.2.1.length
    ·rw[Zd hc,show decide (r.2.2.1.length=0)=false from decide_eq_false (by omega),Xad,Xad,Xad]
    ·rw[Zc hc,show decide (r.2.2.1.length=0)=true from Xae (by omega),Xag]
     have eb:(r.2.2.2.1 != 0) = !(r.2.2.2.1==0):=rfl
     rw[eb]
     cases r.2.2.2.1==0 with
     |false=>rw[cnf,Xad,Xad]
     |true=>
      rw[cnt,Xag]
      cases r.1==3 with
      |true=>rw[cnt,XbQ,Xag]
      |false=>rw[cnf,XbB]
theorem ZwN:∀(l:List Int),l.all Zc3=true→0≤Zl7 l∧Zl7 l≤4*l.length:=by
 have key:∀(l:List Int) (a:Int),l.all Zc3=true→a≤l.foldl (fun a n=>a+(n+1)) a∧l.foldl (fun a n=>a+(n+1)) a≤a+4*l.length:=by
  intro l
  induction l with
  |nil=>intro a _;simp
  |cons x r ih=>
   intro a h
   rw[List.all_cons,Xaf]at h
   have hx:=h.1
   unfold Zc3 at hx
   simp only[Xaf,Xai]at hx
   obtain⟨i1,i2⟩:=ih (a+(x+1)) h.2
   rw[Xbf,Xal]
   omega
 intro l h
 have:=key l 0 h
 unfold Zl7
 omega
theorem ZDh (m:Zt) (h:Zds m):Zbo m.2 m=some (!m.2.all (Zex m.1.length)):=by
 obtain⟨h1,h2,h3⟩:=h
 unfold Zbo Zca
 obtain⟨r,hr1,hr2⟩:=ZfV (f:=Z0 m.2 m) m.2 (0,([],([],(0,[])))) (fun x=>!Zex m.1.length x) (fun i hi=>by
  unfold Z0 ZlX
  rw[Zd (by omega),Zb ⟨by omega,by omega⟩,Xaa,Zyh _ _ (h3 _ (ZB hi)) ⟨by omega,by omega⟩,Ze,Ze]
  cases Zex m.1.length (m.2.getD i (0,([],([],(0,[])))))with
  |true=>rw[cnt,Zg (by omega) (by omega),cnt]
  |false=>rw[cnf,cnf]) (by
  unfold Z0
  rw[Zc (by omega)])
 rw[hr1,Ze,hr2,XaU]
 simp only[Xbu]
theorem Zxw (l:List Int) (x:Int):Zl7 (l++[x])=Zl7 l+(x+1):=by unfold Zl7;rw[Xa5];rfl
theorem Zvw {l:List Int} {i:Nat} (h:∀j,j<i→Zc3 (l.getD j 0)=true):(l.take i).all Zc3=true:=by
 rw[Xan]
 intro x hx
 obtain⟨j,hj,rfl⟩:=Xaq.1 hx
 rw[Xay]at hj
 have:=h j (by omega)
 rw[Xab,Xac (by omega)]at this
 rw[Xbo]
 exact this
theorem ZlM {l:List Int} {i:Nat} (h:i<l.length):l.take (i+1)=l.take i++[l.getD i 0]:=by
 rw[Xa4,Xab,Xac h]
 rfl
theorem Zk1 (m:Zt) (h:Zds m):Ze1 m=some (ZF m):=by
 have hs:=h
 obtain⟨h1,h2,h3⟩:=h
 unfold Ze1 ZF
 rw[Zbu,Ze,show decide ((1:Int)≤m.1.length)=decide (1≤m.1.length) from decide_eq_decide.2 (by omega),show decide ((m.1.length:Int)≤5)=decide (m.1.length≤5) from decide_eq_decide.2 (by omega)]
 cases hw:(decide (1≤m.1.length)&&decide (m.1.length≤5))with
 |false=>rw[cnf,Xad]
 |true=>
  simp only[Xaf,Xai]at hw
  rw[cnt,Xag]
  by_cases h8:m.2.length≤8
  ·rw[Zc (by omega),Xae h8,Xag]
   refine ZH (fun s:Int×Int=>∃i:Nat,s.2=i∧i≤m.1.length∧s.1=Zl7 (m.1.take i)∧∀j,j<i→Zc3 (m.1.getD j 0)=true) (fun s=>m.1.length - s.2.toNat) (fun _=>m.1.all Zc3&&(decide (Zl7 m.1≤12)&&m.2.all (Zex m.1.length))) ?_ _ ⟨0,rfl,Nat.zero_le _,rfl,fun j hj=>by omega⟩
   rintro⟨c,s⟩ ⟨i,rfl,hi,hc,hpre⟩
   dsimp only at hc ⊢
   subst hc
   have hb:=ZwN _ (Zvw hpre)
   rw[Xay]at hb
   unfold Zk2
   dsimp only
   rcases Xah i m.1.length with h5|h5
   ·rw[Zd (by omega),Zb ⟨by omega,by omega⟩,Xaa,Zbu,Ze]
    cases hq:(decide (0≤m.1.getD i 0)&&decide (m.1.getD i 0≤3))with
    |false=>
     right
     rw[cnf,List.all_eq_false.2 ⟨_,ZB h5,by unfold Zc3;rw[hq];simp⟩,Xad]
    |true=>
     left
     have hq2:=hq
     simp only[Xaf,Xai]at hq2
     rw[cnt,Zg (by omega) (by omega),Zg (by omega) (by omega),Zg (by omega) (by omega)]
     refine⟨_,rfl,⟨i+1,by simp,by omega,?_,fun j hj=>?_⟩,by dsimp only;omega,rfl⟩
     ·dsimp only
      rw[ZlM h5,Zxw]
     ·rcases Xah j i with h6|h6
      ·exact hpre j h6
      ·rw[show j=i by omega];exact hq
   ·right
    have:i=m.1.length:=by omega
    subst this
    have hall:m.1.all Zc3=true:=by
     have:=Zvw hpre
     rwa [XaY (Nat.le_refl _)]at this
    rw[Zc (by omega),hall,Xag,XaY (Nat.le_refl _)]
    by_cases h12:Zl7 m.1≤12
    ·rw[Zd h12,Xae h12,Xag,ZDh m hs,Ze,Xbu]
    ·rw[Zc h12,decide_eq_false h12,Xad]
  ·rw[Zd (by omega),decide_eq_false h8,Xad]
theorem ZBV {l:List Int} {i:Nat} (h:l.length≤4000000000) (hi:i<l.length):loop (Zix l i) (0:Int)=some (bif (l.take i).any (fun x=>l.getD i 0==x)then Sum.inr false else Sum.inl ((i:Int)+1)):=by
 rw[ZJ8 (by omega),Zb4 i (fun k=>!(l.getD k 0==l.getD i 0)) (Sum.inr false) (Sum.inl ((i:Int)+1))]
 ·cases (List.range i).all (fun k=>!(l.getD k 0==l.getD i 0))<;>rfl
 ·intro k hk _
  unfold Zix
  rw[Zd (by omega),Zb ⟨by omega,by omega⟩,Zb ⟨by omega,by omega⟩,Xaa,Xaa]
  cases l.getD k 0==l.getD i 0 with
  |true=>rw[ctt,Xa2,cff]
  |false=>rw[cff,Zg (by omega) (by omega),Xa7,ctt]
 ·unfold Zix
  rw[Zc (by omega),Zg (by omega) (by omega)]
theorem ZBU (m:Zt) (l:List Int) (h:l.length≤4000000000) (_hm:m.1.length≤4000000000):Zpj m l=some (ZnJ l m.1.length&&decide (1≤l.length)):=by
 unfold Zpj ZnJ
 rw[Zb4 l.length (Zlu l m.1.length) false (decide (1≤l.length))]
 ·cases (List.range l.length).all (Zlu l m.1.length)<;>rfl
 ·intro i hi _
  unfold ZlL Zlu
  rw[Zd (by omega),Zb ⟨by omega,by omega⟩,Xaa]
  by_cases h1:l.getD i 0<0
  ·rw[Zd h1,decide_eq_false (show ¬0≤l.getD i 0 by omega),Xad,Xad,cff]
  ·rw[Zc h1,Zb ⟨by omega,by omega⟩,Xae (show 0≤l.getD i 0 by omega),Xag]
   by_cases h2:(m.1.length:Int)≤l.getD i 0
   ·rw[Zd h2,decide_eq_false (show ¬l.getD i 0≤(m.1.length:Int) - 1 by omega),Xad,cff]
   ·rw[Zc h2,Xae (show l.getD i 0≤(m.1.length:Int) - 1 by omega),Xag,ZBV h hi]
    cases (l.take i).any (fun x=>l.getD i 0==x)with
    |true=>rw[ctt,Xa2,cff]
    |false=>rw[cff,Xa7,ctt]
 ·unfold ZlL
  rw[Zc (by omega)]
  congr 2
  exact decide_eq_decide.2 (by omega)
theorem Zzb (r:ZE) (h:ZcG r):ZmG r=some (ZyV r):=by
 obtain⟨h1,h2,h3,h4⟩:=h
 unfold ZmG ZyV
 rw[←Zg7 r.2.2.1 Zo2 0,Zb4 r.2.2.1.length (fun i=>Zo2 (r.2.2.1.getD i 0)) false (decide ((r.2.2.1.length:Int)=r.2.1.length)&&(decide (-1000≤r.2.2.2.1)&&decide (r.2.2.2.1≤1000)))]
 ·cases (List.range r.2.2.1.length).all (fun i=>Zo2 (r.2.2.1.getD i 0))with
  |true=>rw[ctt,XbC]
  |false=>rw[cff,XaM,XaM]
 ·intro i hi _
  unfold Zjd Zo2
  rw[Zd (by omega),Zb ⟨by omega,by omega⟩,Xaa]
  by_cases h5:r.2.2.1.getD i 0 < -9
  ·rw[Zd h5,decide_eq_false (show ¬ -9≤r.2.2.1.getD i 0 by omega),Xad,XaM,cff]
  ·rw[Zc h5,Zb ⟨by omega,by omega⟩,Xae (show -9≤r.2.2.1.getD i 0 by omega),Xag]
   by_cases h6:9<r.2.2.1.getD i 0
   ·rw[Zd h6,decide_eq_false (show ¬r.2.2.1.getD i 0≤9 by omega),XaM,cff]
   ·rw[Zc h6,Zb ⟨by omega,by omega⟩,Xae (show r.2.2.1.getD i 0≤9 by omega),XbC,bne]
    cases r.2.2.1.getD i 0==0 with
    |true=>rw[ctt,Xa2,cff]
    |false=>rw[cff,Zg (by omega) (by omega),Xa7,ctt]
 ·unfold Zjd
  rw[Zc (by omega)]
  by_cases hl:(r.2.2.1.length:Int)=r.2.1.length
  ·rw[Zu hl,Xae hl,Xag]
   by_cases h5 : -1000≤r.2.2.2.1
   ·rw[Zd h5,Xae h5,Xag]
   ·rw[Zc h5,decide_eq_false h5,Xad]
  ·rw[Zs hl,decide_eq_false hl,Xad]
theorem ZAh (r:ZE) (h:ZcG r) {i:Nat} (hi:i<r.2.2.2.2.length):loop (Zhr r i) (0:Int)=some (bif (r.2.2.2.2.getD i []).all Zc3 then Sum.inl ((i:Int)+1)else Sum.inr false):=by
 obtain⟨h1,h2,h3,h4⟩:=h
 have hx:=h4 _ (ZB (d:=[]) hi)
 rw[←Zg7 (r.2.2.2.2.getD i []) Zc3 0,Zb4 (r.2.2.2.2.getD i []).length (fun k=>Zc3 ((r.2.2.2.2.getD i []).getD k 0)) (Sum.inr false) (Sum.inl ((i:Int)+1))]
 ·intro k hk _
  unfold Zhr Zc3
  rw[Zb ⟨by omega,by omega⟩,Xaa,Zd (by omega),Zb ⟨by omega,by omega⟩,Zb ⟨by omega,by omega⟩,Xaa]
  by_cases h5:(r.2.2.2.2.getD i []).getD k 0<0
  ·rw[Zd h5,decide_eq_false (show ¬0≤(r.2.2.2.2.getD i []).getD k 0 by omega),Xad,cff]
  ·rw[Zc h5,Zb ⟨by omega,by omega⟩,Zb ⟨by omega,by omega⟩,Xae (show 0≤(r.2.2.2.2.getD i []).getD k 0 by omega),Xag]
   by_cases h6:3<(r.2.2.2.2.getD i []).getD k 0
   ·rw[Zd h6,decide_eq_false (show ¬(r.2.2.2.2.getD i []).getD k 0≤3 by omega),cff]
   ·rw[Zc h6,Xae (show (r.2.2.2.2.getD i []).getD k 0≤3 by omega),Zg (by omega) (by omega),ctt]
 ·unfold Zhr
  rw[Zb ⟨by omega,by omega⟩,Xaa,Zc (by omega),Zg (by omega) (by omega)]
theorem ZAg (r:ZE) (h:ZcG r):Zoi r=some (ZIj r):=by
 have hs:=h
 obtain⟨h1,h2,h3,h4⟩:=h
 unfold Zoi ZIj
 rw[←Zg7 r.2.2.2.2 (Zxk r) [],Zb4 r.2.2.2.2.length (fun i=>Zxk r (r.2.2.2.2.getD i [])) false (decide ((r.2.2.2.2.length:Int)≤8))]
 ·cases (List.range r.2.2.2.2.length).all (fun i=>Zxk r (r.2.2.2.2.getD i []))with
  |true=>rw[ctt,XbC]
  |false=>rw[cff,XaM]
 ·intro i hi _
  unfold ZkD Zxk
  rw[Zd (by omega),Zb ⟨by omega,by omega⟩,Xaa]
  by_cases hl:((r.2.2.2.2.getD i []).length:Int)=r.2.1.length
  ·rw[Zc4 hl,Xae hl,Xag,ZAh r hs hi]
  ·rw[Zf6 hl,decide_eq_false hl,Xad,cff]
 ·unfold ZkD
  rw[Zc (by omega)]
theorem Zzc (r:ZE) (h:ZcG r):Zet r ()=some (ZfK r):=by
 unfold Zet ZfK
 cases h1:(r.1==1)with
 |true=>rw[ctt,ctt,Zzb r h,Ze]
 |false=>
  rw[cff,cff]
  cases h2:(r.1==2)with
  |true=>
   have:r.1=2:=by simpa using h2
   rw[ctt,this]
   rfl
  |false=>
   rw[cff]
   cases h3:(r.1==3)with
   |true=>rw[ctt,ctt,ZAg r h,Ze]
   |false=>
    rw[cff,cff]
    cases h4:(r.1==4)with
    |true=>
     rw[ctt,ctt]
     congr 1
     rw[Xbx,beq_iff_eq,decide_eq_true_iff]
     omega
    |false=>rw[cff,cff]
theorem ZBT (m:Zt) (r:ZE) (h:ZcG r) (hm:m.1.length≤4000000000):Zpi m r=some (Zex m.1.length r):=by
 have hs:=h
 obtain⟨h1,h2,h3,h4⟩:=h
 unfold Zpi Zex
 rw[ZBU m _ (by omega) hm,Ze,Zzc r hs]
 cases ZnJ r.2.1 m.1.length with
 |false=>rw[Xad,Xad,cnf]
 |true=>
  rw[Xag,Xag]
  cases decide (1≤r.2.1.length)with
  |false=>rw[cnf,Xad]
  |true=>
   rw[cnt,Xag]
   unfold ZAe
   have e3:(r.1 != 3) = !(r.1==3):=rfl
   have e1:(r.1 != 1) = !(r.1==1):=rfl
   rw[e1,e3]
   have hrows:(cond ((r.2.2.2.2.length:Int) != (0:Int)) (some false) (some (ZfK r)):Option Bool)=some (decide (r.2.2.2.2.length=0)&&ZfK r):=by
    by_cases hq:r.2.2.2.2.length=0
    ·rw[Zc4 (by omega),Xae hq,Xag]
    ·rw[Zf6 (by omega),decide_eq_false hq,Xad]
   rw[hrows]
   cases r.1==1 with
   |true=>
    rw[cnt,XbQ,Xag]
    cases r.1==3 with
    |true=>rw[cnt,XbQ,Xag]
    |false=>rw[cnf,XbB]
   |false=>
    rw[cnf,XbB]
    by_cases hc:r.2.2.1.length=0
    ·rw[Zc4 (by omega),Xae hc,Xag]
     have eb:(r.2.2.2.1 != 0) = !(r.2.2.2.1==0):=rfl
     rw[eb]
     cases r.2.2.2.1==0 with
     |false=>rw[cnf,Xad,Xad]
     |true=>
      rw[cnt,Xag]
      cases r.1==3 with
      |true=>rw[cnt,XbQ,Xag]
      |false=>rw[cnf,XbB]
    ·rw[Zf6 (by omega),decide_eq_false hc,Xad,Xad,Xad]
theorem Zoe (m:Zt) (c:Int) (h:Zds m):ZeU m c=some ((decide (1≤m.1.length)&&decide (m.1.length≤5))&&(decide (m.2.length≤8)&&(decide (c≤12)&&m.2.all (Zex m.1.length)))):=by
 obtain⟨h1,h2,h3⟩:=h
 unfold ZeU
 by_cases q1:1≤m.1.length
 ·rw[Zc (by omega),Xae q1,Xag]
  by_cases q2:m.1.length≤5
  ·rw[Zc (by omega),Xae q2,Xag]
   by_cases q3:c≤12
   ·rw[Zc (by omega),Xae q3,Xag]
    by_cases q4:m.2.length≤8
    ·rw[Zc (by omega),Xae q4,Xag,←Zg7 m.2 (Zex m.1.length) (0,([],([],(0,[])))),
      Zb4 m.2.length (fun i=>Zex m.1.length (m.2.getD i (0,([],([],(0,[])))))) false true]
     ·cases (List.range m.2.length).all (fun i=>Zex m.1.length (m.2.getD i (0,([],([],(0,[]))))))<;>rfl
     ·intro i hi _
      unfold Zhn
      rw[Zd (by omega),Zb ⟨by omega,by omega⟩,Xaa,ZBT m _ (h3 _ (ZB hi)) (by omega),Ze]
      cases Zex m.1.length (m.2.getD i (0,([],([],(0,[])))))with
      |true=>rw[cnt,Zg (by omega) (by omega),ctt]
      |false=>rw[cnf,cff]
     ·unfold Zhn
      rw[Zc (by omega)]
    ·rw[Zd (by omega),decide_eq_false q4,Xad]
   ·rw[Zd (by omega),decide_eq_false q3,Xad,XaM]
  ·rw[Zd (by omega),decide_eq_false q2,Xad]
 ·rw[Zd (by omega),decide_eq_false q1,Xad,Xad]
theorem Zlc (m:Zt) (h:Zds m):Ze8 m=some (ZF m):=by
 have hs:=h
 obtain⟨h1,h2,h3⟩:=h
 unfold Ze8
 refine ZH (fun s:Int×Int=>∃i:Nat,s.2=i∧i≤m.1.length∧i≤5∧s.1=Zl7 (m.1.take i)∧∀j,j<i→Zc3 (m.1.getD j 0)=true) (fun s=>m.1.length - s.2.toNat) (fun _=>ZF m) ?_ _ ⟨0,rfl,Nat.zero_le _,by omega,rfl,fun j hj=>by omega⟩
 rintro⟨c,s⟩ ⟨i,rfl,hi,hi5,hc,hpre⟩
 dsimp only at hc ⊢
 subst hc
 have hb:=ZwN _ (Zvw hpre)
 rw[Xay]at hb
 unfold Zld
 dsimp only
 have ups:∀x:Option Bool,∀b,x=some b→(up x:Option ((Int×Int)⊕Bool))=some (.inr b):=fun x b hx=>by rw[hx];rfl
 rcases Xah i m.1.length with h5|h5
 ·rw[Zd (by omega)]
  by_cases h6:i<5
  ·rw[Zd (by omega),Zb ⟨by omega,by omega⟩,Xaa]
   have bad:Zc3 (m.1.getD i 0)=false→ZF m=false:=fun hq=>by
    unfold ZF
    rw[List.all_eq_false.2 ⟨_,ZB h5,by rw[hq];simp⟩,Xad,XaM,XaM]
   by_cases h7:m.1.getD i 0<0
   ·right
    rw[Zd h7,bad (by unfold Zc3;rw[decide_eq_false (by omega),Xad])]
   ·rw[Zc h7,Zb ⟨by omega,by omega⟩]
    by_cases h8:3<m.1.getD i 0
    ·right
     rw[Zd h8,bad (by unfold Zc3;rw[show decide (m.1.getD i 0≤3)=false from decide_eq_false (by omega),XaM])]
    ·left
     rw[Zc h8,Zb ⟨by omega,by omega⟩,Zg (by omega) (by omega),Zg (by omega) (by omega),Zg (by omega) (by omega)]
     refine⟨_,rfl,⟨i+1,by simp,by omega,by omega,?_,fun j hj=>?_⟩,by dsimp only;omega,rfl⟩
     ·dsimp only
      rw[ZlM h5,Zxw]
      omega
     ·rcases Xah j i with h9|h9
      ·exact hpre j h9
      ·rw[show j=i by omega]
       unfold Zc3
       rw[Xae (by omega),Xae (by omega)];rfl
  ·right
   rw[Zc (by omega),ups _ _ (Zoe m _ hs)]
   unfold ZF
   rw[show decide (m.1.length≤5)=false from decide_eq_false (by omega),XaM,Xad,Xad]
 ·right
  have:i=m.1.length:=by omega
  subst this
  have hall:m.1.all Zc3=true:=by
   have:=Zvw hpre
   rwa [XaY (Nat.le_refl _)]at this
  rw[Zc (by omega),ups _ _ (Zoe m _ hs),XaY (Nat.le_refl _)]
  unfold ZF
  rw[hall,Xag]
end Go.AE.Y
namespace Go.AE.Y
open Go Go.AE
@[reducible] def ZJm:Ty:=.pair (.int .i64) (.pair (.sl (.int .i64)) (.pair (.sl (.int .i64)) (.pair (.int .i64) (.sl (.sl (.int .i64))))))
@[reducible] def ZHa:Ty:=.pair (.sl (.int .i64)) (.sl ZJm)
theorem Zts (a:List Int) (left:Int) (h0:0≤left) (h1:left≤1048576) (h:a.length≤maxLen) :
  ∃r,ZhC a left=some r∧r≤left∧(0≤r→a.length≤1048576):=by
 simp only[maxLen]at h
 unfold ZhC
 rw[Zg (by omega) (by omega)]
 by_cases h2:left - (a.length:Int)<0
 ·exact⟨-1,by rw[Zd h2],by omega,by omega⟩
 ·exact⟨_,by rw[Zc h2],by omega,by omega⟩
theorem ZIf (a:List (List Int)) (left:Int) (h0:0≤left) (h1:left≤1048576) (h:a.length≤maxLen) (hx:∀x∈a,x.length≤maxLen) :
  ∃r,ZnW a left=some r∧r≤left∧(0≤r→a.length≤1048576∧∀x∈a,x.length≤1048576):=by
 have h':=h
 simp only[maxLen]at h'
 unfold ZnW
 rw[Zg (by omega) (by omega)]
 by_cases h2:left - (a.length:Int)<0
 ·exact⟨-1,by rw[Zd h2],by omega,by omega⟩
 ·rw[Zc h2]
  refine Zis (fun s:Int×Int=>∃i:Nat,s.2=i∧i≤a.length∧0≤s.1∧s.1≤left∧∀j,j<i→(a.getD j []).length≤1048576) (fun s=>a.length - s.2.toNat)
   (fun r=>r≤left∧(0≤r→a.length≤1048576∧∀x∈a,x.length≤1048576)) ?_ _ ⟨0,rfl,Nat.zero_le _,by dsimp only;omega,by dsimp only;omega,fun j hj=>by omega⟩
  rintro⟨l1,s⟩ ⟨i,rfl,hi,hl0,hl1,hpre⟩
  dsimp only at hl0 hl1 ⊢
  unfold ZnX
  dsimp only
  rcases Xah i a.length with h3|h3
  ·obtain⟨r,hr1,hr2,hr3⟩:=Zts (a.getD i []) l1 hl0 (by omega) (hx _ (ZB h3))
   rw[Zd (by omega),Zb ⟨by omega,by omega⟩,Xaa,hr1,Ze]
   by_cases hr:r<0
   ·right
    rw[Zd hr]
    exact⟨-1,rfl,by omega,by omega⟩
   ·left
    rw[Zc hr,Zg (by omega) (by omega)]
    refine⟨_,rfl,⟨i+1,by simp,by omega,by dsimp only;omega,by dsimp only;omega,fun j hj=>?_⟩,by dsimp only;omega⟩
    rcases Xah j i with h4|h4
    ·exact hpre j h4
    ·rw[show j=i by omega];exact hr3 (by omega)
  ·right
   have:i=a.length:=by omega
   subst this
   rw[Zc (by omega)]
   refine⟨_,rfl,hl1,fun _=>⟨by omega,fun x hx'=>?_⟩⟩
   obtain⟨j,hj,rfl⟩:=Xaq.1 hx'
   have:=hpre j hj
   simpa [Xab,hj]using this
theorem ZJg (a:ZE) (left:Int) (h0:0≤left) (h1:left≤1048576) (h:okD ZJm a) :
  ∃r,Zo6 a left=some r∧r≤left∧(0≤r→ZcG a):=by
 obtain⟨_,⟨k1,_⟩,⟨k2,_⟩,_,⟨k3,k4⟩⟩:=h
 unfold Zo6
 obtain⟨r1,e1,q1,p1⟩:=Zts a.2.1 left h0 h1 k1
 rw[e1,Ze]
 by_cases g1:r1<0
 ·exact⟨-1,by rw[Zd g1],by omega,by omega⟩
 obtain⟨r2,e2,q2,p2⟩:=Zts a.2.2.1 r1 (by omega) (by omega) k2
 rw[Zc g1,e2,Ze]
 by_cases g2:r2<0
 ·exact⟨-1,by rw[Zd g2],by omega,by omega⟩
 obtain⟨r3,e3,q3,p3⟩:=ZIf a.2.2.2.2 r2 (by omega) (by omega) k3 (fun x hx=>(k4 x hx).1)
 rw[Zc g2,e3,Ze]
 by_cases g3:r3<0
 ·exact⟨-1,by rw[Zd g3],by omega,by omega⟩
 ·refine⟨r3,by rw[Zc g3],by omega,fun _=>⟨p1 (by omega),p2 (by omega),(p3 (by omega)).1,(p3 (by omega)).2⟩⟩
theorem ZIg (m:Zt) (h:okD ZHa m):∃r,ZnY m 1048576=some r∧r≤1048576∧(r<0∨Zds m):=by
 obtain⟨⟨k1,_⟩,⟨k2,k3⟩⟩:=h
 unfold ZnY
 obtain⟨r1,e1,q1,p1⟩:=Zts m.1 1048576 (by omega) (by omega) k1
 rw[e1,Ze]
 by_cases g1:r1<0
 ·exact⟨-1,by rw[Zd g1],by omega,by omega⟩
 rw[Zc g1]
 have k2':=k2
 simp only[maxLen]at k2'
 have key:∃r2,ZnZ m.2 r1=some r2∧r2≤1048576∧(0≤r2→m.2.length≤1048576∧∀x∈m.2,ZcG x):=by
  unfold ZnZ
  rw[Zg (by omega) (by omega)]
  by_cases h2:r1 - (m.2.length:Int)<0
  ·exact⟨-1,by rw[Zd h2],by omega,by omega⟩
  ·rw[Zc h2]
   refine Zis (fun s:Int×Int=>∃i:Nat,s.2=i∧i≤m.2.length∧0≤s.1∧s.1≤1048576∧∀j,j<i→ZcG (m.2.getD j (0,([],([],(0,[])))))) (fun s=>m.2.length - s.2.toNat)
    (fun r=>r≤1048576∧(0≤r→m.2.length≤1048576∧∀x∈m.2,ZcG x)) ?_ _ ⟨0,rfl,Nat.zero_le _,by dsimp only;omega,by dsimp only;omega,fun j hj=>by omega⟩
   rintro⟨l1,s⟩ ⟨i,rfl,hi,hl0,hl1,hpre⟩
   dsimp only at hl0 hl1 ⊢
   unfold Zn0
   dsimp only
   rcases Xah i m.2.length with h3|h3
   ·obtain⟨r,hr1,hr2,hr3⟩:=ZJg (m.2.getD i (0,([],([],(0,[]))))) l1 hl0 (by omega) (k3 _ (ZB h3))
    rw[Zd (by omega),Zb ⟨by omega,by omega⟩,Xaa,hr1,Ze]
    by_cases hr:r<0
    ·right
     rw[Zd hr]
     exact⟨-1,rfl,by omega,by omega⟩
    ·left
     rw[Zc hr,Zg (by omega) (by omega)]
     refine⟨_,rfl,⟨i+1,by simp,by omega,by dsimp only;omega,by dsimp only;omega,fun j hj=>?_⟩,by dsimp only;omega⟩
     rcases Xah j i with h4|h4
     ·exact hpre j h4
     ·rw[show j=i by omega];exact hr3 (by omega)
   ·right
    have:i=m.2.length:=by omega
    subst this
    rw[Zc (by omega)]
    refine⟨_,rfl,by omega,fun _=>⟨by omega,fun x hx'=>?_⟩⟩
    obtain⟨j,hj,rfl⟩:=Xaq.1 hx'
    have:=hpre j hj
    rwa [Xab,Xac hj]at this
 obtain⟨r2,e2,z2,p2⟩:=key
 rw[e2,Ze]
 by_cases g2:r2<0
 ·exact⟨-1,by rw[Zd g2],by omega,by omega⟩
 ·refine⟨r2,by rw[Zc g2],z2,.inr ⟨p1 (by omega),(p2 (by omega)).1,(p2 (by omega)).2⟩⟩
theorem ZIl (a:List (List Int)) (h:a.length≤4000000000) (hx:∀x∈a,x.length≤4000000000):Zn3 a=some a:=by
 unfold Zn3
 rw[Zb (by simp[Zp];omega)]
 rw[Xaa]
 refine(Ztl a [] [] id (fun i out hi ho=>?_) (fun out=>?_)).trans (by simp)
 ·have h2:=hx _ (ZB (d:=[]) hi)
  unfold Zkr
  dsimp only
  rw[Zd (by omega),Zb ⟨by omega,by omega⟩,Xaa,ZiK _ h2,Ze,Zb ⟨by omega,by omega⟩,Zg (by omega) (by omega)]
  rfl
 ·unfold Zkr
  dsimp only
  rw[Zc (by omega)]
theorem ZJk (r:ZE) (h:ZcG r):Zo8 r=some (r.1,r.2.2.2.1,r.2.1,r.2.2.1,r.2.2.2.2):=by
 obtain⟨h1,h2,h3,h4⟩:=h
 unfold Zo8
 rw[ZiK _ (by omega),Ze,ZiK _ (by omega),Ze,ZIl _ (by omega) (fun x hx=>by have:=h4 x hx;omega),Ze]
theorem ZIn (a:List ZE) (h:a.length≤1048576) (hx:∀x∈a,ZcG x):Zn4 a=some a:=by
 unfold Zn4
 rw[Zb (by simp[Zp];omega)]
 rw[Xaa]
 refine(Ztl a (0,([],([],(0,[])))) (0,([],([],(0,[])))) id (fun i out hi ho=>?_) (fun out=>?_)).trans (by simp)
 ·have h2:=hx _ (ZB (d:=(0,([],([],(0,[]))))) hi)
  unfold Zks
  dsimp only
  rw[Zd (by omega),Zb ⟨by omega,by omega⟩,Xaa,ZJk _ h2,Ze,Zb ⟨by omega,by omega⟩,Zg (by omega) (by omega)]
  rfl
 ·unfold Zks
  dsimp only
  rw[Zc (by omega)]
theorem ZIm (m:Zt) (h:Zds m):Ziq m=some m:=by
 obtain⟨h1,h2,h3⟩:=h
 unfold Ziq
 rw[ZiK _ (by omega),Ze,ZIn _ h2 h3,Ze]
theorem ZEq (a:List (List Int)) (h:a.length≤4000000000) (hx:∀x∈a,x.length≤4000000000):ZnR a a=some true:=by
 unfold ZnR
 rw[Zc4 rfl,Zb4 a.length (fun _=>true) false true]
 ·rw[Xan.2 (fun _ _=>rfl)];rfl
 ·intro i hi _
  unfold Zkm
  rw[Zd (by omega),Zb ⟨by omega,by omega⟩,Zb ⟨by omega,by omega⟩,Xaa,ZjO _ (hx _ (ZB hi)),Ze,cnt,Zg (by omega) (by omega),ctt]
 ·unfold Zkm
  rw[Zc (by omega)]
theorem ZF8 (r:ZE) (h:ZcG r):Zo4 r r=some true:=by
 obtain⟨h1,h2,h3,h4⟩:=h
 unfold Zo4
 rw[Zc4 rfl,ZjO _ (by omega),Ze,cnt,ZjO _ (by omega),Ze,cnt,Zc4 rfl,ZEq _ (by omega) (fun x hx=>by have:=h4 x hx;omega),Ze,cnt]
theorem ZEr (m:Zt) (h:Zds m):ZnS m m=some true:=by
 obtain⟨h1,h2,h3⟩:=h
 unfold ZnS
 have key:ZnT m.2 m.2=some true:=by
  unfold ZnT
  rw[Zc4 rfl,Zb4 m.2.length (fun _=>true) false true]
  ·rw[Xan.2 (fun _ _=>rfl)];rfl
  ·intro i hi _
   unfold Zkn
   rw[Zd (by omega),Zb ⟨by omega,by omega⟩,Zb ⟨by omega,by omega⟩,Xaa,ZF8 _ (h3 _ (ZB hi)),Ze,cnt,Zg (by omega) (by omega),ctt]
  ·unfold Zkn
   rw[Zc (by omega)]
 rw[ZjO _ (by omega),Ze,cnt,key,Ze,cnt]
theorem Zfi {m:Zt} (h:ZF m=true):1≤m.1.length∧m.1.length≤5∧m.2.length≤8:=by
 unfold ZF at h
 simp only[Xaf,Xai]at h
 exact⟨h.1.1,h.1.2,h.2.1⟩
theorem ZIJ {l:List Int} {n:Int} (h:ZnJ l n=true) {i:Nat} (hi:i<l.length):0≤l.getD i 0∧l.getD i 0<n:=by
 unfold ZnJ at h
 have:=Xan.1 h i (XaF.2 hi)
 unfold Zlu at this
 simp only[Xaf,Xai]at this
 omega
end Go.AE.Y
namespace Go.AE.Y
open Go Go.AE
end Go.AE.Y
namespace Go.AE.Y
open Go Go.AE
def wtB (n:Int):Bool:=decide (-9≤n)&&decide (n≤9)
def Zm0 (m:Zt) (c:List Int):Bool:=decide (c.length=m.1.length)&&c.all wtB
def cellAt (m:Zt) (x:List Int) (i:Nat):Bool:=decide (0≤x.getD i 0)&&decide (x.getD i 0≤m.1.getD i 0)
def ZR (m:Zt) (x:List Int):Bool:=decide (x.length=m.1.length)&&(List.range x.length).all (cellAt m x)
def Zct (c x:List Int) (n:Nat):Int:=(List.range n).foldl (fun a i=>a+c.getD i 0*x.getD i 0) 0
theorem Zll (c x:List Int) (n:Nat):Zct c x (n+1)=Zct c x n+c.getD n 0*x.getD n 0:=by
 unfold Zct
 rw[Xbv,Xa5]
 rfl
theorem ZwQ (m:Zt) (x:List Int) (h:Zds m) (hx:x.length≤1048576):Zkk m x=some (ZF m&&ZR m x):=by
 unfold Zkk ZR
 rw[Zk1 m h,Ze]
 cases hm:ZF m with
 |false=>rw[cnf,Xad]
 |true=>
  obtain⟨m1,m2,m3⟩:=Zfi hm
  rw[cnt,Xag]
  by_cases hl:x.length=m.1.length
  ·rw[Zc4 (by omega),Xae hl,Xag,Zb4 x.length (cellAt m x) false true]
   ·cases (List.range x.length).all (cellAt m x)<;>rfl
   ·intro i hi _
    unfold Zhc cellAt
    rw[Zd (by omega),Zb ⟨by omega,by omega⟩,Zb ⟨by omega,by omega⟩,Xaa,Zbu,Ze]
    cases (decide (0≤x.getD i 0)&&decide (x.getD i 0≤m.1.getD i 0))with
    |true=>rw[cnt,Zg (by omega) (by omega),ctt]
    |false=>rw[cnf,cff]
   ·unfold Zhc
    rw[Zc (by omega)]
  ·rw[Zf6 (by omega),decide_eq_false hl,Xad]
theorem ZAf (m:Zt) (x:List Int) (h:Zds m) (hx:x.length≤1048576):Zog m x=some (ZR m x):=by
 have h1:=h.1
 unfold Zog ZR
 by_cases hl:x.length=m.1.length
 ·rw[Zc4 (by omega),Xae hl,Xag,Zb4 x.length (cellAt m x) false true]
  ·cases (List.range x.length).all (cellAt m x)<;>rfl
  ·intro i hi _
   unfold Zkz cellAt
   rw[Zd (by omega),Zb ⟨by omega,by omega⟩,Xaa]
   by_cases q1:x.getD i 0<0
   ·rw[Zd q1,decide_eq_false (show ¬0≤x.getD i 0 by omega),Xad,cff]
   ·rw[Zc q1,Zb ⟨by omega,by omega⟩,Zb ⟨by omega,by omega⟩,Xae (show 0≤x.getD i 0 by omega),Xag]
    by_cases q2:m.1.getD i 0<x.getD i 0
    ·rw[Zd q2,decide_eq_false (show ¬x.getD i 0≤m.1.getD i 0 by omega),cff]
    ·rw[Zc q2,Xae (show x.getD i 0≤m.1.getD i 0 by omega),Zg (by omega) (by omega),ctt]
  ·unfold Zkz
   rw[Zc (by omega)]
 ·rw[Zf6 (by omega),decide_eq_false hl,Xad]
theorem Zor (m:Zt) (c:List Int) (hc:c.length≤1048576):Zgd m c=some (Zm0 m c):=by
 unfold Zgd Zm0
 by_cases hl:c.length=m.1.length
 ·rw[Zu (by omega),Xae hl,Xag]
  unfold Zcg ZcK
  obtain⟨r,hr1,hr2⟩:=ZfV (f:=Zba c) c 0 (fun x=>!wtB x) (fun i hi=>by
   unfold Zba Zk4
   rw[Zd (by omega),Zb ⟨by omega,by omega⟩,Xaa,Zbu,Ze,Ze]
   unfold wtB
   cases (decide (-9≤c.getD i 0)&&decide (c.getD i 0≤9))with
   |true=>rw[cnt,Zg (by omega) (by omega),cnt]
   |false=>rw[cnf,cnf]) (by
   unfold Zba
   rw[Zc (by omega)])
  rw[hr1,Ze,Ze,hr2,XaU]
  simp only[Xbu]
 ·rw[Zs (by omega),decide_eq_false hl,Xad]
theorem Ztr (m:Zt) (c:List Int) (h:Zds m) (hc:c.length≤1048576):Zlj m c=some (ZF m&&Zm0 m c):=by
 unfold Zlj Zm0
 rw[Zlc m h,Ze]
 cases hm:ZF m with
 |false=>rw[cnf,Xad]
 |true=>
  rw[cnt,Xag]
  by_cases hl:c.length=m.1.length
  ·rw[Zc4 (by omega),Xae hl,Xag,←Zg7 c wtB 0,Zb4 c.length (fun i=>wtB (c.getD i 0)) false true]
   ·cases (List.range c.length).all (fun i=>wtB (c.getD i 0))<;>rfl
   ·intro i hi _
    unfold ZkE wtB
    rw[Zd (by omega),Zb ⟨by omega,by omega⟩,Xaa]
    by_cases q1:c.getD i 0 < -9
    ·rw[Zd q1,decide_eq_false (show ¬ -9≤c.getD i 0 by omega),Xad,cff]
    ·rw[Zc q1,Zb ⟨by omega,by omega⟩,Xae (show -9≤c.getD i 0 by omega),Xag]
     by_cases q2:9<c.getD i 0
     ·rw[Zd q2,decide_eq_false (show ¬c.getD i 0≤9 by omega),cff]
     ·rw[Zc q2,Xae (show c.getD i 0≤9 by omega),Zg (by omega) (by omega),ctt]
   ·unfold ZkE
    rw[Zc (by omega)]
  ·rw[Zf6 (by omega),decide_eq_false hl,Xad]
theorem Zni {c x:Int} (hc : -9≤c∧c≤9) (hx:0≤x∧x≤3) : -27≤c*x∧c*x≤27:=by
 have:x=0∨x=1∨x=2∨x=3:=by omega
 rcases this with rfl|rfl|rfl|rfl<;>omega
theorem ZAo {c x:List Int} {n:Nat} (hn:n≤5) (h:∀i,i<n → -27≤c.getD i 0*x.getD i 0∧c.getD i 0*x.getD i 0≤27) : -27*(n:Int)≤Zct c x n∧Zct c x n≤27*n:=by
 induction n with
 |zero=>simp[Zct]
 |succ n ih=>
  have:=ih (by omega) (fun i hi=>h i (by omega))
  have:=h n (by omega)
  rw[Zll]
  omega
theorem ZzP {c x:List Int} (hl:c.length=x.length) (hn:x.length≤5) (h:∀i,i<x.length → -27≤c.getD i 0*x.getD i 0∧c.getD i 0*x.getD i 0≤27):ZnO c x=some (Zct c x x.length):=by
 unfold ZnO
 refine ZH (fun s:Int×Int=>∃i:Nat,s.2=i∧i≤x.length∧s.1=Zct c x i) (fun s=>x.length - s.2.toNat) (fun _=>Zct c x x.length) ?_ _ ⟨0,rfl,Nat.zero_le _,rfl⟩
 rintro⟨a,s⟩ ⟨i,rfl,hi,ha⟩
 dsimp only at ha ⊢
 subst ha
 unfold ZnP
 dsimp only
 rcases Xah i x.length with h1|h1
 ·left
  have hb:=ZAo (c:=c) (x:=x) (n:=i) (by omega) (fun j hj=>h j (by omega))
  have hi2:=h i h1
  rw[Zd (by omega),Zb ⟨by omega,by omega⟩,Zb ⟨by omega,by omega⟩,Xaa,Zg (by omega) (by omega),Zg (by omega) (by omega),Zg (by omega) (by omega)]
  exact⟨_,rfl,⟨i+1,by simp,by omega,by rw[Zll]⟩,by dsimp only;omega,rfl⟩
 ·right
  have:i=x.length:=by omega
  subst this
  rw[Zc (by omega)]
theorem ZAi {c x:List Int} (hl:c.length=x.length) (hn:x.length≤5) (h:∀i,i<x.length → -27≤c.getD i 0*x.getD i 0∧c.getD i 0*x.getD i 0≤27):Zoj c x=some (Zct c x x.length):=by
 unfold Zoj
 refine ZH (fun s:Int×Int=>∃i:Nat,s.2=i∧i≤x.length∧s.1=Zct c x i) (fun s=>x.length - s.2.toNat) (fun _=>Zct c x x.length) ?_ _ ⟨0,rfl,Nat.zero_le _,rfl⟩
 rintro⟨a,s⟩ ⟨i,rfl,hi,ha⟩
 dsimp only at ha ⊢
 subst ha
 unfold Zok
 dsimp only
 rcases Xah i x.length with h1|h1
 ·left
  have hb:=ZAo (c:=c) (x:=x) (n:=i) (by omega) (fun j hj=>h j (by omega))
  have hi2:=h i h1
  rw[Zd (by omega),Zb ⟨by omega,by omega⟩,Zb ⟨by omega,by omega⟩,Xaa,Zg (by omega) (by omega),Zg (by omega) (by omega),Zg (by omega) (by omega)]
  exact⟨_,rfl,⟨i+1,by simp,by omega,by rw[Zll]⟩,by dsimp only;omega,rfl⟩
 ·right
  have:i=x.length:=by omega
  subst this
  rw[Zc (by omega)]
end Go.AE.Y
namespace Go.AE.Y
open Go Go.AE
theorem ZeS {m:Zt} (hm:ZF m=true) {i:Nat} (hi:i<m.1.length):0≤m.1.getD i 0∧m.1.getD i 0≤3:=by
 unfold ZF at hm
 simp only[Xaf,Xai,Xan]at hm
 have h2:=hm.2.2.1 _ (ZB (l:=m.1) (i:=i) (d:=0) hi)
 unfold Zc3 at h2
 simp only[Xaf,Xai]at h2
 omega
theorem Zs7 {m:Zt} {x:List Int} (h:ZR m x=true):x.length=m.1.length∧∀i,i<x.length→0≤x.getD i 0∧x.getD i 0≤m.1.getD i 0:=by
 unfold ZR cellAt at h
 simp only[Xaf,Xai,Xan]at h
 exact⟨h.1,fun i hi=>h.2 i (XaF.2 hi)⟩
end Go.AE.Y
namespace Go.AE.Y
open Go Go.AE
end Go.AE.Y
namespace Go.AE.Y
open Go Go.AE
end Go.AE.Y
namespace Go.AE.Y
open Go Go.AE
theorem ZhA {α:Type} (l:List α) (i j:Nat) (x d:α):(l.set i x).getD j d=if i=j∧i<l.length then x else l.getD j d:=by
 rw[Xab,XbM,Xab]
 by_cases h:i=j
 ·subst h
  by_cases h2:i<l.length
  ·simp[h2]
  ·simp[h2]
 ·simp[h]
theorem ZU {α:Type} {l:List α} {i j:Nat} {x d:α} (h:i≠j):(l.set i x).getD j d=l.getD j d:=by rw[ZhA,if_neg (by omega)]
theorem Zcp {α:Type} {l:List α} {i:Nat} {x d:α} (h:i<l.length):(l.set i x).getD i d=x:=by rw[ZhA,if_pos ⟨rfl,h⟩]
end Go.AE.Y
namespace Go.AE.Y
open Go Go.AE
def Adv (r r':List Int×Int) (c:Int):Prop:=r'.1=r.1∧r.2≤r'.2∧r'.2≤r.2+c
theorem Adv.refl (r:List Int×Int) {c:Int} (h:0≤c):Adv r r c:=⟨rfl,XaD _,by omega⟩
theorem Adv.trans {r r' r'':List Int×Int} {c c' d:Int} (a:Adv r r' c) (b:Adv r' r'' c') (h:c+c'≤d):Adv r r'' d:=by
 obtain⟨a1,a2,a3⟩:=a
 obtain⟨b1,b2,b3⟩:=b
 exact⟨b1.trans a1,by omega,by omega⟩
end Go.AE.Y
namespace Go.AE.Y
open Go Go.AE
end Go.AE.Y
namespace Go.AE.Y
open Go Go.AE
theorem ZDe (a:List (Int×Int)) (h:a.length≤4000000000):Zey a=some a:=by
 unfold Zey
 refine Zxc (fun hp=>by rw[hp]) ?_
 rw[Zb (by simp[Zp];omega),Xao]
theorem ZI1 (c:List (Int×Int)×Int) (h:c.1.length≤4000000000):Zeg c=some (c.2,c.1):=by
 unfold Zeg
 rw[ZDe _ h,Ze]
theorem ZIN (c:List (Int×Int)×Int) (h:c.1.length≤4000000000):Zpf c=some (c.2,c.1):=by
 unfold Zpf
 rw[Zb (by simp[Zp];omega),Xao]
theorem ZIT {α R:Type} {f:Int×List α→Option ((Int×List α)⊕R)} (l:List α) (d:α) (o0:List α) (fin:List α→R)
  (h:∀(i:Nat) (out:List α),i<l.length→out.length=o0.length+i→f (i,out)=some (.inl ((i:Int)+1,out++[l.getD i d]))) (hn:f (l.length,o0++l)=some (.inr (fin (o0++l)))) :
  loop f (0,o0)=some (fin (o0++l)):=by
 refine ZH (fun s:Int×List α=>∃i:Nat,s.1=i∧i≤l.length∧s.2=o0++l.take i) (fun s=>l.length - s.1.toNat) (fun _=>fin (o0++l)) ?_ _ ⟨0,rfl,Nat.zero_le _,by simp⟩
 rintro⟨s,out⟩ ⟨i,rfl,hi,ho⟩
 dsimp only at ho ⊢
 rcases Xah i l.length with h1|h1
 ·left
  refine⟨_,h i out h1 (by rw[ho];simp;omega),⟨i+1,by simp,by omega,?_⟩,by dsimp only;omega,rfl⟩
  dsimp only
  rw[ho,List.take_succ_eq_append_getElem h1,XaH]
  congr 2
  simp[Xab,h1]
 ·right
  have:i=l.length:=by omega
  subst this
  rw[Xav]at ho
  rw[ho,hn]
theorem ZbW {α β R:Type} {f:Int×List β→Option ((Int×List β)⊕R)} (l:List α) (d:α) (g:α→β) (o0:List β) (fin:List β→R)
  (h:∀(i:Nat) (out:List β),i<l.length→out.length=o0.length+i→f (i,out)=some (.inl ((i:Int)+1,out++[g (l.getD i d)]))) (hn:f (l.length,o0++l.map g)=some (.inr (fin (o0++l.map g)))) :
  loop f (0,o0)=some (fin (o0++l.map g)):=by
 refine ZIT (l.map g) (g d) o0 fin (fun i out hi ho=>?_) (by rw[Xas];exact hn)
 rw[Xas]at hi
 rw[h i out hi ho,ZrP l g i d (g d) hi]
end Go.AE.Y
namespace Go.AE.Y
open Go Go.AE
theorem Zdn {α:Type} {l:List α} {i:Nat} (d:α) (h:i<l.length):l.take (i+1)=l.take i++[l.getD i d]:=by
 rw[List.take_succ_eq_append_getElem h,Xab,Xac h];rfl
end Go.AE.Y
namespace Go.AE.Y
open Go Go.AE
end Go.AE.Y
namespace Go.AE.Y
open Go Go.AE
end Go.AE.Y
namespace Go.AE.Y
open Go Go.AE
end Go.AE.Y
namespace Go.AE.Y
open Go Go.AE
end Go.AE.Y
namespace Go.AE.Y
open Go Go.AE
end Go.AE.Y
namespace Go.AE.Y
open Go Go.AE
def HdL {α:Type} (H:α→Int→Int→Prop):List α→Int→Int→Prop
 |[],k,k'=>k=k'
 |x::r,k,k'=>∃k1,H x k k1∧HdL H r k1 k'
theorem HdL.snoc {α:Type} {H:α→Int→Int→Prop} {x:α}:∀{l:List α} {k k1 k2:Int},HdL H l k k1→H x k1 k2→HdL H (l++[x]) k k2
 |[],_,_,_,h,hx=>⟨_,by rw[show _=_ from h];exact hx,rfl⟩
 |_::_,_,_,_,⟨k3,h1,h2⟩,hx=>⟨k3,h1,HdL.snoc h2 hx⟩
theorem HdL.mono {α:Type} {H:α→Int→Int→Prop} (hm:∀x k k',H x k k'→k≤k'):∀{l:List α} {k k':Int},HdL H l k k'→k≤k'
 |[],_,_,h=>by rw[show _=_ from h];exact XaD _
 |_::_,_,_,⟨_,h1,h2⟩=>Int.le_trans (hm _ _ _ h1) (HdL.mono hm h2)
theorem ZDJ {α:Type} {a:List α} {i:Nat} (h:i<a.length) (x:α):(a.set i x).take (i+1)=a.take i++[x]:=by
 rw[Xa4,List.take_set_of_le (Nat.le_refl _)]
 simp[h]
def HI (x k k':Int):Prop:=x=k∧k'=k+1
theorem HI.mono (x k k':Int) (h:HI x k k'):k≤k':=by have:=h.2;omega
def HII (x:List Int) (k k':Int):Prop:=HdL HI x k k'∧x.length≤4000000000
theorem HII.mono (x:List Int) (k k':Int) (h:HII x k k'):k≤k':=HdL.mono HI.mono h.1
def HR (r:Int×List Int×List Int×Int×List (List Int)) (k k':Int):Prop:=
 r.1=k∧∃k1 k2,HdL HI r.2.1 (k+1) k1∧HdL HI r.2.2.1 k1 k2∧r.2.2.2.1=k2∧HdL HII r.2.2.2.2 (k2+1) k'∧r.2.1.length≤4000000000∧r.2.2.1.length≤4000000000∧r.2.2.2.2.length≤4000000000
theorem HR.mono (r:Int×List Int×List Int×Int×List (List Int)) (k k':Int) (h:HR r k k'):k≤k':=by
 obtain⟨_,k1,k2,h1,h2,_,h3,_⟩:=h
 have:=HdL.mono HI.mono h1
 have:=HdL.mono HI.mono h2
 have:=HdL.mono HII.mono h3
 omega
end Go.AE.Y
namespace Go.AE.Y
open Go Go.AE
end Go.AE.Y
namespace Go.AE.Y
open Go Go.AE
def Zbm (m:Zt) (i:Nat):Int:=Zl7 (m.1.take i)
theorem Zg9 {m:Zt} {i:Nat} (h:i<m.1.length):Zbm m (i+1)=Zbm m i+(m.1.getD i 0+1):=by
 unfold Zbm
 rw[ZlM h,Zxw]
theorem ZkJ {m:Zt} (hm:ZF m=true):∀i,i≤m.1.length→(i:Int)≤Zbm m i∧Zbm m i≤12:=by
 have hmono:∀i n,i+n=m.1.length→Zbm m i≤Zbm m m.1.length:=by
  intro i n
  induction n generalizing i with
  |zero=>intro h;rw[show i=m.1.length by omega];exact XaD _
  |succ n ih=>
   intro h
   have h1:=ih (i+1) (by omega)
   rw[Zg9 (by omega)]at h1
   have:=ZeS hm (i:=i) (by omega)
   omega
 have hlo:∀i,i≤m.1.length→(i:Int)≤Zbm m i:=by
  intro i
  induction i with
  |zero=>intro _;show ((0:Nat):Int)≤0;decide
  |succ n ih=>
   intro h
   have h1:=ih (by omega)
   rw[Zg9 (by omega)]
   have:=ZeS hm (i:=n) (by omega)
   omega
 intro i hi
 refine⟨hlo i hi,?_⟩
 have h1:=hmono i (m.1.length - i) (by omega)
 have h2:Zbm m m.1.length≤12:=by
  unfold Zbm
  rw[Xav]
  unfold ZF at hm
  simp only[Xaf,Xai]at hm
  exact hm.2.2.2.1
 omega
theorem Zhf {m:Zt} (hm:ZF m=true) {i k:Nat} (hi:i<m.1.length) (hk:k≤100):ZcD m i k=some (1+k+Zbm m i):=by
 obtain⟨m1,m2,m3⟩:=Zfi hm
 unfold ZcD
 rw[Zg (by omega) (by omega),Zb ⟨by omega,by omega⟩]
 refine ZH (fun s:Int×Int=>∃t:Nat,s.2=t∧t≤i∧s.1=1+k+Zbm m t) (fun s=>i - s.2.toNat) (fun _=>1+k+Zbm m i) ?_ _ ⟨0,rfl,Nat.zero_le _,by show (1:Int)+k=1+k+0;omega⟩
 rintro⟨v,s⟩ ⟨t,rfl,ht,rfl⟩
 dsimp only
 unfold Zii
 dsimp only
 have hl:(m.1.take (i:Int).toNat).length=i:=by rw[Xay];omega
 rw[hl]
 rcases Xah t i with h1|h1
 ·left
  have hg:(m.1.take (i:Int).toNat).getD (t:Int).toNat 0=m.1.getD t 0:=by
   rw[Xaa,Xaa,Xab,List.getElem?_take_of_lt h1,Xab]
  have hz:=ZeS hm (i:=t) (by omega)
  have hb:=ZkJ hm t (by omega)
  have hb':=Zg9 (m:=m) (i:=t) (by omega)
  rw[hg,Zd (by omega),Zb ⟨by omega,by omega⟩,Zg (by omega) (by omega),Zg (by omega) (by omega),Zg (by omega) (by omega)]
  exact⟨_,rfl,⟨t+1,by simp,by omega,by rw[hb'];(try dsimp only)<;>omega⟩,by (try dsimp only)<;>omega,rfl⟩
 ·right
  have:t=i:=by omega
  subst this
  rw[Zc (by omega)]
theorem ZjM {m:Zt} (hm:ZF m=true) {i k:Nat} (hi:i<m.1.length) (hk:k≤100):Zhs m i k=some (1+k+Zbm m i):=by
 obtain⟨m1,m2,m3⟩:=Zfi hm
 unfold Zhs
 rw[Zg (by omega) (by omega)]
 refine ZH (fun s:Int×Int=>∃t:Nat,s.2=t∧t≤i∧s.1=1+k+Zbm m t) (fun s=>i - s.2.toNat) (fun _=>1+k+Zbm m i) ?_ _ ⟨0,rfl,Nat.zero_le _,by show (1:Int)+k=1+k+0;omega⟩
 rintro⟨v,s⟩ ⟨t,rfl,ht,rfl⟩
 dsimp only
 unfold ZqD
 dsimp only
 rcases Xah t i with h1|h1
 ·left
  have hz:=ZeS hm (i:=t) (by omega)
  have hb:=ZkJ hm t (by omega)
  have hb':=Zg9 (m:=m) (i:=t) (by omega)
  rw[Zd (by omega),Zb ⟨by omega,by omega⟩,Xaa,Zg (by omega) (by omega),Zg (by omega) (by omega),Zg (by omega) (by omega)]
  exact⟨_,rfl,⟨t+1,by simp,by omega,by rw[hb'];(try dsimp only)<;>omega⟩,by (try dsimp only)<;>omega,rfl⟩
 ·right
  have:t=i:=by omega
  subst this
  rw[Zc (by omega)]
end Go.AE.Y
namespace Go.AE.Y
open Go Go.AE
def HT (x:Int×Int) (k k':Int):Prop:=x=(k,k+1)∧k'=k+2
theorem HT.mono (x:Int×Int) (k k':Int) (h:HT x k k'):k≤k':=by have:=h.2;omega
abbrev Z3:=Int×Int×Int×List (Int×Int)×Int
@[reducible] def ZLD:Ty:=.pair (.int .i64) (.pair (.int .i64) (.pair (.int .i64) (.pair (.sl (.pair (.int .i64) (.int .i64))) (.int .i64))))
def Zsd (s:Z3):Prop:=s.2.2.2.1.length≤1048576
theorem ZJh (a:Z3) (left:Int) (h0:0≤left) (h1:left≤1048576) (h:a.2.2.2.1.length≤maxLen):∃r,Zo7 a left=some r∧r≤left∧(0≤r→Zsd a):=by
 unfold Zo7 Zl4
 obtain⟨r1,e1,q1,p1⟩:=ZIi a.2.2.2.1 left h0 h1 h
 rw[e1,Ze]
 by_cases g1:r1<0
 ·exact⟨-1,by rw[Zd g1,Ze];rfl,by omega,by omega⟩
 ·exact⟨r1,by rw[Zc g1,Ze,Zc g1],by omega,fun h=>p1 h⟩
theorem ZJl (a:Z3) (h:Zsd a):Zo9 a=some (a.1,a.2.1,a.2.2.1,a.2.2.2.2,a.2.2.2.1):=by
 unfold Zsd at h
 unfold Zo9 Zl5
 rw[ZIo _ (by omega),Ze,Ze]
theorem ZF9 (a:Z3) (h:Zsd a):Zo5 a a=some true:=by
 unfold Zsd at h
 unfold Zo5 Zl3
 rw[bne_self_eq_false,cff,bne_self_eq_false,cff,bne_self_eq_false,cff,ZEt _ (by omega),Ze,Xa2,cff,bne_self_eq_false,cff,Ze,Xa2,cff]
end Go.AE.Y
namespace Go.AE.Y
open Go Go.AE
set_option maxHeartbeats 400000
def Zr4 (c:Int) (b:Nat):Nat→List Int→List Int
 |0,o=>o
 |k+1,o=>(Zr4 c b k o).set (1+k+b) ((0 - c)*k)
def ZdW (m:Zt) (c:List Int):Nat→List Int
 |0=>List.replicate 13 0
 |n+1=>Zr4 (c.getD n 0) (Zbm m n).toNat (m.1.getD n 0+1).toNat (ZdW m c n)
def Zom (c:Int) (b:Nat):Nat→List (Int×Int)
 |0=>[]
 |k+1=>Zom c b k++[((0 - c)*k,((1+k+b:Nat):Int))]
def Zmu (m:Zt) (c:List Int):Nat→List (Int×Int)
 |0=>[]
 |n+1=>Zmu m c n++Zom (c.getD n 0) (Zbm m n).toNat (m.1.getD n 0+1).toNat
def ZjP (o:List Int) (t:Int×Int):List Int:=o.set t.2.toNat (o.getD t.2.toNat 0+t.1)
def ZbH (net:List Int):Nat→List (Int×Int)
 |0=>[]
 |n+1=>ZbH net n++(if 0<net.getD (n+1) 0 then[(net.getD (n+1) 0,((n+1:Nat):Int))]else if net.getD (n+1) 0<0 then[(0 - net.getD (n+1) 0,0 - ((n+1:Nat):Int))]else[])
def ZW (net:List Int) (b:Int):Nat→Int
 |0=>b
 |n+1=>if net.getD (n+1) 0<0 then ZW net b n - net.getD (n+1) 0 else ZW net b n
abbrev ZlR:=Bool×Int×List (Int×Int)
def ZbX (net:List Int) (b:Int):ZlR:=bif Zw (ZbH net 12,max 0 (ZW net b 12))then(true,max 0 (ZW net b 12),ZbH net 12)else(false,0,[])
def Zrd (m:Zt) (c:List Int) (most:Int):ZlR:=bif (ZF m&&Zm0 m c)&&(decide (-1000≤most)&&decide (most≤1000))then ZbX (ZdW m c m.1.length) (0 - most)else(false,0,[])
theorem Zvg (c:Int) (b:Nat) (o:List Int):∀k,(Zr4 c b k o).length=o.length
 |0=>rfl
 |k+1=>by unfold Zr4;rw[Xap,Zvg]
theorem Zr3 (m:Zt) (c:List Int):∀n,(ZdW m c n).length=13
 |0=>rfl
 |n+1=>by unfold ZdW;rw[Zvg,Zr3]
theorem Zvf {c:Int} {b:Nat} {o:List Int}:∀{k:Nat},b+k+1≤o.length→∀j,(Zr4 c b k o).getD j 0=if 1+b≤j∧j<1+b+k then(0 - c)*((j - (1+b):Nat):Int)else o.getD j 0
 |0,_,j=>by
  rw[if_neg (by omega)]
  rfl
 |k+1,h,j=>by
  have ih:=Zvf (c:=c) (b:=b) (o:=o) (k:=k) (by omega) j
  have hl:=Zvg c b o k
  unfold Zr4
  by_cases q:1+k+b=j
  ·rw[if_pos (by omega),←q,Zcp (by omega),show 1+k+b - (1+b)=k by omega]
  ·rw[ZU q,ih]
   by_cases q2:1+b≤j∧j<1+b+k
   ·rw[if_pos q2,if_pos (by omega)]
   ·rw[if_neg q2,if_neg (by omega)]
theorem Znd {m:Zt} (hm:ZF m=true) {n:Nat} (hn:n<m.1.length):0≤Zbm m n∧0≤m.1.getD n 0∧m.1.getD n 0≤3∧Zbm m (n+1)=Zbm m n+(m.1.getD n 0+1)∧Zbm m (n+1)≤12:=by
 have h1:=ZkJ hm n (by omega)
 have h2:=ZkJ hm (n+1) (by omega)
 have h3:=ZeS hm hn
 have h4:=Zg9 (m:=m) hn
 omega
theorem Ztm {m:Zt} {c:List Int} (hm:ZF m=true):∀n,n≤m.1.length→∀j,(j=0∨1+(Zbm m n).toNat≤j)→(ZdW m c n).getD j 0=0
 |0,_,j,_=>by
  show (List.replicate 13 (0:Int)).getD j 0=0
  rw[Xab]
  rcases Xah j 13 with h|h
  ·rw[XaW h];rfl
  ·rw[Xat (by rw[XaC];exact h)];rfl
 |n+1,h,j,hj=>by
  obtain⟨b0,s0,s3,b1,b12⟩:=Znd hm (show n<m.1.length by omega)
  have ih:=Ztm (c:=c) hm n (by omega) j (by omega)
  unfold ZdW
  rw[Zvf (by rw[Zr3];omega),if_neg (by omega),ih]
theorem ZII {c:Int} {b:Nat} {o:List Int}:∀k,b+k+1≤o.length→(∀j,1+b≤j→j<1+b+k→o.getD j 0=0)→(Zom c b k).foldl ZjP o=Zr4 c b k o
 |0,_,_=>rfl
 |k+1,h,hz=>by
  unfold Zom Zr4
  rw[Xa5,ZII k (by omega) (fun j h1 h2=>hz j h1 (by omega))]
  show ZjP (Zr4 c b k o) _=_
  unfold ZjP
  dsimp only
  rw[Xaa,Zvf (by omega),if_neg (by omega),hz _ (by omega) (by omega),Int.zero_add]
theorem ZEB {m:Zt} {c:List Int} (hm:ZF m=true):∀n,n≤m.1.length→(Zmu m c n).foldl ZjP (List.replicate 13 0)=ZdW m c n
 |0,_=>rfl
 |n+1,h=>by
  obtain⟨b0,s0,s3,b1,b12⟩:=Znd hm (show n<m.1.length by omega)
  unfold Zmu ZdW
  rw[Xa5,ZEB hm n (by omega),ZII _ (by rw[Zr3];omega) (fun j h1 _=>Ztm hm n (by omega) j (Or.inr (by omega)))]
def okT (t:Int×Int):Prop:=(-27≤t.1∧t.1≤27)∧1≤t.2∧t.2≤12
theorem Zxx {c:Int} {b:Nat} (hc : -9≤c∧c≤9):∀k,k≤4→b+k≤12→(Zom c b k).length=k∧∀t∈Zom c b k,okT t
 |0,_,_=>⟨rfl,fun t h=>absurd h XaJ⟩
 |k+1,h,hb=>by
  obtain⟨i1,i2⟩:=Zxx (c:=c) (b:=b) hc k (by omega) (by omega)
  unfold Zom
  refine⟨by rw[Xam,i1];rfl,fun t ht=>?_⟩
  rcases List.mem_append.1 ht with ht|ht
  ·exact i2 t ht
  ·rw[Xaj]at ht
   subst ht
   have:=Zni (c:=0 - c) (x:=(k:Int)) ⟨by omega,by omega⟩ ⟨by omega,by omega⟩
   exact⟨this,by (try dsimp only)<;>omega,by (try dsimp only)<;>omega⟩
theorem ZCJ {m:Zt} {c:List Int} (hm:ZF m=true) (hc:∀i,-9≤c.getD i 0∧c.getD i 0≤9):∀n,n≤m.1.length→((Zmu m c n).length:Int)=Zbm m n∧∀t∈Zmu m c n,okT t
 |0,_=>⟨rfl,fun t h=>absurd h XaJ⟩
 |n+1,h=>by
  obtain⟨b0,s0,s3,b1,b12⟩:=Znd hm (show n<m.1.length by omega)
  obtain⟨i1,i2⟩:=ZCJ (c:=c) hm hc n (by omega)
  obtain⟨k1,k2⟩:=Zxx (b:=(Zbm m n).toNat) (hc n) (m.1.getD n 0+1).toNat (by omega) (by omega)
  unfold Zmu
  refine⟨by rw[Xam,k1];omega,fun t ht=>?_⟩
  rcases List.mem_append.1 ht with ht|ht
  ·exact i2 t ht
  ·exact k2 t ht
theorem ZKI (l:List Int) (h:l.length=13):[(l.getD 0 0),(l.getD 1 0),(l.getD 2 0),(l.getD 3 0),(l.getD 4 0),(l.getD 5 0),(l.getD 6 0),(l.getD 7 0),(l.getD 8 0),(l.getD 9 0),(l.getD 10 0),(l.getD 11 0),(l.getD 12 0)]=l:=by
 match l,h with
 |[_,_,_,_,_,_,_,_,_,_,_,_,_],_=>rfl
theorem Zm3 (net:List Int):∀n,(ZbH net n).length≤n
 |0=>Nat.le_refl _
 |n+1=>by
  have:=Zm3 net n
  unfold ZbH
  rw[Xam]
  split
  ·rw[XaG];omega
  ·split
   ·rw[XaG];omega
   ·rw[Xak];omega
theorem Zvd {net:List Int} {b:Int} (hn:∀j,-1000≤net.getD j 0∧net.getD j 0≤1000):∀n:Nat,b≤ZW net b n∧ZW net b n≤b+1000*n
 |0=>⟨XaD _,by show b≤b+1000*((0:Nat):Int);omega⟩
 |n+1=>by
  have:=Zvd (b:=b) hn n
  have:=hn (n+1)
  unfold ZW
  split<;>omega
theorem ZvJ (b:Int) (t:List (Int×Int)) (h:t.length≤1000):Zcr b t=some (bif Zw (t,b)then(true,b,t)else(false,0,[])):=by
 unfold Zcr
 rw[Z4 (t,b) (by (try dsimp only)<;>omega),Ze]
 cases Zw (t,b)with
 |true=>rw[cnt,ctt]
 |false=>rw[cnf,cff]
theorem ZBh {ts:List (Int×Int)} {b:Int} (hts:∀t∈ts,okT t) (hl:ts.length≤30) (hb : -2000≤b∧b≤2000):ZfU ts b=some (ZbX (ts.foldl ZjP (List.replicate 13 0)) b)∨(ts.foldl ZjP (List.replicate 13 0)).getD 0 0≠0:=by
 by_cases h00:(ts.foldl ZjP (List.replicate 13 0)).getD 0 0=0
 case neg=>exact Or.inr h00
 left
 unfold ZfU
 have hfl:∀n,n≤ts.length→((ts.take n).foldl ZjP (List.replicate 13 0)).length=13∧∀j,-27*(n:Int)≤((ts.take n).foldl ZjP (List.replicate 13 0)).getD j 0∧((ts.take n).foldl ZjP (List.replicate 13 0)).getD j 0≤27*(n:Int):=by
  intro n
  induction n with
  |zero=>
   intro _
   rw[XaQ]
   refine⟨rfl,fun j=>?_⟩
   have:(List.foldl ZjP (List.replicate 13 (0:Int)) ([]:List (Int×Int))).getD j 0=0:=by
    show (List.replicate 13 (0:Int)).getD j 0=0
    rw[Xab]
    rcases Xah j 13 with h|h
    ·rw[XaW h];rfl
    ·rw[Xat (by rw[XaC];exact h)];rfl
   rw[this]
   omega
  |succ n ih=>
   intro hn
   obtain⟨i1,i2⟩:=ih (by omega)
   rw[Xa4,Xac (show n<ts.length by omega),Xa5]
   obtain⟨ok1,ok2⟩:=hts _ (XbI (show n<ts.length by omega))
   generalize (ts.take n).foldl ZjP (List.replicate 13 0)=o at i1 i2 ⊢
   show (ZjP o ts[n]).length=13∧∀j,-27*((n+1:Nat):Int)≤(ZjP o ts[n]).getD j 0∧(ZjP o ts[n]).getD j 0≤27*((n+1:Nat):Int)
   unfold ZjP
   refine⟨by rw[Xap];exact i1,fun j=>?_⟩
   have hj:=i2 j
   have hv:=i2 (ts[n]).2.toNat
   rw[ZhA]
   split<;>omega
 refine ZH (f:=ZfY ts) (fun s:Int×Int×List Int=>∃n:Nat,s.2.1=n∧n≤ts.length∧s.1=b∧s.2.2=(ts.take n).foldl ZjP (List.replicate 13 0)) (fun s=>ts.length - s.2.1.toNat) (fun _=>ZbX (ts.foldl ZjP (List.replicate 13 0)) b) ?_ _ ⟨0,rfl,Nat.zero_le _,rfl,rfl⟩
 rintro⟨b',s,o⟩ ⟨n,hs,hn,hb',ho⟩
 dsimp only at hs hb' ho ⊢
 subst hs
 subst hb'
 obtain⟨f1,f2⟩:=hfl n hn
 rw[←ho]at f1 f2
 unfold ZfY
 dsimp only
 rcases Xah n ts.length with h1|h1
 ·left
  obtain⟨⟨ok1,ok1'⟩,ok2,ok2'⟩:=hts _ (ZB (l:=ts) (i:=n) (d:=(0,0)) h1)
  have:=f2 (ts.getD n (0,0)).2.toNat
  rw[Zd (by omega),Zb ⟨by omega,by omega⟩,Xaa,Zc (by omega),Zb ⟨rfl,⟨by omega,by omega⟩,by omega⟩,Zg (by omega) (by omega),Zb ⟨rfl,⟨by omega,by omega⟩,by omega⟩,Zg (by omega) (by omega)]
  refine⟨_,rfl,⟨n+1,by simp,by omega,rfl,?_⟩,by (try dsimp only)<;>omega,rfl⟩
  dsimp only
  rw[Xa4,Xac h1,Xa5,←ho]
  have e:ts.getD n (0,0)=ts[n]:=by rw[Xab,Xac h1];rfl
  rw[e]
  rfl
 ·right
  have hnn:n=ts.length:=by omega
  rw[hnn,Xav]at ho
  rw[←ho]at h00 ⊢
  have hbd:∀j,-1000≤o.getD j 0∧o.getD j 0≤1000:=fun j=>by have:=f2 j;omega
  unfold Zik
  dsimp only
  rw[Zc (by omega),Zb ⟨rfl,rfl,by omega⟩]
  have key:loop (Zeq o) (b',(0:Int),([]:List (Int×Int)))=some (ZbX o b'):=by
   refine ZH (f:=Zeq o) (fun s:Int×Int×List (Int×Int)=>∃n:Nat,s.2.1=n∧n≤13∧s.1=ZW o b' (n - 1)∧s.2.2=ZbH o (n - 1)) (fun s=>13 - s.2.1.toNat) (fun _=>ZbX o b') ?_ _ ⟨0,rfl,Nat.zero_le _,rfl,rfl⟩
   rintro⟨c,s,t⟩ ⟨n,hs,hn,hc,ht⟩
   dsimp only at hs hc ht ⊢
   subst hs
   subst hc
   subst ht
   have hpl:=Zm3 o (n - 1)
   have hnb:=Zvd (b:=b') hbd (n - 1)
   unfold Zeq
   dsimp only
   rw[ZKI o f1,Xaa]
   rcases Xah n 13 with h4|h4
   ·left
    have hbn:=hbd n
    rw[Zd (by omega),Zb ⟨⟨by omega,by omega⟩,by omega⟩]
    cases n with
    |zero=>
     rw[h00,Zc (by omega),Zc (by omega),Zg (by omega) (by omega)]
     exact⟨_,rfl,⟨1,rfl,by omega,rfl,rfl⟩,by (try dsimp only)<;>omega,rfl⟩
    |succ n=>
     rw[XbL]at hpl hnb ⊢
     by_cases q1:0<o.getD (n+1) 0
     ·rw[Zd q1,Zb (by simp[Zp];omega),Zg (by omega) (by omega)]
      refine⟨_,rfl,⟨n+2,by simp;omega,by omega,?_,?_⟩,by (try dsimp only)<;>omega,rfl⟩
      ·show ZW o b' n=ZW o b' (n+1)
       conv=>rhs;unfold ZW
       rw[if_neg (by omega)]
      ·show _=ZbH o (n+1)
       conv=>rhs;unfold ZbH
       rw[if_pos q1]
     ·rw[Zc q1]
      by_cases q2:o.getD (n+1) 0<0
      ·unfold Zlx
       dsimp only
       rw[Zd q2,Zg (by omega) (by omega),Zg (by omega) (by omega),Zb (by simp[Zp];omega),Zg (by omega) (by omega),Zg (by omega) (by omega)]
       refine⟨_,rfl,⟨n+2,by simp;omega,by omega,?_,?_⟩,by (try dsimp only)<;>omega,rfl⟩
       ·show ZW o b' n - _=ZW o b' (n+1)
        conv=>rhs;unfold ZW
        rw[if_pos q2]
       ·show _=ZbH o (n+1)
        conv=>rhs;unfold ZbH
        rw[if_neg q1,if_pos q2]
      ·rw[Zc q2,Zg (by omega) (by omega)]
       refine⟨_,rfl,⟨n+2,by simp;omega,by omega,?_,?_⟩,by (try dsimp only)<;>omega,rfl⟩
       ·show ZW o b' n=ZW o b' (n+1)
        conv=>rhs;unfold ZW
        rw[if_neg q2]
       ·show _=ZbH o (n+1)
        conv=>rhs;unfold ZbH
        rw[if_neg q1,if_neg q2,Xar]
   ·right
    have h12:n - 1=12:=by omega
    rw[h12]at hpl ⊢
    have hv:Zcr (max 0 (ZW o b' 12)) (ZbH o 12)=some (ZbX o b'):=ZvJ _ _ (by omega)
    unfold Zlw
    dsimp only
    rw[Zc (by omega),hv,Ze]
    generalize ZbX o b'=q
    rfl
  rw[key]
  generalize ZbX o b'=q
  rfl
theorem Zsg {net:List Int} {b:Int} (hl:net.length=13) (hbd:∀j,-1000≤net.getD j 0∧net.getD j 0≤1000) (hb : -2000≤b∧b≤2000):Zd3 net b=some (ZbX net b):=by
 unfold Zd3
 refine ZH (f:=Zes net) (fun s:Int×Int×List (Int×Int)=>∃n:Nat,s.2.1=(n:Int)+1∧n≤12∧s.1=ZW net b n∧s.2.2=ZbH net n) (fun s=>13 - s.2.1.toNat) (fun _=>ZbX net b) ?_ _ ⟨0,rfl,Nat.zero_le _,rfl,rfl⟩
 rintro⟨c,s,t⟩ ⟨n,hs,hn,hc,ht⟩
 dsimp only at hs hc ht ⊢
 subst hs
 subst hc
 subst ht
 have hpl:=Zm3 net n
 have hnb:=Zvd (b:=b) hbd n
 have en:((n:Int)+1).toNat=n+1:=by omega
 unfold Zes
 dsimp only
 rcases Xah n 12 with h4|h4
 ·left
  have hbn:=hbd (n+1)
  rw[Zd (by omega),Zb ⟨by omega,by omega⟩,en]
  unfold Zgq
  rw[en]
  by_cases q1:0<net.getD (n+1) 0
  ·rw[Zd q1,Zb ⟨by omega,by omega⟩,Zb (by simp[Zp];omega),Zb ⟨by omega,by omega⟩,Zc (by omega),Zg (by omega) (by omega)]
   refine⟨_,rfl,⟨n+1,by simp,by omega,?_,?_⟩,by (try dsimp only)<;>omega,rfl⟩
   ·show ZW net b n=ZW net b (n+1)
    conv=>rhs;unfold ZW
    rw[if_neg (by omega)]
   ·show _=ZbH net (n+1)
    conv=>rhs;unfold ZbH
    rw[if_pos q1]
    rfl
  ·rw[Zc q1,Zb ⟨by omega,by omega⟩]
   by_cases q2:net.getD (n+1) 0<0
   ·unfold Zjc
    rw[Zd q2,Zb ⟨by omega,by omega⟩,Zg (by omega) (by omega),Zg (by omega) (by omega),Zb (by simp[Zp];omega),Zb ⟨by omega,by omega⟩,en,Zg (by omega) (by omega),Zg (by omega) (by omega)]
    refine⟨_,rfl,⟨n+1,by simp,by omega,?_,?_⟩,by (try dsimp only)<;>omega,rfl⟩
    ·show ZW net b n - _=ZW net b (n+1)
     conv=>rhs;unfold ZW
     rw[if_pos q2]
    ·show _=ZbH net (n+1)
     conv=>rhs;unfold ZbH
     rw[if_neg q1,if_pos q2]
     rfl
   ·rw[Zc q2,Zg (by omega) (by omega)]
    refine⟨_,rfl,⟨n+1,by simp,by omega,?_,?_⟩,by (try dsimp only)<;>omega,rfl⟩
    ·show ZW net b n=ZW net b (n+1)
     conv=>rhs;unfold ZW
     rw[if_neg q2]
    ·show _=ZbH net (n+1)
     conv=>rhs;unfold ZbH
     rw[if_neg q1,if_neg q2,Xar]
 ·right
  have:n=12:=by omega
  subst this
  have fin:∀x:Int,x=max 0 (ZW net b 12)→Zdx (ZbH net 12) x=some (ZbX net b):=fun x hx=>by
   subst hx
   unfold Zdx ZbX
   rw[ZO _ (by (try dsimp only)<;>omega),Ze]
   cases Zw (ZbH net 12,max 0 (ZW net b 12))with
   |true=>rw[cnt,ctt]
   |false=>rw[cnf,cff]
  unfold Zjb
  dsimp only
  rw[Zc (by omega)]
  by_cases q:ZW net b 12<0
  ·rw[Zd q,fin 0 (by omega)];rfl
  ·rw[Zc q,fin _ (by omega)];rfl
theorem Zz4 {m:Zt} {c:List Int} (h:Zm0 m c=true):c.length=m.1.length∧∀i,-9≤c.getD i 0∧c.getD i 0≤9:=by
 unfold Zm0 wtB at h
 simp only[Xaf,Xai,Xan]at h
 refine⟨h.1,fun i=>?_⟩
 rcases Xah i c.length with h1|h1
 ·exact h.2 _ (ZB h1)
 ·rw[Xab,Xat h1]
  decide
theorem Zve {m:Zt} {c:List Int} (hm:ZF m=true) (hc:∀i,-9≤c.getD i 0∧c.getD i 0≤9):∀n,n≤m.1.length→∀j,-27≤(ZdW m c n).getD j 0∧(ZdW m c n).getD j 0≤27
 |0,_,j=>by
  have:=Ztm (c:=c) hm 0 (by omega)
  have h0:(ZdW m c 0).getD j 0=0:=by
   rcases Xah 0 j with h|h
   ·exact this j (Or.inr (by show 1+(Zl7 []).toNat≤j;exact h))
   ·exact this j (Or.inl (by omega))
  rw[h0]
  omega
 |n+1,h,j=>by
  obtain⟨b0,s0,s3,b1,b12⟩:=Znd hm (show n<m.1.length by omega)
  have ih:=Zve hm hc n (by omega) j
  unfold ZdW
  rw[Zvf (by rw[Zr3];omega)]
  split
  ·have hcn:=hc n
   exact Zni ⟨by omega,by omega⟩ ⟨by omega,by omega⟩
  ·exact ih
theorem ZrQ (m:Zt) (c:List Int) (most:Int) (h:Zds m) (hc:c.length≤1048576):ZeZ m c most=some (Zrd m c most):=by
 unfold ZeZ Zrd
 rw[Zk1 m h,Ze]
 cases hm:ZF m with
 |false=>rw[cnf];rfl
 |true=>
  rw[cnt,Zor m c hc,Ze]
  cases ho:Zm0 m c with
  |false=>rw[cnf];rfl
  |true=>
   rw[cnt,Zbu,Ze]
   cases hq:decide (-1000≤most)&&decide (most≤1000)with
   |false=>rw[cnf];rfl
   |true=>
    rw[Xaf,Xai,Xai]at hq
    obtain⟨m1,m2,m3⟩:=Zfi hm
    obtain⟨c1,c2⟩:=Zz4 ho
    rw[cnt,show ((true&&true)&&true)=true from rfl,ctt]
    refine ZH (f:=ZdM m c most) (fun s:Int×List (Int×Int)=>∃n:Nat,s.1=n∧n≤m.1.length∧s.2=Zmu m c n) (fun s=>m.1.length - s.1.toNat) (fun _=>ZbX (ZdW m c m.1.length) (0 - most)) ?_ _ ⟨0,rfl,Nat.zero_le _,rfl⟩
    rintro⟨s,t⟩ ⟨n,hs,hn,ht⟩
    dsimp only at hs ht ⊢
    subst hs
    subst ht
    obtain⟨t1,t2⟩:=ZCJ (c:=c) hm c2 n hn
    unfold ZdM
    dsimp only
    rcases Xah n m.1.length with h1|h1
    ·left
     obtain⟨b0,s0,s3,b1,b12⟩:=Znd hm h1
     rw[Zd (by omega),Zb ⟨by omega,by omega⟩,Xaa,Zg (by omega) (by omega)]
     refine⟨((n:Int)+1,Zmu m c (n+1)),?_,⟨n+1,by simp,by omega,rfl⟩,by (try dsimp only)<;>omega,rfl⟩
     refine ZH (f:=ZdN m c n) (fun s:Int×List (Int×Int)=>∃k:Nat,s.1=k∧k≤(m.1.getD n 0+1).toNat∧s.2=Zmu m c n++Zom (c.getD n 0) (Zbm m n).toNat k) (fun s=>(m.1.getD n 0+1).toNat - s.1.toNat) (fun _=>.inl ((n:Int)+1,Zmu m c (n+1))) ?_ _ ⟨0,rfl,Nat.zero_le _,(Xar _).symm⟩
     rintro⟨s,t⟩ ⟨k,hs,hk,ht⟩
     dsimp only at hs ht ⊢
     subst hs
     subst ht
     have hcn:=c2 n
     obtain⟨k1,k2⟩:=Zxx (b:=(Zbm m n).toNat) hcn k (by omega) (by omega)
     unfold ZdN
     dsimp only
     rw[Xaa]
     rcases Xah k (m.1.getD n 0+1).toNat with h2|h2
     ·left
      have hmb:=Zni (c:=0 - c.getD n 0) (x:=(k:Int)) ⟨by omega,by omega⟩ ⟨by omega,by omega⟩
      rw[Zd (by omega),Zb ⟨by omega,by omega⟩,Zg (by omega) (by omega),Zg (by omega) (by omega),Zhf hm h1 (by omega),Ze,Zb (by simp only[Xam,Zp,Xal,Xak];omega),Zg (by omega) (by omega)]
      refine⟨_,rfl,⟨k+1,by simp,by omega,?_⟩,by (try dsimp only)<;>omega,rfl⟩
      dsimp only
      rw[XaH]
      congr 1
      conv=>rhs;unfold Zom
      rw[show (1+(k:Int)+Zbm m n)=((1+k+(Zbm m n).toNat:Nat):Int) by omega]
     ·right
      have:k=(m.1.getD n 0+1).toNat:=by omega
      rw[Zc (by omega),Zg (by omega) (by omega),this]
      rfl
    ·right
     have hnn:n=m.1.length:=by omega
     subst hnn
     have hb12:=(ZkJ hm m.1.length (Nat.le_refl _)).2
     unfold Zga
     rw[Zc (by omega),Zg (by omega) (by omega)]
     rcases ZBh (b:=0 - most) t2 (by omega) ⟨by omega,by omega⟩with e|e
     ·rw[e,Ze,ZEB hm _ (Nat.le_refl _)]
      generalize ZbX (ZdW m c m.1.length) (0 - most)=q
      rfl
     ·rw[ZEB hm _ (Nat.le_refl _)]at e
      exact absurd (Ztm hm _ (Nat.le_refl _) 0 (Or.inl rfl)) e
theorem Zse (m:Zt) (c:List Int) (most:Int) (h:Zds m) (hc:c.length≤1048576):Ze6 m c most=some (Zrd m c most):=by
 unfold Ze6 Zrd
 rw[Ztr m c h hc,Ze]
 cases hmo:ZF m&&Zm0 m c with
 |false=>rw[cnf,Xad,cff]
 |true=>
  rw[Xaf]at hmo
  obtain⟨hm,ho⟩:=hmo
  rw[cnt,Xag]
  by_cases q1 : -1000≤most
  case neg=>rw[Zd (by omega),decide_eq_false q1,Xad,cff]
  rw[Zc (by omega),Xae q1,Xag]
  by_cases q2:most≤1000
  case neg=>rw[Zd (by omega),decide_eq_false q2,cff]
  rw[Zc (by omega),Xae q2,ctt,Zb ⟨by omega,by simp only[Zp];omega,rfl⟩]
  obtain⟨m1,m2,m3⟩:=Zfi hm
  obtain⟨c1,c2⟩:=Zz4 ho
  refine ZH (f:=ZdX m c most) (fun s:Int×List Int=>∃n:Nat,s.1=n∧n≤m.1.length∧s.2=ZdW m c n) (fun s=>m.1.length - s.1.toNat) (fun _=>ZbX (ZdW m c m.1.length) (0 - most)) ?_ _ ⟨0,rfl,Nat.zero_le _,rfl⟩
  rintro⟨s,t⟩ ⟨n,hs,hn,ht⟩
  dsimp only at hs ht ⊢
  subst hs
  subst ht
  have hnl:=Zr3 m c n
  unfold ZdX
  dsimp only
  rcases Xah n m.1.length with h1|h1
  ·left
   obtain⟨b0,s0,s3,b1,b12⟩:=Znd hm h1
   rw[Zd (by omega)]
   refine⟨((n:Int)+1,ZdW m c (n+1)),?_,⟨n+1,by simp,by omega,rfl⟩,by (try dsimp only)<;>omega,rfl⟩
   refine ZH (f:=ZdY m c n) (fun s:Int×List Int=>∃k:Nat,s.1=k∧k≤(m.1.getD n 0+1).toNat∧s.2=Zr4 (c.getD n 0) (Zbm m n).toNat k (ZdW m c n)) (fun s=>(m.1.getD n 0+1).toNat - s.1.toNat) (fun _=>.inl ((n:Int)+1,ZdW m c (n+1))) ?_ _ ⟨0,rfl,Nat.zero_le _,rfl⟩
   rintro⟨s,t⟩ ⟨k,hs,hk,ht⟩
   dsimp only at hs ht ⊢
   subst hs
   subst ht
   have hcn:=c2 n
   have hkl:=Zvg (c.getD n 0) (Zbm m n).toNat (ZdW m c n) k
   unfold ZdY
   dsimp only
   rw[Zb ⟨by omega,by omega⟩,Xaa]
   rcases Xah k (m.1.getD n 0+1).toNat with h2|h2
   ·left
    have hmb:=Zni (c:=0 - c.getD n 0) (x:=(k:Int)) ⟨by omega,by omega⟩ ⟨by omega,by omega⟩
    rw[Zd (by omega),Zb ⟨by omega,by omega⟩,Zg (by omega) (by omega),Zg (by omega) (by omega),ZjM hm h1 (by omega),Ze,Zb ⟨by omega,by omega⟩,Zg (by omega) (by omega)]
    refine⟨_,rfl,⟨k+1,by simp,by omega,?_⟩,by (try dsimp only)<;>omega,rfl⟩
    dsimp only
    conv=>rhs;unfold Zr4
    rw[show (1+(k:Int)+Zbm m n).toNat=1+k+(Zbm m n).toNat by omega]
   ·right
    have:k=(m.1.getD n 0+1).toNat:=by omega
    rw[Zc (by omega),Zg (by omega) (by omega),this]
    rfl
  ·right
   have hnn:n=m.1.length:=by omega
   subst hnn
   unfold Zgi
   rw[Zc (by omega),Zg (by omega) (by omega),Zsg hnl (fun j=>by have:=Zve hm c2 m.1.length (Nat.le_refl _) j;omega) ⟨by omega,by omega⟩,Ze]
   generalize ZbX (ZdW m c m.1.length) (0 - most)=q
   rfl
end Go.AE.Y
namespace Go.AE.Y
open Go Go.AE
theorem ZIk {α:Type} {l:List α} {i:Nat} (d:α) (h:i<l.length):l.take (i+1)=l.take i++[l.getD i d]:=by
 rw[Xa4,Xac h,Xab,Xac h]
 rfl
end Go.AE.Y
namespace Go.AE.Y
open Go Go.AE
end Go.AE.Y
namespace Go.AE.Y
open Go Go.AE
end Go.AE.Y
namespace Go.AE.Y
open Go Go.AE
theorem ZCm {m:Zt} (hm:ZF m=true):∀i k,i+k≤m.1.length→Zbm m i≤Zbm m (i+k)
 |i,0,_=>XaD _
 |i,k+1,h=>by
  have:=ZCm hm i k (by omega)
  rw[show i+(k+1)=(i+k)+1 by omega,Zg9 (by omega)]
  have:=ZeS hm (i:=i+k) (by omega)
  omega
end Go.AE.Y
namespace Go.AE.Y
open Go Go.AE
end Go.AE.Y
namespace Go.AE.Y
open Go Go.AE
end Go.AE.Y
namespace Go.AE.Y
open Go Go.AE
def Zht (net:List Int) (v:List Bool):Nat→Int
 |0=>0
 |n+1=>Zht net v n+(bif v.getD n false then net.getD (n+1) 0 else 0)
theorem Zvu (v:List Bool) (a b:List (Int×Int)):ZcB v (a++b)=ZcB v a+ZcB v b:=by
 have key:∀(l:List (Int×Int)) (x:Int),l.foldl (fun a t=>bif Zcz v t.2 then a+t.1 else a) x=x+l.foldl (fun a t=>bif Zcz v t.2 then a+t.1 else a) 0:=by
  intro l
  induction l with
  |nil=>intro x;simp
  |cons t l ih=>
   intro x
   rw[Xbf,Xbf,ih,ih (bif Zcz v t.2 then 0+t.1 else 0)]
   cases Zcz v t.2 with
   |true=>rw[ctt,ctt];omega
   |false=>rw[cff,cff];omega
 unfold ZcB
 rw[Xa5,key b]
theorem ZG9 {net:List Int} {v:List Bool} {b:Int}:∀n,ZcB v (ZbH net n)=Zht net v n+(ZW net b n - b)∧0≤ZcB v (ZbH net n)
 |0=>⟨by show (0:Int)=0+(b - b);omega,XaD _⟩
 |n+1=>by
  obtain⟨i1,i2⟩:=ZG9 (net:=net) (v:=v) (b:=b) n
  have ev:vof ((n+1:Nat):Int) - 1=n:=by unfold vof;omega
  have ev':vof (0 - ((n+1:Nat):Int)) - 1=n:=by unfold vof;omega
  unfold ZbH
  rw[Zvu]
  by_cases q1:0<net.getD (n+1) 0
  ·have e:ZcB v [(net.getD (n+1) 0,((n+1:Nat):Int))]=bif v.getD n false then net.getD (n+1) 0 else 0:=by
    unfold ZcB
    rw[Xbf,List.foldl_nil]
    unfold Zcz
    dsimp only
    rw[ev,Xaa,Xae (by omega)]
    cases v.getD n false with
    |true=>simp
    |false=>simp
   have h1:ZW net b (n+1)=ZW net b n:=by
    conv=>lhs;unfold ZW
    rw[if_neg (by omega)]
   have h2:Zht net v (n+1)=Zht net v n+(bif v.getD n false then net.getD (n+1) 0 else 0):=rfl
   rw[if_pos q1,e,h1,h2]
   cases v.getD n false with
   |true=>rw[ctt];omega
   |false=>rw[cff];omega
  ·by_cases q2:net.getD (n+1) 0<0
   ·have e:ZcB v [(0 - net.getD (n+1) 0,0 - ((n+1:Nat):Int))]=bif v.getD n false then 0 else 0 - net.getD (n+1) 0:=by
     unfold ZcB
     rw[Xbf,List.foldl_nil]
     unfold Zcz
     dsimp only
     rw[ev',Xaa,decide_eq_false (by omega)]
     cases v.getD n false with
     |true=>simp
     |false=>simp
    have h1:ZW net b (n+1)=ZW net b n - net.getD (n+1) 0:=by
     conv=>lhs;unfold ZW
     rw[if_pos q2]
    have h2:Zht net v (n+1)=Zht net v n+(bif v.getD n false then net.getD (n+1) 0 else 0):=rfl
    rw[if_neg q1,if_pos q2,e,h1,h2]
    cases v.getD n false with
    |true=>rw[ctt,ctt];omega
    |false=>rw[cff,cff];omega
   ·have h1:ZW net b (n+1)=ZW net b n:=by
     conv=>lhs;unfold ZW
     rw[if_neg q2]
    have h2:Zht net v (n+1)=Zht net v n+(bif v.getD n false then net.getD (n+1) 0 else 0):=rfl
    have h3:net.getD (n+1) 0=0:=by omega
    have h4:ZcB v []=0:=rfl
    rw[if_neg q1,if_neg q2,h1,h2,h3,h4]
    cases v.getD n false with
    |true=>rw[ctt];omega
    |false=>rw[cff];omega
end Go.AE.Y
namespace Go.AE.Y
open Go Go.AE
set_option maxHeartbeats 400000
def ZjQ (s:Int×List Int) (t:Int×Int):Int×List Int:=if t.2<0 then(s.1 - t.1,s.2.set (0 - t.2).toNat (s.2.getD (0 - t.2).toNat 0 - t.1))else(s.1,s.2.set t.2.toNat (s.2.getD t.2.toNat 0+t.1))
def ZbY (ts:List (Int×Int)) (b:Int):Int×List Int:=ts.foldl ZjQ (b,List.replicate 13 0)
def okS (t:Int×Int):Prop:=(-1000≤t.1∧t.1≤1000)∧Zbt t.2=true
theorem ZDT (j:Nat):(List.replicate 13 (0:Int)).getD j 0=0:=by
 rw[Xab]
 rcases Xah j 13 with h|h
 ·rw[XaW h];rfl
 ·rw[Xat (by rw[XaC];exact h)];rfl
theorem Zk8 {ts:List (Int×Int)} {b:Int} {n:Nat} (h:n<ts.length):ZbY (ts.take (n+1)) b=ZjQ (ZbY (ts.take n) b) (ts.getD n (0,0)):=by
 unfold ZbY
 rw[Zdn (0,0) h,Xa5]
 rfl
theorem Zn7 {ts:List (Int×Int)} {b:Int} (h:∀t∈ts,okS t):∀n:Nat,n≤ts.length→(ZbY (ts.take n) b).2.length=13∧(ZbY (ts.take n) b).2.getD 0 0=0∧(b - 1000*n≤(ZbY (ts.take n) b).1∧(ZbY (ts.take n) b).1≤b+1000*n)∧∀j,-1000*(n:Int)≤(ZbY (ts.take n) b).2.getD j 0∧(ZbY (ts.take n) b).2.getD j 0≤1000*(n:Int)
 |0,_=>by
  rw[XaQ]
  refine⟨rfl,rfl,⟨by show b - _≤b;omega,by show b≤b+_;omega⟩,fun j=>?_⟩
  show _≤(List.replicate 13 (0:Int)).getD j 0∧(List.replicate 13 (0:Int)).getD j 0≤_
  rw[ZDT]
  omega
 |n+1,hn=>by
  obtain⟨i1,i2,i3,i4⟩:=Zn7 h n (by omega)
  obtain⟨o1,o2⟩:=h _ (ZB (l:=ts) (i:=n) (d:=(0,0)) (by omega))
  have hl:=ZP.1 o2
  rw[Zk8 (by omega)]
  generalize ZbY (ts.take n) b=s at i1 i2 i3 i4
  generalize ts.getD n (0,0)=t at o1 hl
  unfold ZjQ
  by_cases q:t.2<0
  ·rw[if_pos q]
   dsimp only
   refine⟨by rw[Xap];exact i1,by rw[ZU (by omega)];exact i2,⟨by omega,by omega⟩,fun j=>?_⟩
   have hj:=i4 j
   have hv:=i4 (0 - t.2).toNat
   rw[ZhA]
   split<;>omega
  ·rw[if_neg q]
   dsimp only
   refine⟨by rw[Xap];exact i1,by rw[ZU (by omega)];exact i2,⟨by omega,by omega⟩,fun j=>?_⟩
   have hj:=i4 j
   have hv:=i4 t.2.toNat
   rw[ZhA]
   split<;>omega
theorem Zmr {net:List Int} {b K:Int} (hK:0≤K) (hn:∀j,0 - K≤net.getD j 0∧net.getD j 0≤K):∀n:Nat,b≤ZW net b n∧ZW net b n≤b+K*n
 |0=>⟨XaD _,by show b≤b+K*((0:Nat):Int);omega⟩
 |n+1=>by
  have:=Zmr (b:=b) hK hn n
  have:=hn (n+1)
  have e:K*((n+1:Nat):Int)=K*n+K:=by rw[Int.natCast_add,Int.mul_add];simp
  unfold ZW
  split<;>omega
theorem ZyP {o:List Int} {b:Int} (f1:o.length=13) (h00:o.getD 0 0=0) (hbd:∀j,-100000≤o.getD j 0∧o.getD j 0≤100000) (hb : -100000≤b∧b≤100000):Zik (b,o)=some (ZbX o b):=by
 unfold Zik
 dsimp only
 rw[Zb ⟨rfl,rfl,by omega⟩]
 refine ZH (f:=Zeq o) (fun s:Int×Int×List (Int×Int)=>∃n:Nat,s.2.1=n∧n≤13∧s.1=ZW o b (n - 1)∧s.2.2=ZbH o (n - 1)) (fun s=>13 - s.2.1.toNat) (fun _=>ZbX o b) ?_ _ ⟨0,rfl,Nat.zero_le _,rfl,rfl⟩
 rintro⟨c,s,t⟩ ⟨n,hs,hn,hc,ht⟩
 dsimp only at hs hc ht ⊢
 subst hs
 subst hc
 subst ht
 have hpl:=Zm3 o (n - 1)
 have hnb:=Zmr (net:=o) (b:=b) (K:=100000) (by omega) (fun j=>by have:=hbd j;omega) (n - 1)
 unfold Zeq
 dsimp only
 rw[ZKI o f1,Xaa]
 rcases Xah n 13 with h4|h4
 ·left
  have hbn:=hbd n
  rw[Zd (by omega),Zb ⟨⟨by omega,by omega⟩,by omega⟩]
  cases n with
  |zero=>
   rw[h00,Zc (by omega),Zc (by omega),Zg (by omega) (by omega)]
   exact⟨_,rfl,⟨1,rfl,by omega,rfl,rfl⟩,by (try dsimp only)<;>omega,rfl⟩
  |succ n=>
   rw[XbL]at hpl hnb ⊢
   by_cases q1:0<o.getD (n+1) 0
   ·rw[Zd q1,Zb (by simp[Zp];omega),Zg (by omega) (by omega)]
    refine⟨_,rfl,⟨n+2,by simp;omega,by omega,?_,?_⟩,by (try dsimp only)<;>omega,rfl⟩
    ·show ZW o b n=ZW o b (n+1)
     conv=>rhs;unfold ZW
     rw[if_neg (by omega)]
    ·show _=ZbH o (n+1)
     conv=>rhs;unfold ZbH
     rw[if_pos q1]
   ·rw[Zc q1]
    by_cases q2:o.getD (n+1) 0<0
    ·unfold Zlx
     dsimp only
     rw[Zd q2,Zg (by omega) (by omega),Zg (by omega) (by omega),Zb (by simp[Zp];omega),Zg (by omega) (by omega),Zg (by omega) (by omega)]
     refine⟨_,rfl,⟨n+2,by simp;omega,by omega,?_,?_⟩,by (try dsimp only)<;>omega,rfl⟩
     ·show ZW o b n - _=ZW o b (n+1)
      conv=>rhs;unfold ZW
      rw[if_pos q2]
     ·show _=ZbH o (n+1)
      conv=>rhs;unfold ZbH
      rw[if_neg q1,if_pos q2]
    ·rw[Zc q2,Zg (by omega) (by omega)]
     refine⟨_,rfl,⟨n+2,by simp;omega,by omega,?_,?_⟩,by (try dsimp only)<;>omega,rfl⟩
     ·show ZW o b n=ZW o b (n+1)
      conv=>rhs;unfold ZW
      rw[if_neg q2]
     ·show _=ZbH o (n+1)
      conv=>rhs;unfold ZbH
      rw[if_neg q1,if_neg q2,Xar]
 ·right
  have h12:n - 1=12:=by omega
  rw[h12]at hpl ⊢
  have hv:Zcr (max 0 (ZW o b 12)) (ZbH o 12)=some (ZbX o b):=ZvJ _ _ (by omega)
  unfold Zlw
  dsimp only
  rw[Zc (by omega),hv,Ze]
  generalize ZbX o b=q
  rfl
theorem Ztf {ts:List (Int×Int)} {b:Int} (hts:∀t∈ts,okS t) (hl:ts.length≤50) (hb : -50000≤b∧b≤50000):ZfU ts b=some (ZbX (ZbY ts b).2 (ZbY ts b).1):=by
 unfold ZfU
 refine ZH (f:=ZfY ts) (fun s:Int×Int×List Int=>∃n:Nat,s.2.1=n∧n≤ts.length∧(s.1,s.2.2)=ZbY (ts.take n) b) (fun s=>ts.length - s.2.1.toNat) (fun _=>ZbX (ZbY ts b).2 (ZbY ts b).1) ?_ _ ⟨0,rfl,Nat.zero_le _,rfl⟩
 rintro⟨b',s,o⟩ ⟨n,hs,hn,ho⟩
 dsimp only at hs ho ⊢
 subst hs
 obtain⟨f1,f2,f3,f4⟩:=Zn7 (b:=b) hts n hn
 have e1:b'=(ZbY (ts.take n) b).1:=by rw[←ho]
 have e2:o=(ZbY (ts.take n) b).2:=by rw[←ho]
 rw[←e1]at f3
 rw[←e2]at f1 f2 f4
 unfold ZfY
 dsimp only
 rcases Xah n ts.length with h1|h1
 ·left
  obtain⟨⟨ok1,ok1'⟩,ok2⟩:=hts _ (ZB (l:=ts) (i:=n) (d:=(0,0)) h1)
  have hlit:=ZP.1 ok2
  rw[Zd (by omega),Zb ⟨by omega,by omega⟩,Xaa]
  by_cases q:(ts.getD n (0,0)).2<0
  ·have:=f4 (0 - (ts.getD n (0,0)).2).toNat
   rw[Zd q,Zg (by omega) (by omega),Zg (by omega) (by omega),Zb ⟨rfl,⟨by omega,by omega⟩,by omega⟩,Zg (by omega) (by omega),Zb ⟨rfl,⟨by omega,by omega⟩,by omega⟩,Zg (by omega) (by omega)]
   refine⟨_,rfl,⟨n+1,by simp,by omega,?_⟩,by (try dsimp only)<;>omega,rfl⟩
   dsimp only
   rw[Zk8 h1,←ho]
   unfold ZjQ
   rw[if_pos q]
  ·have:=f4 (ts.getD n (0,0)).2.toNat
   rw[Zc q,Zb ⟨rfl,⟨by omega,by omega⟩,by omega⟩,Zg (by omega) (by omega),Zb ⟨rfl,⟨by omega,by omega⟩,by omega⟩,Zg (by omega) (by omega)]
   refine⟨_,rfl,⟨n+1,by simp,by omega,?_⟩,by (try dsimp only)<;>omega,rfl⟩
   dsimp only
   rw[Zk8 h1,←ho]
   unfold ZjQ
   rw[if_neg q]
 ·right
  have hnn:n=ts.length:=by omega
  rw[Zc (by omega),ZyP f1 f2 (fun j=>by have:=f4 j;omega) ⟨by omega,by omega⟩]
  rw[hnn,Xav]at ho
  rw[←ho]
  generalize ZbX o b'=q
  rfl
theorem ZCK (v:List Bool):∀n,Zht (List.replicate 13 0) v n=0
 |0=>rfl
 |n+1=>by
  unfold Zht
  rw[ZCK v n,ZDT]
  cases v.getD n false<;>rfl
theorem Zxy {net:List Int} {v:List Bool} {j:Nat} {x:Int} (hj:j+1<net.length):∀n,Zht (net.set (j+1) (net.getD (j+1) 0+x)) v n=Zht net v n+(if j<n then(bif v.getD j false then x else 0)else 0)
 |0=>by show (0:Int)=0+_;rw[if_neg (by omega)];rfl
 |n+1=>by
  unfold Zht
  rw[Zxy hj n]
  by_cases e:j=n
  ·subst e
   rw[Zcp hj,if_neg (by omega),if_pos (by omega)]
   cases v.getD j false with
   |true=>rw[ctt,ctt,ctt];omega
   |false=>rw[cff,cff,cff,Int.add_zero]
  ·rw[ZU (by omega)]
   by_cases q:j<n
   ·rw[if_pos q,if_pos (by omega)];omega
   ·rw[if_neg q,if_neg (by omega)];omega
theorem Zzf (v:List Bool) (t:Int×Int):ZcB v [t]=bif Zcz v t.2 then t.1 else 0:=by
 unfold ZcB
 rw[Xbf,List.foldl_nil]
 cases Zcz v t.2 with
 |true=>rw[ctt,ctt,Int.zero_add]
 |false=>rw[cff,cff]
theorem ZIu {s:Int×List Int} {t:Int×Int} {v:List Bool} (hs:s.2.length=13) (ht:Zbt t.2=true):Zht (ZjQ s t).2 v 12 - (ZjQ s t).1=Zht s.2 v 12 - s.1+ZcB v [t]:=by
 have hl:=ZP.1 ht
 rw[Zzf]
 unfold ZjQ Zcz
 by_cases q:t.2<0
 ·rw[if_pos q]
  dsimp only
  obtain⟨j,hj⟩:∃j:Nat,(0 - t.2).toNat=j+1:=⟨(0 - t.2).toNat - 1,by omega⟩
  have ev:(vof t.2 - 1).toNat=j:=by unfold vof;omega
  rw[hj,show s.2.getD (j+1) 0 - t.1=s.2.getD (j+1) 0+(0 - t.1) by omega,Zxy (by omega),if_pos (by omega),ev,decide_eq_false (show ¬0<t.2 by omega)]
  cases v.getD j false with
  |true=>rw[ctt,show (true==false)=false from rfl,cff];omega
  |false=>rw[cff,show (false==false)=true from rfl,ctt];omega
 ·rw[if_neg q]
  dsimp only
  obtain⟨j,hj⟩:∃j:Nat,t.2.toNat=j+1:=⟨t.2.toNat - 1,by omega⟩
  have ev:(vof t.2 - 1).toNat=j:=by unfold vof;omega
  rw[hj,Zxy (by omega),if_pos (by omega),ev,Xae (show 0<t.2 by omega)]
  cases v.getD j false with
  |true=>rw[ctt,show (true==true)=true from rfl,ctt];omega
  |false=>rw[cff,show (false==true)=false from rfl,cff];omega
theorem ZCB {ts:List (Int×Int)} {b:Int} {v:List Bool} (h:∀t∈ts,okS t):∀n,n≤ts.length→Zht (ZbY (ts.take n) b).2 v 12 - (ZbY (ts.take n) b).1=ZcB v (ts.take n) - b
 |0,_=>by
  rw[XaQ]
  show Zht (List.replicate 13 0) v 12 - b=0 - b
  rw[ZCK]
 |n+1,hn=>by
  have ih:=ZCB (b:=b) (v:=v) h n (by omega)
  rw[Zk8 (by omega),ZIu (Zn7 h n (by omega)).1 (h _ (ZB (l:=ts) (i:=n) (d:=(0,0)) (by omega))).2,ih,Zdn (0,0) (by omega),Zvu]
  omega
theorem ZI0 {ts:List (Int×Int)} {b:Int} {v:List Bool} (h:∀t∈ts,okS t):Zb2 v (ZbH (ZbY ts b).2 12,max 0 (ZW (ZbY ts b).2 (ZbY ts b).1 12))=decide (b≤ZcB v ts):=by
 have h1:=ZCB (b:=b) (v:=v) h ts.length (Nat.le_refl _)
 rw[Xav]at h1
 obtain⟨h2,h3⟩:=ZG9 (net:=(ZbY ts b).2) (v:=v) (b:=(ZbY ts b).1) 12
 unfold Zb2
 dsimp only
 rw[decide_eq_decide]
 omega
end Go.AE.Y
namespace Go.AE.Y
open Go Go.AE
theorem ZJp {c x:List Int} {n:Nat} (h:∀i,i<n → -27≤c.getD i 0*x.getD i 0∧c.getD i 0*x.getD i 0≤27) : -27*(n:Int)≤Zct c x n∧Zct c x n≤27*n:=by
 induction n with
 |zero=>simp[Zct]
 |succ n ih=>
  have:=ih (fun i hi=>h i (by omega))
  have:=h n (by omega)
  rw[Zll]
  omega
theorem ZuQ {m:Zt} {x:List Int} (h:ZR m x=true):x.length=m.1.length∧∀i,i<x.length→0≤x.getD i 0∧x.getD i 0≤m.1.getD i 0:=by
 unfold ZR cellAt at h
 simp only[Xaf,Xai,Xan]at h
 exact⟨h.1,fun i hi=>h.2 i (XaF.2 hi)⟩
theorem ZBI {m:Zt} (hm:ZF m=true) {i:Nat} (hi:i<m.1.length):0≤m.1.getD i 0∧m.1.getD i 0≤3:=by
 unfold ZF at hm
 simp only[Xaf,Xai,Xan]at hm
 have h2:=hm.2.2.1 _ (ZB (l:=m.1) (i:=i) (d:=0) hi)
 unfold Zc3 at h2
 simp only[Xaf,Xai]at h2
 omega
def ZkZ (v:List Int) (i:Nat):Bool:=!((v.take i).any (fun x=>v.getD i 0==x))
def ZzL (v:List Int):Bool:=(List.range v.length).all (ZkZ v)
def holdsB (r:ZE) (v:List Int):Bool:=
 bif r.1==1 then decide (r.2.2.2.1≤Zct r.2.2.1 v v.length)else bif r.1==2 then ZzL v else bif r.1==3 then r.2.2.2.2.any (fun row=>row==v)else decide (v.getD 0 0<v.getD 1 0)
def Zc0 (l x:List Int):List Int:=l.map (fun v=>x.getD v.toNat 0)
def Ziw (m:Zt) (x:List Int):Bool:=m.2.all (fun r=>holdsB r (Zc0 r.2.1 x))
structure ZDM (r:ZE) (v:List Int):Prop where
 len:v.length=r.2.1.length
 few:v.length≤1048576
 dig:∀i,0≤v.getD i 0∧v.getD i 0≤3
theorem Zvl {n:Int} {r:ZE} (h:Zex n r=true):(∀i,i<r.2.1.length→0≤r.2.1.getD i 0∧r.2.1.getD i 0<n)∧1≤r.2.1.length∧ZfK r=true:=by
 unfold Zex at h
 simp only[Xaf,Xai]at h
 exact⟨fun i hi=>ZIJ h.1 hi,h.2.1,h.2.2.2⟩
theorem ZLw {r:ZE} (h:ZfK r=true) (h1:r.1=1):r.2.2.1.length=r.2.1.length∧∀i,-9≤r.2.2.1.getD i 0∧r.2.2.1.getD i 0≤9:=by
 unfold ZfK ZyV at h
 rw[beq_iff_eq.2 h1,cond_true]at h
 simp only[Xaf,Xai,Xan]at h
 refine⟨by omega,fun i=>?_⟩
 rcases Xah i r.2.2.1.length with h2|h2
 ·have:=h.2.2 _ (ZB (d:=0) h2)
  unfold Zo2 at this
  simp only[Xaf,Xai]at this
  exact this.2
 ·rw[Xab,Xat h2]
  decide
theorem ZGX {r:ZE} (h:ZfK r=true) (h1:r.1≠1) (h2:r.1≠2) (h3:r.1≠3):r.1=4∧r.2.1.length=2:=by
 unfold ZfK at h
 rw[beq_eq_false_iff_ne.2 h1,beq_eq_false_iff_ne.2 h3,beq_eq_false_iff_ne.2 h2,cond_false,cond_false]at h
 by_cases h4:r.1=4
 ·rw[beq_iff_eq.2 h4,cond_true,decide_eq_true_iff]at h
  exact⟨h4,h⟩
 ·rw[beq_eq_false_iff_ne.2 h4,cond_false]at h
  cases h
theorem ZEU {r:ZE} {v:List Int} (h:ZfK r=true) (h1:r.1=1) (hv:ZDM r v) {f:Int×Int→Option ((Int×Int)⊕Bool)} (hf:(∀a i:Int,f (a,i)=cond (decide (i<(v.length:Int))) (
   rq (0≤i∧i<v.length) <|rq (0≤i∧i<r.2.2.1.length) <|rq (i64 ((r.2.2.1.getD i.toNat 0)*(v.getD i.toNat 0))) <|rq (i64 (a+((r.2.2.1.getD i.toNat 0)*(v.getD i.toNat 0)))) <|rq (i64 (i+(1:Int))) <|
   some (.inl ((a+((r.2.2.1.getD i.toNat 0)*(v.getD i.toNat 0))),(i+(1:Int))))) (some (.inr (decide (r.2.2.2.1≤a)))))∨∀a i:Int,f (a,i)=cond (decide (i<(v.length:Int))) (
   rq (0≤i∧i<r.2.2.1.length) <|rq (0≤i∧i<v.length) <|rq (i64 ((r.2.2.1.getD i.toNat 0)*(v.getD i.toNat 0))) <|rq (i64 (a+((r.2.2.1.getD i.toNat 0)*(v.getD i.toNat 0)))) <|rq (i64 (i+(1:Int))) <|
   some (.inl ((a+((r.2.2.1.getD i.toNat 0)*(v.getD i.toNat 0))),(i+(1:Int))))) (some (.inr (decide (r.2.2.2.1≤a))))) :
  loop f ((0:Int),(0:Int))=some (decide (r.2.2.2.1≤Zct r.2.2.1 v v.length)):=by
 obtain⟨k1,k2⟩:=ZLw h h1
 have hl:=hv.len
 have hfew:=hv.few
 refine ZH (f:=f) (fun s:Int×Int=>∃i:Nat,s.2=i∧i≤v.length∧s.1=Zct r.2.2.1 v i) (fun s=>v.length - s.2.toNat) (fun _=>decide (r.2.2.2.1≤Zct r.2.2.1 v v.length)) ?_ _ ⟨0,rfl,Nat.zero_le _,rfl⟩
 rintro⟨a,s⟩ ⟨i,rfl,hi,ha⟩
 dsimp only at ha ⊢
 subst ha
 have e:=hf.imp (fun q=>q (Zct r.2.2.1 v i) (i:Int)) (fun q=>q (Zct r.2.2.1 v i) (i:Int))
 rcases Xah i v.length with h2|h2
 ·left
  have hb:=ZJp (c:=r.2.2.1) (x:=v) (n:=i) (fun j _=>Zni (k2 j) (hv.dig j))
  have hm:=Zni (k2 i) (hv.dig i)
  refine⟨(Zct r.2.2.1 v (i+1),(i:Int)+1),?_,⟨i+1,by simp,by omega,rfl⟩,by (try dsimp only)<;>omega,rfl⟩
  rcases e with e|e
  ·rw[e,Zd (by omega),Zb ⟨by omega,by omega⟩,Zb ⟨by omega,by omega⟩,Xaa,Zg (by omega) (by omega),Zg (by omega) (by omega),Zg (by omega) (by omega),Zll]
  ·rw[e,Zd (by omega),Zb ⟨by omega,by omega⟩,Zb ⟨by omega,by omega⟩,Xaa,Zg (by omega) (by omega),Zg (by omega) (by omega),Zg (by omega) (by omega),Zll]
 ·right
  have:i=v.length:=by omega
  subst this
  rcases e with e|e<;>rw[e,Zc (by omega)]
theorem ZEI {v:List Int} (hv:v.length≤1048576):loop (ZeO v) (0:Int)=some (ZzL v):=by
 unfold ZzL
 rw[Zb4 v.length (ZkZ v) false true]
 ·cases (List.range v.length).all (ZkZ v)<;>rfl
 ·intro i hi _
  unfold ZeO ZkZ
  rw[Zd (by omega),Zb ⟨by omega,by omega⟩,Zb ⟨by omega,by omega⟩,Xaa,Zs4 _ _ (by rw[Xay];omega),Ze]
  cases (v.take i).any (fun x=>v.getD i 0==x)with
  |true=>rw[ctt,Xa2,cff]
  |false=>rw[cff,Zg (by omega) (by omega),Xa7,ctt]
 ·unfold ZeO
  rw[Zc (by omega)]
theorem ZDI (v:List Int) (y:Int) {k:Nat} (h:k<v.length):(v.take (k+1)).any (fun x=>y==x)=((v.take k).any (fun x=>y==x)||y==v.getD k 0):=by
 rw[ZlM h,List.any_append]
 simp only[List.any_cons,List.any_nil,Bool.or_false]
theorem ZFu {v:List Int} (hv:v.length≤1048576) {i:Nat} (hi:i<v.length):loop (Zhq v i) (0:Int)=some (bif ZkZ v i then .inl ((i:Int)+1)else .inr false):=by
 refine ZH (f:=Zhq v i) (fun s:Int=>∃k:Nat,s=k∧k≤i∧(v.take k).any (fun x=>v.getD i 0==x)=false) (fun s=>i - s.toNat) (fun _=>bif ZkZ v i then .inl ((i:Int)+1)else .inr false) ?_ _ ⟨0,rfl,Nat.zero_le _,rfl⟩
 rintro s ⟨k,rfl,hk,ha⟩
 unfold Zhq
 rcases Xah k i with h1|h1
 ·have hs:=ZDI v (v.getD i 0) (k:=k) (by omega)
  rw[ha,XbB]at hs
  rw[Zd (by omega),Zb ⟨by omega,by omega⟩,Zb ⟨by omega,by omega⟩,Xaa,Xaa]
  by_cases hq:v.getD k 0=v.getD i 0
  ·right
   have:ZkZ v i=false:=by
    unfold ZkZ
    rw[beq_iff_eq.2 hq.symm]at hs
    have hm:∃x∈v.take i,(v.getD i 0==x)=true:=by
     obtain⟨x,hx,hx2⟩:=List.any_eq_true.1 hs
     exact⟨x,(List.take_subset_take_left v (by omega)) hx,hx2⟩
    rw[List.any_eq_true.2 hm,Xa2]
   rw[Zu hq,this,cff]
  ·left
   rw[Zs hq,Zg (by omega) (by omega)]
   rw[beq_eq_false_iff_ne.2 (fun e=>hq e.symm)]at hs
   exact⟨_,rfl,⟨k+1,by simp,by omega,hs⟩,by omega,rfl⟩
 ·right
  have:k=i:=by omega
  subst this
  unfold ZkZ
  rw[Zc (by omega),Zg (by omega) (by omega),ha,Xa7,ctt]
theorem ZFt {v:List Int} (hv:v.length≤1048576):loop (Zhp v) (0:Int)=some (ZzL v):=by
 unfold ZzL
 rw[Zb4 v.length (ZkZ v) false true]
 ·cases (List.range v.length).all (ZkZ v)<;>rfl
 ·intro i hi _
  unfold Zhp
  rw[Zd (by omega),ZFu hv hi]
 ·unfold Zhp
  rw[Zc (by omega)]
def ZpY (a b:List Int) (i:Nat):Bool:=a.getD i 0==b.getD i 0
theorem Zyx (a b:List Int):(decide (a.length=b.length)&&(List.range a.length).all (ZpY a b))=(a==b):=by
 rw[Xbx]
 simp only[Xaf,Xai,Xan,XaF,beq_iff_eq,ZpY]
 constructor
 ·rintro⟨h1,h2⟩
  apply XbG h1
  intro j j1 j2
  have:=h2 j j1
  rwa [Xab,Xac j1,Xab,Xac j2]at this
 ·rintro rfl
  exact⟨rfl,fun _ _=>rfl⟩
theorem ZD3 (a b:List Int) (ha:a.length≤1048576):Zi5 a b=some (a==b):=by
 unfold Zi5
 rw[←Zyx]
 by_cases hl:a.length=b.length
 ·rw[Zc4 (by omega),Xae hl,Xag,Zb4 a.length (ZpY a b) false true]
  ·cases (List.range a.length).all (ZpY a b)<;>rfl
  ·intro i hi _
   unfold ZgD ZpY
   rw[Zd (by omega),Zb ⟨by omega,by omega⟩,Zb ⟨by omega,by omega⟩,Xaa]
   by_cases hq:a.getD i 0=b.getD i 0
   ·rw[Zc4 hq,Zg (by omega) (by omega),beq_iff_eq.2 hq,ctt]
   ·rw[Zf6 hq,beq_eq_false_iff_ne.2 hq,cff]
  ·unfold ZgD
   rw[Zc (by omega)]
 ·rw[Zf6 (by omega),decide_eq_false hl,Xad]
theorem ZBR (a b:List Int) (ha:a.length≤1048576):Zph a b=some (a==b):=by
 unfold Zph
 rw[←Zyx]
 by_cases hl:a.length=b.length
 ·rw[Zc4 (by omega),Xae hl,Xag,Zb4 a.length (ZpY a b) false true]
  ·cases (List.range a.length).all (ZpY a b)<;>rfl
  ·intro i hi _
   unfold ZlJ ZpY
   rw[Zd (by omega),Zb ⟨by omega,by omega⟩,Zb ⟨by omega,by omega⟩,Xaa]
   by_cases hq:a.getD i 0=b.getD i 0
   ·rw[Zc4 hq,Zg (by omega) (by omega),beq_iff_eq.2 hq,ctt]
   ·rw[Zf6 hq,beq_eq_false_iff_ne.2 hq,cff]
  ·unfold ZlJ
   rw[Zc (by omega)]
 ·rw[Zf6 (by omega),decide_eq_false hl,Xad]
theorem ZpS {r:ZE} {v:List Int} (hs:ZcG r) (h:ZfK r=true) (hv:ZDM r v):Zhe r v=some (holdsB r v):=by
 obtain⟨s1,s2,s3,s4⟩:=hs
 unfold Zhe holdsB
 by_cases h1:r.1=1
 ·rw[Zu h1,beq_iff_eq.2 h1,ctt,ZEU h h1 hv (f:=Zk3 r v) (Or.inl (fun _ _=>rfl))]
 ·rw[Zs h1,beq_eq_false_iff_ne.2 h1,cff]
  by_cases h2:r.1=2
  ·rw[Zu h2,beq_iff_eq.2 h2,ctt,ZEI hv.few]
  ·rw[Zs h2,beq_eq_false_iff_ne.2 h2,cff]
   by_cases h3:r.1=3
   ·rw[Zu h3,beq_iff_eq.2 h3,ctt]
    unfold Zcc ZcA
    obtain⟨q,hq1,hq2⟩:=ZfV (f:=Z9 r.2.2.2.2 v) r.2.2.2.2 [] (fun row=>row==v) (fun i hi=>by
     have hx:=s4 _ (ZB (l:=r.2.2.2.2) (i:=i) (d:=[]) hi)
     unfold Z9 ZlY
     rw[Zd (by omega),Zb ⟨by omega,by omega⟩,Xaa,ZD3 _ _ hx,Ze,Ze]
     cases r.2.2.2.2.getD i []==v with
     |true=>rw[ctt,ctt]
     |false=>rw[cff,cff,Zg (by omega) (by omega)]) (by
     unfold Z9
     rw[Zc (by omega)])
    rw[hq1,Ze,Ze,hq2]
   ·obtain⟨_,k2⟩:=ZGX h h1 h2 h3
    have hl:=hv.len
    rw[Zs h3,beq_eq_false_iff_ne.2 h3,cff,Zb ⟨by omega,by omega⟩,Zb ⟨by omega,by omega⟩]
    rfl
theorem ZDE {r:ZE} {v:List Int} (hs:ZcG r) (h:ZfK r=true) (hv:ZDM r v):ZkA r v=some (holdsB r v):=by
 obtain⟨s1,s2,s3,s4⟩:=hs
 unfold ZkA holdsB
 by_cases h1:r.1=1
 ·rw[Zu h1,beq_iff_eq.2 h1,ctt,ZEU h h1 hv (f:=Zoh r v) (Or.inr (fun _ _=>rfl))]
 ·rw[Zs h1,beq_eq_false_iff_ne.2 h1,cff]
  by_cases h2:r.1=2
  ·rw[Zu h2,beq_iff_eq.2 h2,ctt,ZFt hv.few]
  ·rw[Zs h2,beq_eq_false_iff_ne.2 h2,cff]
   by_cases h3:r.1=3
   ·rw[Zs (by omega),beq_iff_eq.2 h3,ctt,Zb4 r.2.2.2.2.length (fun i=>!(r.2.2.2.2.getD i []==v)) true false]
    ·rw[Zg7 r.2.2.2.2 (fun row=>!(row==v)) [],XaU]
     cases r.2.2.2.2.all (fun row=>!(row==v))<;>rfl
    ·intro i hi _
     have hx:=s4 _ (ZB (l:=r.2.2.2.2) (i:=i) (d:=[]) hi)
     unfold ZkB
     rw[Zd (by omega),Zb ⟨by omega,by omega⟩,Xaa,ZBR _ _ hx,Ze]
     cases r.2.2.2.2.getD i []==v with
     |true=>rw[ctt,Xa2,cff]
     |false=>rw[cff,Zg (by omega) (by omega),Xa7,ctt]
    ·unfold ZkB
     rw[Zc (by omega)]
   ·obtain⟨k1,k2⟩:=ZGX h h1 h2 h3
    have hl:=hv.len
    rw[Zu k1,beq_eq_false_iff_ne.2 h3,cff,Zb ⟨by omega,by omega⟩,Zb ⟨by omega,by omega⟩]
    rfl
theorem Zy5 {m:Zt} {r:ZE} {x:List Int} (hm:ZF m=true) (hs:ZcG r) (hx:ZR m x=true) (hr:Zex m.1.length r=true):ZDM r (Zc0 r.2.1 x):=by
 obtain⟨x1,x2⟩:=ZuQ hx
 obtain⟨r1,r2,r3⟩:=Zvl hr
 refine⟨by unfold Zc0;rw[Xas],by unfold Zc0;rw[Xas];exact hs.1,fun i=>?_⟩
 rcases Xah i r.2.1.length with h1|h1
 ·unfold Zc0
  rw[ZrP r.2.1 (fun v=>x.getD v.toNat 0) i 0 0 h1]
  have q1:=r1 i h1
  have q2:=x2 (r.2.1.getD i 0).toNat (by omega)
  have q3:=ZBI hm (i:=(r.2.1.getD i 0).toNat) (by omega)
  omega
 ·rw[Xab,Xat (by unfold Zc0;rw[Xas];exact h1)]
  decide
theorem ZzO {m:Zt} {r:ZE} {x:List Int} (hm:ZF m=true) (hs:ZcG r) (hx:ZR m x=true) (hr:Zex m.1.length r=true):ZnK r x=some (holdsB r (Zc0 r.2.1 x)):=by
 obtain⟨x1,x2⟩:=ZuQ hx
 obtain⟨r1,r2,r3⟩:=Zvl hr
 have hs1:=hs.1
 unfold ZnK
 refine ZH (f:=Zkl r x) (fun s:Int×List Int=>∃i:Nat,s.1=i∧i≤r.2.1.length∧s.2=Zc0 (r.2.1.take i) x) (fun s=>r.2.1.length - s.1.toNat) (fun _=>holdsB r (Zc0 r.2.1 x)) ?_ _ ⟨0,rfl,Nat.zero_le _,rfl⟩
 rintro⟨s,v⟩ ⟨i,rfl,hi,rfl⟩
 dsimp only
 unfold Zkl
 dsimp only
 rcases Xah i r.2.1.length with h1|h1
 ·left
  have q1:=r1 i h1
  have hl:(Zc0 (r.2.1.take i) x).length=i:=by unfold Zc0;rw[Xas,Xay];omega
  rw[Zd (by omega),Zb ⟨by omega,by omega⟩,Xaa,Zb ⟨by omega,by omega⟩,Zb (by rw[hl,XaG];simp only[Zp];omega),Zg (by omega) (by omega)]
  refine⟨_,rfl,⟨i+1,by simp,by omega,?_⟩,by (try dsimp only)<;>omega,rfl⟩
  unfold Zc0
  rw[ZlM h1,Xa9]
  rfl
 ·right
  have:i=r.2.1.length:=by omega
  subst this
  unfold ZnL
  rw[Zc (by omega),Xav,ZpS hs r3 (Zy5 hm hs hx hr),Ze]
  rfl
theorem Ztq {m:Zt} {r:ZE} {x:List Int} (hm:ZF m=true) (hs:ZcG r) (hx:ZR m x=true) (hr:Zex m.1.length r=true):Zli r x=some (holdsB r (Zc0 r.2.1 x)):=by
 obtain⟨x1,x2⟩:=ZuQ hx
 obtain⟨r1,r2,r3⟩:=Zvl hr
 have hs1:=hs.1
 unfold Zli
 refine ZH (f:=ZkC r x) (fun s:Int×List Int=>∃i:Nat,s.1=i∧i≤r.2.1.length∧s.2=Zc0 (r.2.1.take i) x) (fun s=>r.2.1.length - s.1.toNat) (fun _=>holdsB r (Zc0 r.2.1 x)) ?_ _ ⟨0,rfl,Nat.zero_le _,rfl⟩
 rintro⟨s,v⟩ ⟨i,rfl,hi,rfl⟩
 dsimp only
 unfold ZkC
 dsimp only
 rcases Xah i r.2.1.length with h1|h1
 ·left
  have q1:=r1 i h1
  have hl:(Zc0 (r.2.1.take i) x).length=i:=by unfold Zc0;rw[Xas,Xay];omega
  rw[Zd (by omega),Zb ⟨by omega,by omega⟩,Xaa,Zb ⟨by omega,by omega⟩,Zb (by rw[hl,XaG];simp only[Zp];omega),Zg (by omega) (by omega)]
  refine⟨_,rfl,⟨i+1,by simp,by omega,?_⟩,by (try dsimp only)<;>omega,rfl⟩
  unfold Zc0
  rw[ZlM h1,Xa9]
  rfl
 ·right
  have:i=r.2.1.length:=by omega
  subst this
  rw[Zc (by omega),Xav,ZDE hs r3 (Zy5 hm hs hx hr)]
  rfl
theorem Zq6 {m:Zt} (hm:ZF m=true):∀r∈m.2,Zex m.1.length r=true:=by
 unfold ZF at hm
 simp only[Xaf,Xan]at hm
 exact hm.2.2.2.2
theorem ZBi {m:Zt} {x:List Int} (h:Zds m) (hm:ZF m=true) (hx:ZR m x=true):ZhR m x=some (Ziw m x):=by
 have h2:=h.2.1
 unfold ZhR ZbQ Zb1 Ziw
 obtain⟨q,hq1,hq2⟩:=ZfV (f:=ZX m.2 x) m.2 (0,[],[],0,[]) (fun r=>!holdsB r (Zc0 r.2.1 x)) (fun i hi=>by
  have hr:=ZB (l:=m.2) (i:=i) (d:=(0,[],[],0,[])) hi
  unfold ZX Zj6
  rw[Zd (by omega),Zb ⟨by omega,by omega⟩,Xaa,ZzO hm (h.2.2 _ hr) hx (Zq6 hm _ hr),Ze,Ze]
  cases holdsB (m.2.getD i (0,[],[],0,[])) (Zc0 (m.2.getD i (0,[],[],0,[])).2.1 x)with
  |true=>rw[Xa2,cff,cff,Zg (by omega) (by omega)]
  |false=>rw[Xa7,ctt,ctt]) (by
  unfold ZX
  rw[Zc (by omega)])
 rw[hq1,Ze,Ze,hq2,XaU]
 simp only[Xbu]
theorem ZBX {m:Zt} {x:List Int} (h:Zds m) (hm:ZF m=true) (hx:ZR m x=true):ZmH m x=some (Ziw m x):=by
 have h2:=h.2.1
 unfold ZmH Ziw
 rw[Zb4 m.2.length (fun i=>holdsB (m.2.getD i (0,[],[],0,[])) (Zc0 (m.2.getD i (0,[],[],0,[])).2.1 x)) false true]
 ·rw[Zg7 m.2 (fun r=>holdsB r (Zc0 r.2.1 x)) (0,[],[],0,[])]
  cases m.2.all (fun r=>holdsB r (Zc0 r.2.1 x))<;>rfl
 ·intro i hi _
  have hr:=ZB (l:=m.2) (i:=i) (d:=(0,[],[],0,[])) hi
  unfold Zje
  rw[Zd (by omega),Zb ⟨by omega,by omega⟩,Xaa,Ztq hm (h.2.2 _ hr) hx (Zq6 hm _ hr),Ze]
  cases holdsB (m.2.getD i (0,[],[],0,[])) (Zc0 (m.2.getD i (0,[],[],0,[])).2.1 x)with
  |true=>rw[cnt,Zg (by omega) (by omega),ctt]
  |false=>rw[cnf,cff]
 ·unfold Zje
  rw[Zc (by omega)]
end Go.AE.Y
namespace Go.AE.Y
open Go Go.AE
def Zer (s:List Int):Nat→List Int→Bool×List Int
 |0,x=>(false,x)
 |n+1,x=>bif decide (x.getD n 0<s.getD n 0)then(true,x.set n (x.getD n 0+1))else Zer s n (x.set n 0)
def Zk9 (x:List Int):Nat→Int
 |0=>0
 |n+1=>4*Zk9 x n+x.getD n 0
def Dig (s x:List Int):Prop:=∀i,0≤x.getD i 0∧x.getD i 0≤s.getD i 0
theorem Zy1 (s:List Int) (n:Nat) (x:List Int):Zer s (n+1) x=bif decide (x.getD n 0<s.getD n 0)then(true,x.set n (x.getD n 0+1))else Zer s n (x.set n 0):=rfl
theorem ZxP (s:List Int):∀n x,(Zer s n x).2.length=x.length
 |0,_=>rfl
 |n+1,x=>by
  unfold Zer
  cases decide (x.getD n 0<s.getD n 0)with
  |true=>rw[ctt];exact Xap
  |false=>rw[cff,ZxP s n];exact Xap
theorem ZxK {s x:List Int} (h:Dig s x) {n:Nat} {v:Int} (h0:0≤v) (h1:v≤s.getD n 0):Dig s (x.set n v):=by
 intro i
 rw[ZhA]
 by_cases hi:n=i∧n<x.length
 ·rw[if_pos hi,←hi.1];exact⟨h0,h1⟩
 ·rw[if_neg hi];exact h i
theorem ZG4 {s:List Int}:∀n x,Dig s x→Dig s (Zer s n x).2
 |0,_,h=>h
 |n+1,x,h=>by
  have hn:=h n
  unfold Zer
  cases hq:decide (x.getD n 0<s.getD n 0)with
  |true=>
   have:=of_decide_eq_true hq
   rw[ctt]
   exact ZxK h (by omega) (by omega)
  |false=>
   rw[cff]
   exact ZG4 n _ (ZxK h (by omega) (by omega))
theorem ZE3 {s:List Int}:∀n x,n≤x.length→(Zer s n x).1=true→∃k,k<n∧(Zer s n x).2.getD k 0=x.getD k 0+1∧(∀j,j<k→(Zer s n x).2.getD j 0=x.getD j 0)∧∀j,k<j→j<n→(Zer s n x).2.getD j 0=0
 |0,_,_,h=>by cases h
 |n+1,x,hl,h=>by
  unfold Zer at h ⊢
  cases hq:decide (x.getD n 0<s.getD n 0)with
  |true=>
   rw[ctt]
   refine⟨n,by omega,Zcp (by omega),fun j hj=>ZU (by omega),fun j h1 h2=>by omega⟩
  |false=>
   rw[hq,cff]at h
   rw[cff]
   obtain⟨k,k1,k2,k3,k4⟩:=ZE3 n (x.set n 0) (by rw[Xap];omega) h
   have hn:(Zer s n (x.set n 0)).2.getD n 0=0:=by
    have:∀n' y,n'≤n→(Zer s n' y).2.getD n 0=y.getD n 0:=by
     intro n'
     induction n' with
     |zero=>intro y _;rfl
     |succ a ih=>
      intro y ha
      unfold Zer
      cases decide (y.getD a 0<s.getD a 0)with
      |true=>rw[ctt];exact ZU (by omega)
      |false=>rw[cff,ih _ (by omega)];exact ZU (by omega)
    rw[this n _ (Nat.le_refl _)]
    exact Zcp (by omega)
   refine⟨k,by omega,by rw[k2,ZU (by omega)],fun j hj=>by rw[k3 j hj,ZU (by omega)],fun j h1 h2=>?_⟩
   rcases Xah j n with h3|h3
   ·exact k4 j h1 h3
   ·rw[show j=n by omega];exact hn
theorem ZLy {x y:List Int} {k:Nat} (h1:y.getD k 0=x.getD k 0+1) (h2:∀j,j<k→y.getD j 0=x.getD j 0) (h3:∀i,x.getD i 0≤3) {n:Nat} (h4:∀j,k<j→j<n→y.getD j 0=0) :
  (∀j,j≤k→Zk9 y j=Zk9 x j)∧(k<n→Zk9 x n+1≤Zk9 y n):=by
 have e:∀j,j≤k→Zk9 y j=Zk9 x j:=by
  intro j
  induction j with
  |zero=>intro _;rfl
  |succ j ih=>
   intro hj
   unfold Zk9
   rw[ih (by omega),h2 j (by omega)]
 refine⟨e,?_⟩
 induction n with
 |zero=>intro h;omega
 |succ n ih=>
  intro hk
  unfold Zk9
  rcases Xah k n with h5|h5
  ·have:=ih (fun j a b=>h4 j a (by omega)) h5
   have:=h4 n h5 (by omega)
   have:=h3 n
   omega
  ·have:k=n:=by omega
   subst this
   rw[e k (Nat.le_refl _),h1]
   omega
theorem ZCD {x:List Int} (h:∀i,0≤x.getD i 0∧x.getD i 0≤3):∀n:Nat,0≤Zk9 x n∧Zk9 x n+1≤((4^n:Nat):Int)
 |0=>⟨XaD _,by show (0:Int)+1≤((4^0:Nat):Int);decide⟩
 |n+1=>by
  have ih:=ZCD h n
  have:=h n
  have e:((4^(n+1):Nat):Int)=4*((4^n:Nat):Int):=by rw[Nat.pow_succ];omega
  rw[e]
  unfold Zk9
  omega
theorem ZeJ {m:Zt} {x:List Int} (hx:ZR m x=true):x.length=m.1.length∧Dig m.1 x:=by
 obtain⟨x1,x2⟩:=ZuQ hx
 refine⟨x1,fun i=>?_⟩
 rcases Xah i x.length with h|h
 ·exact x2 i h
 ·rw[Xab,Xat h,Xab,Xat (by omega)]
  decide
theorem ZCn {m:Zt} {x:List Int} (hl:x.length=m.1.length) (h:Dig m.1 x):ZR m x=true:=by
 unfold ZR cellAt
 simp only[Xaf,Xai,Xan]
 exact⟨hl,fun i _=>h i⟩
theorem Zta {m:Zt} {x:List Int} (hm:ZF m=true) (h:Dig m.1 x):∀i,0≤x.getD i 0∧x.getD i 0≤3:=by
 intro i
 have h1:=h i
 rcases Xah i m.1.length with h2|h2
 ·have:=ZBI hm h2
  omega
 ·have e:m.1.getD i 0=0:=by rw[Xab,Xat h2];rfl
  omega
def Zbz (m:Zt) (x:List Int):Bool×List Int:=Zer m.1 x.length x
def muF (x:List Int):Nat:=1024 - (Zk9 x x.length).toNat
theorem Znj {m:Zt} {x:List Int} (hx:ZR m x=true):ZR m (Zbz m x).2=true:=by
 obtain⟨x1,x2⟩:=ZeJ hx
 exact ZCn (by unfold Zbz;rw[ZxP];exact x1) (ZG4 _ _ x2)
theorem Zr1 {m:Zt} {x:List Int} (hm:ZF m=true) (hx:ZR m x=true):1≤muF x∧0≤Zk9 x x.length∧Zk9 x x.length≤1023:=by
 obtain⟨x1,x2⟩:=ZeJ hx
 obtain⟨m1,m2,m3⟩:=Zfi hm
 have hb:=ZCD (Zta hm x2) x.length
 have h4:4^x.length≤4^5:=Nat.pow_le_pow_right (by decide) (by omega)
 have h5:(4:Nat)^5=1024:=by decide
 unfold muF
 omega
theorem Zuo {m:Zt} {x:List Int} (hm:ZF m=true) (hx:ZR m x=true) (h:(Zbz m x).1=true):muF (Zbz m x).2<muF x:=by
 obtain⟨x1,x2⟩:=ZeJ hx
 have hp:=Zr1 hm hx
 have hp':=Zr1 hm (Znj hx)
 have hl:(Zbz m x).2.length=x.length:=ZxP _ _ _
 obtain⟨k,k1,k2,k3,k4⟩:=ZE3 (s:=m.1) x.length x (Nat.le_refl _) h
 have:=(ZLy k2 k3 (fun i=>(Zta hm x2 i).2) k4).2 k1
 unfold muF at *
 rw[hl]at hp' ⊢
 have e:Zk9 (Zbz m x).2 x.length=Zk9 (Zer m.1 x.length x).2 x.length:=rfl
 omega
theorem ZBS {m:Zt} {x:List Int} (hm:ZF m=true) (hx:ZR m x=true):Zms m x=some (Zbz m x):=by
 obtain⟨x1,x2⟩:=ZeJ hx
 obtain⟨m1,m2,m3⟩:=Zfi hm
 unfold Zms Zbz
 rw[Xao,Zb (by simp only[Xak,Zp];omega),Zg (by omega) (by omega)]
 refine ZH (f:=ZlK m) (fun s:Int×List Int=>∃n:Nat,s.1=(n:Int) - 1∧n≤x.length∧s.2.length=x.length∧Dig m.1 s.2) (fun s=>(s.1+1).toNat) (fun s=>Zer m.1 (s.1+1).toNat s.2) ?_ _ ⟨x.length,rfl,Nat.le_refl _,rfl,x2⟩ |>.trans ?_
 ·rintro⟨s,y⟩ ⟨n,hs,hn,hl,hd⟩
  dsimp only at hs hl hd ⊢
  subst hs
  unfold ZlK
  dsimp only
  cases n with
  |zero=>
   right
   rw[Zc (by omega)]
   rfl
  |succ n=>
   have e:(((n+1:Nat):Int) - 1).toNat=n:=by omega
   have e':(((n+1:Nat):Int) - 1+1).toNat=n+1:=by omega
   have hz:=Zta hm hd n
   rw[Zd (by omega),Zb ⟨by omega,by omega⟩,Zb ⟨by omega,by omega⟩,e,e',Zy1]
   cases hq:decide (y.getD n 0<m.1.getD n 0)with
   |true=>
    right
    rw[ctt,ctt,Zb ⟨by omega,by omega⟩,Zg (by omega) (by omega),Zb ⟨by omega,by omega⟩]
   |false=>
    left
    rw[cff,cff,Zb ⟨by omega,by omega⟩,Zg (by omega) (by omega)]
    refine⟨_,rfl,⟨n,by (try dsimp only)<;>omega,by omega,by (try dsimp only)<;>(rw[Xap];exact hl),ZxK hd (by omega) (by have:=hd n;omega)⟩,by (try dsimp only)<;>omega,?_⟩
    dsimp only
    rw[show (((n+1:Nat):Int) - 1 - 1+1).toNat=n by omega]
 ·dsimp only
  rw[show ((x.length:Int) - 1+1).toNat=x.length by omega]
theorem ZIs {s:List Int} (h:s.length≤1048576):Zcb s=some s:=by
 unfold Zcb
 refine Zxc (fun e=>by rw[e]) ?_
 rw[Zb (by simp only[Xak,Zp];omega),Xao]
theorem Zrc {m:Zt} (hm:ZF m=true):ZR m (List.replicate m.1.length 0)=true:=by
 refine ZCn XaC (fun i=>?_)
 have e:(List.replicate m.1.length (0:Int)).getD i 0=0:=by
  rw[Xab]
  rcases Xah i m.1.length with h|h
  ·rw[XaW h];rfl
  ·rw[Xat (by rw[XaC];exact h)];rfl
 rw[e]
 rcases Xah i m.1.length with h|h
 ·have:=ZBI hm h
  omega
 ·rw[Xab,Xat h]
  decide
end Go.AE.Y
namespace Go.AE.Y
open Go Go.AE
def LtL (n:Nat) (x y:List Int):Prop:=∃k,k<n∧x.getD k 0<y.getD k 0∧∀j,j<k→x.getD j 0=y.getD j 0
theorem LtL.trans {n:Nat} {x y z:List Int}:LtL n x y→LtL n y z→LtL n x z:=by
 rintro⟨a,a1,a2,a3⟩ ⟨b,b1,b2,b3⟩
 rcases Xah a b with h|h
 ·exact⟨a,a1,by rw[←b3 a h];exact a2,fun j hj=>by rw[a3 j hj,b3 j (by omega)]⟩
 ·rcases Xah b a with h'|h'
  ·exact⟨b,b1,by rw[a3 b h'];exact b2,fun j hj=>by rw[a3 j (by omega),b3 j hj]⟩
  ·have:a=b:=by omega
   subst this
   exact⟨a,a1,by omega,fun j hj=>by rw[a3 j hj,b3 j hj]⟩
theorem Zu0 {x y:List Int}:∀n,(∀i,i<n→x.getD i 0≤y.getD i 0)→(∀i,i<n→x.getD i 0=y.getD i 0)∨LtL n x y
 |0,_=>Or.inl (fun i hi=>by omega)
 |n+1,h=>by
  rcases Zu0 n (fun i hi=>h i (by omega))with e|⟨k,k1,k2,k3⟩
  ·have hn:=h n (by omega)
   by_cases q:x.getD n 0=y.getD n 0
   ·left
    intro i hi
    rcases Xah i n with h2|h2
    ·exact e i h2
    ·rw[show i=n by omega];exact q
   ·right
    exact⟨n,by omega,by omega,e⟩
  ·exact Or.inr ⟨k,by omega,k2,k3⟩
theorem ZwM {x y:List Int} (hl:x.length=y.length) (h:∀i,i<x.length→x.getD i 0=y.getD i 0):x=y:=by
 apply XbG hl
 intro i h1 h2
 have:=h i h1
 rwa [Xab,Xab,Xac h1,Xac h2]at this
theorem Zxd {s:List Int}:∀n x,n≤x.length→((Zer s n x).1=false∧∀j,j<n→s.getD j 0≤x.getD j 0)∨((Zer s n x).1=true∧∃k,k<n∧(Zer s n x).2.getD k 0=x.getD k 0+1∧(∀j,j<k→(Zer s n x).2.getD j 0=x.getD j 0)∧(∀j,n≤j→(Zer s n x).2.getD j 0=x.getD j 0)∧∀j,k<j→j<n→(Zer s n x).2.getD j 0=0∧s.getD j 0≤x.getD j 0)
 |0,_,_=>Or.inl ⟨rfl,fun j hj=>by omega⟩
 |n+1,x,hl=>by
  rw[Zy1]
  cases hq:decide (x.getD n 0<s.getD n 0)with
  |true=>
   rw[ctt]
   right
   exact⟨rfl,n,by omega,Zcp (by omega),fun j hj=>ZU (by omega),fun j hj=>ZU (by omega),fun j h1 h2=>by omega⟩
  |false=>
   rw[cff]
   have hq':=of_decide_eq_false hq
   rcases Zxd n (x.set n 0) (by rw[Xap];omega)with⟨h1,h2⟩|⟨h1,k,k1,k2,k3,k4,k5⟩
   ·left
    refine⟨h1,fun j hj=>?_⟩
    rcases Xah j n with h3|h3
    ·have:=h2 j h3
     rwa [ZU (by omega)]at this
    ·rw[show j=n by omega];omega
   ·right
    refine⟨h1,k,by omega,by rw[k2,ZU (by omega)],fun j hj=>by rw[k3 j hj,ZU (by omega)],fun j hj=>by rw[k4 j (by omega),ZU (by omega)],fun j h3 h4=>?_⟩
    rcases Xah j n with h5|h5
    ·have:=k5 j h3 h5
     rwa [ZU (by omega)]at this
    ·have:j=n:=by omega
     subst this
     exact⟨by rw[k4 j (Nat.le_refl _)];exact Zcp (by omega),by omega⟩
theorem ZG2 {m:Zt} {x:List Int} (hx:ZR m x=true) (h:(Zbz m x).1=true):LtL m.1.length x (Zbz m x).2:=by
 obtain⟨x1,_⟩:=ZeJ hx
 unfold Zbz at h ⊢
 rcases Zxd (s:=m.1) x.length x (Nat.le_refl _)with⟨h1,_⟩|⟨_,k,k1,k2,k3,_⟩
 ·rw[h1]at h;cases h
 ·exact⟨k,by omega,by rw[k2];omega,fun j hj=>(k3 j hj).symm⟩
theorem ZK6 {m:Zt} {x y:List Int} (hx:ZR m x=true) (hy:ZR m y=true) (h:LtL m.1.length x y):(Zbz m x).1=true∧((Zbz m x).2=y∨LtL m.1.length (Zbz m x).2 y):=by
 obtain⟨x1,x2⟩:=ZeJ hx
 obtain⟨y1,y2⟩:=ZeJ hy
 obtain⟨a,a1,a2,a3⟩:=h
 have hl:(Zbz m x).2.length=x.length:=ZxP _ _ _
 unfold Zbz at hl ⊢
 have hya:=y2 a
 rcases Zxd (s:=m.1) x.length x (Nat.le_refl _)with⟨h1,h2⟩|⟨h1,k,k1,k2,k3,k4,k5⟩
 ·have:=h2 a (by omega)
  omega
 ·refine⟨h1,?_⟩
  rcases Xah k a with q|q
  ·have:=(k5 a q (by omega)).2
   omega
  ·rcases Xah a k with q'|q'
   ·right
    exact⟨a,a1,by rw[k3 a q'];exact a2,fun j hj=>by rw[k3 j (by omega),a3 j hj]⟩
   ·have:a=k:=by omega
    subst this
    have hle:∀i,i<m.1.length→(Zer m.1 x.length x).2.getD i 0≤y.getD i 0:=fun i hi=>by
     rcases Xah i a with r|r
     ·rw[k3 i r,a3 i r];omega
     ·rcases Xah a i with r'|r'
      ·rw[(k5 i r' (by omega)).1];exact(y2 i).1
      ·rw[show i=a by omega,k2];omega
    rcases Zu0 m.1.length hle with e|e
    ·left
     exact ZwM (by omega) (fun i hi=>e i (by omega))
    ·exact Or.inr e
def ZoX (m:Zt):Nat→List Int→List (List Int)
 |0,x=>[x]
 |n+1,x=>x::bif (Zbz m x).1 then ZoX m n (Zbz m x).2 else[]
def ZtE (m:Zt) (x:List Int):List (List Int):=ZoX m 1024 x
def Zoo (m:Zt):List Int:=List.replicate m.1.length 0
theorem ZFj {m:Zt} (hm:ZF m=true):∀n n' x,ZR m x=true→muF x≤n→muF x≤n'→ZoX m n x=ZoX m n' x
 |0,_,x,hx,h,_=>by have:=(Zr1 hm hx).1;omega
 |_+1,0,x,hx,_,h=>by have:=(Zr1 hm hx).1;omega
 |n+1,n'+1,x,hx,h,h'=>by
  unfold ZoX
  cases hq:(Zbz m x).1 with
  |false=>rfl
  |true=>
   have:=Zuo hm hx hq
   rw[ctt,ctt,ZFj hm n n' _ (Znj hx) (by omega) (by omega)]
theorem ZyI {m:Zt} {x:List Int} (hm:ZF m=true) (hx:ZR m x=true):ZtE m x=x::bif (Zbz m x).1 then ZtE m (Zbz m x).2 else[]:=by
 have h1:ZtE m x=x::bif (Zbz m x).1 then ZoX m 1023 (Zbz m x).2 else[]:=rfl
 rw[h1]
 cases hq:(Zbz m x).1 with
 |false=>rw[cff,cff]
 |true=>
  have h2:=Zuo hm hx hq
  have h3:muF x≤1024:=by unfold muF;omega
  rw[ctt,ctt]
  unfold ZtE
  rw[ZFj hm 1023 1024 _ (Znj hx) (by omega) (by omega)]
theorem ZJb {m:Zt}:∀n x,ZR m x=true→∀z∈ZoX m n x,ZR m z=true∧(z=x∨LtL m.1.length x z)
 |0,x,hx,z,hz=>by
  unfold ZoX at hz
  rw[Xaj]at hz
  subst hz
  exact⟨hx,Or.inl rfl⟩
 |n+1,x,hx,z,hz=>by
  unfold ZoX at hz
  rcases Xaz.1 hz with rfl|hz
  ·exact⟨hx,Or.inl rfl⟩
  ·cases hq:(Zbz m x).1 with
   |false=>rw[hq,cff]at hz;cases hz
   |true=>
    rw[hq,ctt]at hz
    obtain⟨h1,h2⟩:=ZJb n _ (Znj hx) z hz
    refine⟨h1,Or.inr ?_⟩
    rcases h2 with rfl|h2
    ·exact ZG2 hx hq
    ·exact(ZG2 hx hq).trans h2
theorem ZFi {m:Zt} (hm:ZF m=true) {y:List Int} (hy:ZR m y=true):∀n x,ZR m x=true→muF x≤n→(x=y∨LtL m.1.length x y)→y∈ZoX m n x
 |0,x,hx,h,_=>by have:=(Zr1 hm hx).1;omega
 |n+1,x,hx,h,hl=>by
  unfold ZoX
  rcases hl with rfl|hl
  ·exact XaB
  ·obtain⟨h1,h2⟩:=ZK6 hx hy hl
   have:=Zuo hm hx h1
   rw[h1,ctt]
   refine Xau _ (ZFi hm hy n _ (Znj hx) (by omega) h2)
theorem ZK3 {m:Zt} (hm:ZF m=true) {y:List Int}:y∈ZtE m (Zoo m)↔ZR m y=true:=by
 have hz:=Zrc hm
 constructor
 ·intro h
  exact(ZJb 1024 _ hz y h).1
 ·intro h
  obtain⟨y1,y2⟩:=ZeJ h
  refine ZFi hm h 1024 _ hz (by unfold muF;omega) ?_
  have e0:∀i,(Zoo m).getD i 0=0:=fun i=>by
   unfold Zoo
   rw[Xab]
   rcases Xah i m.1.length with h|h
   ·rw[XaW h];rfl
   ·rw[Xat (by rw[XaC];exact h)];rfl
  rcases Zu0 (x:=Zoo m) (y:=y) m.1.length (fun i _=>by rw[e0];exact(y2 i).1)with e|e
  ·exact Or.inl (ZwM (by unfold Zoo;rw[XaC];exact y1.symm) (fun i hi=>e i (by unfold Zoo at hi;rwa [XaC]at hi)))
  ·exact Or.inr e
theorem ZKp {X:Type} {m:Zt} {x:List Int} (hm:ZF m=true) (hx:ZR m x=true) (good:List Int→X) (bad:X) {f:Int×List Int→Option ((Int×List Int)⊕X)} {g:Int×List Int→Option X}
  (hf:∀i y,f (i,y)=cond (decide ((0:Int)≤i)) (rq (0≤i∧i<y.length) <|rq (0≤i∧i<m.1.length) <|cond ((y.getD i.toNat 0)==(m.1.getD i.toNat 0)) (rq (0≤i∧i<y.length) <|rq (i64 (i - (1:Int))) <|some (.inl ((i - (1:Int)),(y.set i.toNat (0:Int))))) (up (g (i,y)))) (up (g (i,y))))
  (hg:∀i y,g (i,y)=cond (decide (i<(0:Int))) (some bad) (rq (0≤i∧i<y.length) <|rq (i64 ((y.getD i.toNat 0)+(1:Int))) <|rq (0≤i∧i<y.length) <|some (good (y.set i.toNat ((y.getD i.toNat 0)+(1:Int)))))) :
  loop f (((x.length:Int) - 1),x)=some (bif (Zbz m x).1 then good (Zbz m x).2 else bad):=by
 obtain⟨x1,x2⟩:=ZeJ hx
 obtain⟨m1,m2,m3⟩:=Zfi hm
 unfold Zbz
 refine ZH (f:=f) (fun s:Int×List Int=>∃n:Nat,s.1=(n:Int) - 1∧n≤x.length∧s.2.length=x.length∧Dig m.1 s.2) (fun s=>(s.1+1).toNat)
  (fun s=>bif (Zer m.1 (s.1+1).toNat s.2).1 then good (Zer m.1 (s.1+1).toNat s.2).2 else bad) ?_ _ ⟨x.length,rfl,Nat.le_refl _,rfl,x2⟩ |>.trans ?_
 ·rintro⟨s,y⟩ ⟨n,hs,hn,hl,hd⟩
  dsimp only at hs hl hd ⊢
  subst hs
  rw[hf,hg]
  cases n with
  |zero=>
   right
   rw[Zc (by omega),Zd (by omega)]
   rfl
  |succ n=>
   have e:(((n+1:Nat):Int) - 1).toNat=n:=by omega
   have e':(((n+1:Nat):Int) - 1+1).toNat=n+1:=by omega
   have hz:=Zta hm hd n
   have hdn:=hd n
   rw[Zd (by omega),Zb ⟨by omega,by omega⟩,Zb ⟨by omega,by omega⟩,e,e',Zy1]
   by_cases hq:y.getD n 0=m.1.getD n 0
   ·left
    rw[Zu hq,decide_eq_false (show ¬y.getD n 0<m.1.getD n 0 by omega),cff,Zb ⟨by omega,by omega⟩,Zg (by omega) (by omega)]
    refine⟨_,rfl,⟨n,by (try dsimp only)<;>omega,by omega,by (try dsimp only)<;>(rw[Xap];exact hl),ZxK hd (by omega) (by omega)⟩,by (try dsimp only)<;>omega,?_⟩
    dsimp only
    rw[show (((n+1:Nat):Int) - 1 - 1+1).toNat=n by omega]
   ·right
    rw[Zs hq,Xae (show y.getD n 0<m.1.getD n 0 by omega),ctt,Zc (by omega),Zb ⟨by omega,by omega⟩,Zg (by omega) (by omega),Zb ⟨by omega,by omega⟩]
    rfl
 ·dsimp only
  rw[show ((x.length:Int) - 1+1).toNat=x.length by omega]
end Go.AE.Y
namespace Go.AE.Y
open Go Go.AE
theorem ZJc {f:Int→Int→Option Int} {l:List Int} {key:Int→Int} (hn:l.length≤4000000000) (hf:∀x∈l,∀y∈l,f x y=some (key x - key y)) (hi:∀x∈l,∀y∈l,key x=key y→x=y) :
  ZxW f l=some (l.mergeSort fun x y=>decide (key x≤key y)):=by
 have hlt:∀x∈l,∀y∈l,ltM f x y=decide (key x<key y):=fun x hx y hy=>by
  unfold ltM
  rw[hf x hx y hy]
  by_cases h:key x<key y
  ·rw[Xae h];exact Xae (by omega)
  ·rw[decide_eq_false h];exact decide_eq_false (by omega)
 have hs:ZHL f l:=by
  refine⟨hn,fun x hx y hy=>⟨_,hf x hx y hy⟩,fun x hx=>?_,fun x hx y hy z hz h1 h2=>?_,fun x hx y hy z hz h1 h2=>?_,fun x hx y hy h1 h2=>?_⟩
  ·rw[hlt x hx x hx];exact decide_eq_false (by omega)
  ·rw[hlt x hx y hy,Xai]at h1
   rw[hlt y hy z hz,Xai]at h2
   rw[hlt x hx z hz]
   exact Xae (by omega)
  ·rw[hlt x hx y hy,decide_eq_false_iff_not]at h1
   rw[hlt y hy z hz,decide_eq_false_iff_not]at h2
   rw[hlt x hx z hz]
   exact decide_eq_false (by omega)
  ·rw[hlt x hx y hy,decide_eq_false_iff_not]at h1
   rw[hlt y hy x hx,decide_eq_false_iff_not]at h2
   exact hi x hx y hy (by omega)
 unfold ZxW
 rw[if_pos hs]
 have e:=List.map_mergeSort (r:=fun x y=>!ltM f y x) (s:=fun x y=>decide (key x≤key y)) (f:=id) (l:=l) (fun a ha b hb=>by
  rw[hlt b hb a ha]
  by_cases h:key b<key a
  ·rw[Xae h];exact(decide_eq_false (by show ¬key (id a)≤key (id b);simp only[id];omega)).symm
  ·rw[decide_eq_false h];exact(Xae (by show key (id a)≤key (id b);simp only[id];omega)).symm)
 rw[List.map_id,List.map_id]at e
 rw[e]
theorem ZFo (l:List Int) (key:Int→Int):(l.mergeSort fun x y=>decide (key x≤key y)).Pairwise (fun x y=>key x≤key y):=by
 have:=List.pairwise_mergeSort (le:=fun x y=>decide (key x≤key y)) (fun a b c h1 h2=>by rw[Xai]at h1 h2 ⊢;omega) (fun a b=>by rw[Bool.or_eq_true,Xai,Xai];omega) l
 exact this.imp (fun h=>of_decide_eq_true h)
theorem ZHM {l l':List Int} {key:Int→Int} (h:l.Pairwise (fun x y=>key x<key y)) (h':l'.Pairwise (fun x y=>key x<key y)) (hm:∀x,x∈l↔x∈l'):l=l':=by
 have nd:∀{a:List Int},a.Pairwise (fun x y=>key x<key y)→a.Nodup:=fun ha=>ha.imp (fun hlt e=>by subst e;exact absurd hlt (Int.lt_irrefl _))
 exact List.Perm.eq_of_pairwise (le:=fun x y=>key x<key y) (fun a b _ _ h1 h2=>absurd h1 (by omega)) h h' ((List.perm_ext_iff_of_nodup (nd h) (nd h')).2 hm)
def Zdv (s:List Int):Nat→List Int
 |0=>[]
 |n+1=>if 1≤n∧s.getD n 0=s.getD (n - 1) 0 then Zdv s n else Zdv s n++[s.getD n 0]
theorem Zjm {l:List Int} {n:Nat} (h:n<l.length):l.take (n+1)=l.take n++[l.getD n 0]:=by
 rw[Xa4,Xac h,Xab,Xac h]
 rfl
theorem ZyJ {s:List Int}:∀n,n≤s.length→∀x,x∈Zdv s n↔x∈s.take n
 |0,_,x=>by unfold Zdv;rw[XaQ]
 |n+1,h,x=>by
  have ih:=ZyJ (s:=s) n (by omega) x
  unfold Zdv
  rw[Zjm (by omega),List.mem_append,Xaj]
  split
  ·rename_i hd
   rw[ih]
   constructor
   ·exact Or.inl
   ·rintro(h1|rfl)
    ·exact h1
    ·rw[hd.2]
     obtain⟨m,rfl⟩:∃m,n=m+1:=⟨n - 1,by omega⟩
     rw[Zjm (by omega)]
     exact List.mem_append_right _ (by rw[XbL];exact Xaj.2 rfl)
  ·rw[List.mem_append,Xaj,ih]
theorem ZEi {s:List Int} {key:Int→Int} (hs:s.Pairwise (fun x y=>key x≤key y)) (hi:∀x∈s,∀y∈s,key x=key y→x=y):∀n,n≤s.length→(Zdv s n).Pairwise (fun x y=>key x<key y)
 |0,_=>List.Pairwise.nil
 |n+1,h=>by
  have ih:=ZEi hs hi n (by omega)
  have hat:∀i,i<s.length→s.getD i 0∈s:=fun i h=>ZB h
  have hle:∀i j,i<j→j<s.length→key (s.getD i 0)≤key (s.getD j 0):=fun i j h1 h2=>by
   have:=Xa3.1 hs i j (by omega) h2 h1
   rwa [Xab,Xab,Xac h2,Xac (show i<s.length by omega)]
  unfold Zdv
  split
  ·exact ih
  ·rename_i hd
   refine List.pairwise_append.2 ⟨ih,Xbr _ _,fun z hz y hy=>?_⟩
   rw[Xaj]at hy
   subst hy
   have hz':=(ZyJ (s:=s) n (by omega) z).1 hz
   obtain⟨i,i1,i2⟩:=Xaq.1 hz'
   rw[Xay]at i1
   rw[Xbo]at i2
   have e:s.getD i 0=z:=by rw[Xab,Xac (show i<s.length by omega)];exact i2
   have h1:=hle i n (by omega) (by omega)
   rw[e]at h1
   by_cases q:key z=key (s.getD n 0)
   ·exfalso
    apply hd
    refine⟨by omega,?_⟩
    have h3:=hle (n - 1) n (by omega) (by omega)
    have h2:key z≤key (s.getD (n - 1) 0):=by
     rcases Xah i (n - 1)with r|r
     ·rw[←e];exact hle i (n - 1) r (by omega)
     ·rw[←e,show i=n - 1 by omega];omega
    exact hi _ (hat n (by omega)) _ (hat (n - 1) (by omega)) (by omega)
   ·omega
theorem Zyo (s:List Int) (hn:s.length≤4000000000):Zhm s=some (Zdv s s.length):=by
 have h1:∀n,1≤n→n≤s.length→(∀k,1≤k→k<n→s.getD k 0≠s.getD (k - 1) 0)→Zdv s n=s.take n:=by
  intro n
  induction n with
  |zero=>intro h;omega
  |succ n ih=>
   intro _ h2 h3
   rw[Zjm (by omega)]
   unfold Zdv
   rcases Xah 0 n with h4|h4
   ·rw[if_neg (fun h=>h3 n h4 (by omega) h.2),ih h4 (by omega) (fun k k1 k2=>h3 k k1 (by omega))]
   ·have:n=0:=by omega
    subst this
    rw[if_neg (fun h=>absurd h.1 (by omega))]
    rfl
 unfold Zhm
 rcases Xah s.length 2 with h2|h2
 ·rw[Zd (by omega)]
  rcases Xah 0 s.length with h3|h3
  ·rw[h1 s.length h3 (Nat.le_refl _) (fun k k1 k2=>by omega),Xav]
  ·have:s=[]:=XaA (by omega)
   subst this
   rfl
 rw[Zc (by omega)]
 refine ZH (f:=Ze3 s) (fun t:Int=>∃n:Nat,t=n∧1≤n∧n≤s.length∧∀k,1≤k→k<n→s.getD k 0≠s.getD (k - 1) 0) (fun t=>s.length - t.toNat) (fun _=>Zdv s s.length) ?_ _ ⟨1,rfl,by omega,by omega,fun k k1 k2=>by omega⟩
 rintro t ⟨n,rfl,n1,n2,n3⟩
 unfold Ze3
 rcases Xah n s.length with h3|h3
 ·rw[Zd (by omega),Zb ⟨by omega,by omega⟩,Zg (by omega) (by omega),Zb ⟨by omega,by omega⟩,Xaa,show ((n:Int) - 1).toNat=n - 1 by omega]
  by_cases q:s.getD n 0=s.getD (n - 1) 0
  ·right
   rw[Zu q,Zb ⟨by omega,by omega⟩]
   have e0:Zdv s (n+1)=s.take n:=by
    unfold Zdv
    rw[if_pos ⟨n1,q⟩,h1 n n1 n2 n3]
   refine ZH (f:=Ze4 n) (fun t:Int×Int×List Int=>∃b:Nat,t.2.1=b∧1≤b∧n+b≤s.length∧t.1=(Zdv s (n+b)).length∧(Zdv s (n+b)).length+1≤n+b∧t.2.2.length=s.length∧t.2.2.take (Zdv s (n+b)).length=Zdv s (n+b)∧∀j,n+b≤j+1→t.2.2.getD j 0=s.getD j 0) (fun t=>s.length - t.2.1.toNat) (fun _=>.inr (Zdv s s.length)) ?_ _ ⟨1,rfl,Nat.le_refl _,by omega,?_,?_,rfl,?_,fun _ _=>rfl⟩
   ·rintro⟨k1,k2,a⟩ ⟨b,hb,b1,b2,b3,b4,b5,b6,b7⟩
    dsimp only at hb b3 b5 b6 b7 ⊢
    subst hb
    subst b3
    unfold Ze4
    dsimp only
    rcases Xah (n+b) s.length with h4|h4
    ·left
     have e1:((n:Int)+(b:Int)).toNat=n+b:=by omega
     have e2:((n:Int)+((b:Int) - 1)).toNat=n+b - 1:=by omega
     rw[Zd (by omega),Zb ⟨by omega,by omega⟩,Zg (by omega) (by omega),Zb ⟨by omega,by omega⟩,e1,e2,b7 (n+b) (by omega),b7 (n+b - 1) (by omega)]
     by_cases q2:s.getD (n+b) 0=s.getD (n+b - 1) 0
     ·have e3:Zdv s (n+(b+1))=Zdv s (n+b):=by
       show Zdv s (n+b+1)=_
       conv=>lhs;unfold Zdv
       rw[if_pos ⟨by omega,q2⟩]
      rw[show (s.getD (n+b) 0 != s.getD (n+b - 1) 0)=false by rw[q2];exact bne_self_eq_false _,cff,Zg (by omega) (by omega)]
      refine⟨_,rfl,⟨b+1,by simp,by omega,by omega,?_,?_,b5,?_,fun j hj=>b7 j (by omega)⟩,by (try dsimp only)<;>omega,rfl⟩
      ·rw[e3]
      ·rw[e3];omega
      ·rw[e3];exact b6
     ·have e3:Zdv s (n+(b+1))=Zdv s (n+b)++[s.getD (n+b) 0]:=by
       show Zdv s (n+b+1)=_
       conv=>lhs;unfold Zdv
       rw[if_neg (fun h=>q2 h.2)]
      have e4:(Zdv s (n+(b+1))).length=(Zdv s (n+b)).length+1:=by rw[e3,Xam,XaG]
      rw[show (s.getD (n+b) 0 != s.getD (n+b - 1) 0)=true by rw[bne_iff_ne];exact q2,ctt,Zb ⟨by omega,by omega⟩,Zb ⟨by omega,by omega⟩,Zg (by omega) (by omega),Zg (by omega) (by omega),Xaa]
      refine⟨_,rfl,⟨b+1,by simp,by omega,by omega,?_,?_,?_,?_,fun j hj=>?_⟩,by (try dsimp only)<;>omega,rfl⟩
      ·rw[e4];simp
      ·rw[e4];omega
      ·dsimp only;rw[Xap];exact b5
      ·dsimp only
       rw[e4,Xa4,List.take_set_of_le (Nat.le_refl _),b6,List.getElem?_set_self (by omega),e3]
       rfl
      ·dsimp only
       rw[Xab,List.getElem?_set_ne (by omega),←Xab]
       exact b7 j (by omega)
    ·right
     have e:n+b=s.length:=by omega
     unfold Ziv
     dsimp only
     rw[e]at b4 b6 ⊢
     have hl:(a.take (Zdv s s.length).length++List.replicate (a.length - (Zdv s s.length).length) (0:Int)).length=s.length:=by rw[Xam,Xay,XaC];omega
     rw[Zc (by omega),Zb ⟨by omega,by omega⟩,Xaa,hl,Zb ⟨by omega,by omega⟩,b6,List.take_left' rfl]
     rfl
   ·dsimp only
    rw[e0,Xay];omega
   ·rw[e0,Xay];omega
   ·dsimp only
    rw[e0,Xay,Nat.min_eq_left n2]
  ·left
   rw[Zs q,Zg (by omega) (by omega)]
   refine⟨_,rfl,⟨n+1,by simp,by omega,by omega,fun k k1 k2=>?_⟩,by omega,rfl⟩
   rcases Xah k n with h|h
   ·exact n3 k k1 h
   ·rw[show k=n by omega];exact q
 ·right
  have:n=s.length:=by omega
  rw[Zc (by omega),h1 s.length (by omega) (Nat.le_refl _) (by rw[←this];exact n3),Xav]
theorem ZF4 (s:List Int) (v:Int) (h:s.length≤4000000000):ZbZ s v=some (s.any (fun x=>v==x)):=by
 unfold ZbZ Zi6
 obtain⟨r,hr1,hr2⟩:=ZfV (f:=Zch s v) s 0 (fun x=>v==x) (fun i hi=>by
  unfold Zch
  rw[Zd (by omega),Zb ⟨by omega,by omega⟩,Xaa]
  cases v==s.getD i 0 with
  |true=>rw[ctt,ctt]
  |false=>rw[cff,cff,Zg (by omega) (by omega)]) (by
  unfold Zch
  rw[Zc (by omega)])
 rw[hr1,Ze,hr2]
def Zcy (l:List Int):Nat→List Int
 |0=>List.replicate 13 0
 |n+1=>(Zcy l n).set (vof (l.getD n 0)).toNat (l.getD n 0)
def ZoV (s:List Int):Nat→List Int
 |0=>[]
 |n+1=>ZoV s n++(if s.getD (n+1) 0=0 then[]else[s.getD (n+1) 0])
def ZcF (l:List Int):Bool:=l.all Zbt&&l.all (fun x=>!(l.any (fun y=>(0 - x)==y)))
def ZfL (l:List Int):List Int:=ZoV (Zcy l l.length) 12
def Zrf (l:List Int):Bool×Int×List (Int×Int):=bif decide (l.length≤40)&&ZcF l then(true,1,(ZfL l).map (fun x=>(1,x)))else(false,0,[])
theorem Zg3 {n:Int} (h:Zbt n=true):1≤vof n∧vof n≤12∧n≠0:=by
 have:=ZP.1 h
 unfold vof
 omega
theorem Zto (l:List Int):∀n,(Zcy l n).length=13
 |0=>rfl
 |n+1=>by unfold Zcy;rw[Xap];exact Zto l n
theorem Zi0 {l:List Int} (h:ZcF l=true):(∀x∈l,Zbt x=true)∧∀x∈l,∀y∈l,vof x=vof y→x=y:=by
 unfold ZcF at h
 simp only[Xaf,Xan,Xbe,XaV]at h
 refine⟨h.1,fun x hx y hy e=>?_⟩
 have h2:=h.2 x hx y hy
 rw[beq_iff_eq]at h2
 have:=Zg3 (h.1 x hx)
 unfold vof at e this
 omega
theorem Zxp {l:List Int} (hl:∀x∈l,Zbt x=true):∀n,n≤l.length→∀v:Nat,v≤12→((Zcy l n).getD v 0=0∧∀x∈l.take n,vof x≠v)∨((Zcy l n).getD v 0∈l.take n∧vof ((Zcy l n).getD v 0)=v)
 |0,_,v,hv=>by
  left
  refine⟨?_,fun x hx=>by rw[XaQ]at hx;cases hx⟩
  show (List.replicate 13 (0:Int)).getD v 0=0
  rw[Xab,XaW (by omega)]
  rfl
 |n+1,h,v,hv=>by
  have hn:=Zg3 (hl _ (ZB (l:=l) (i:=n) (d:=0) (by omega)))
  have hln:=Zto l n
  unfold Zcy
  rw[Zjm (by omega)]
  by_cases q:(vof (l.getD n 0)).toNat=v
  ·right
   subst q
   have e:((Zcy l n).set (vof (l.getD n 0)).toNat (l.getD n 0)).getD (vof (l.getD n 0)).toNat 0=l.getD n 0:=by
    rw[Xab (l:=(Zcy l n).set _ _),List.getElem?_set_self (by omega)]
    rfl
   rw[e]
   refine⟨List.mem_append_right _ (Xaj.2 rfl),?_⟩
   omega
  ·have e:((Zcy l n).set (vof (l.getD n 0)).toNat (l.getD n 0)).getD v 0=(Zcy l n).getD v 0:=by
    rw[Xab (l:=(Zcy l n).set _ _),List.getElem?_set_ne q,←Xab]
   rw[e]
   rcases Zxp hl n (by omega) v hv with⟨h1,h2⟩|⟨h1,h2⟩
   ·left
    refine⟨h1,fun x hx=>?_⟩
    rcases List.mem_append.1 hx with hx|hx
    ·exact h2 x hx
    ·rw[Xaj]at hx
     rw[hx]
     omega
   ·right
    exact⟨List.mem_append_left _ h1,h2⟩
theorem Zw9 {l:List Int} (hl:∀x∈l,Zbt x=true):∀n,n≤12→(ZoV (Zcy l l.length) n).Pairwise (fun x y=>vof x<vof y)∧(∀x∈ZoV (Zcy l l.length) n,x∈l∧vof x≤n)∧∀x∈l,vof x≤n→∃y∈ZoV (Zcy l l.length) n,vof y=vof x
 |0,_=>⟨List.Pairwise.nil,fun x hx=>absurd hx XaJ,fun x hx h=>(by have:=Zg3 (hl x hx);omega)⟩
 |n+1,h=>by
  obtain⟨i1,i2,i3⟩:=Zw9 hl n (by omega)
  have hs:=Zxp hl l.length (Nat.le_refl _) (n+1) h
  rw[Xav]at hs
  unfold ZoV
  rcases hs with⟨h1,h2⟩|⟨h1,h2⟩
  ·rw[if_pos h1,Xar]
   refine⟨i1,fun x hx=>⟨(i2 x hx).1,by have:=(i2 x hx).2;omega⟩,fun x hx hv=>?_⟩
   have:=h2 x hx
   exact i3 x hx (by omega)
  ·have hne:=(Zg3 (hl _ h1)).2.2
   rw[if_neg hne]
   refine⟨List.pairwise_append.2 ⟨i1,Xbr _ _,fun x hx y hy=>?_⟩,fun x hx=>?_,fun x hx hv=>?_⟩
   ·rw[Xaj]at hy
    rw[hy,h2]
    have:=(i2 x hx).2
    omega
   ·rcases List.mem_append.1 hx with hx|hx
    ·exact⟨(i2 x hx).1,by have:=(i2 x hx).2;omega⟩
    ·rw[Xaj]at hx
     rw[hx]
     exact⟨h1,by omega⟩
   ·by_cases q:vof x≤n
    ·obtain⟨y,y1,y2⟩:=i3 x hx q
     exact⟨y,List.mem_append_left _ y1,y2⟩
    ·exact⟨_,List.mem_append_right _ (Xaj.2 rfl),by omega⟩
theorem ZCx {l:List Int} (h:ZcF l=true):(ZfL l).Pairwise (fun x y=>vof x<vof y):=(Zw9 (Zi0 h).1 12 (Nat.le_refl _)).1
theorem ZCz {l:List Int} (h:ZcF l=true) (x:Int):x∈ZfL l↔x∈l:=by
 obtain⟨h1,h2⟩:=Zi0 h
 obtain⟨i1,i2,i3⟩:=Zw9 h1 12 (Nat.le_refl _)
 constructor
 ·exact fun hx=>(i2 x hx).1
 ·intro hx
  obtain⟨y,y1,y2⟩:=i3 x hx (by have:=Zg3 (h1 x hx);omega)
  rw[h2 x hx y (i2 y y1).1 y2.symm]
  exact y1
theorem ZCy (l:List Int):(ZfL l).length≤12:=by
 unfold ZfL
 have:∀s n,(ZoV s n).length≤n:=by
  intro s n
  induction n with
  |zero=>exact Nat.le_refl _
  |succ n ih=>
   unfold ZoV
   rw[Xam]
   split
   ·rw[Xak];omega
   ·rw[XaG];omega
 exact this _ _
theorem ZrR (l:List Int) (hn:l.length≤4000000000):ZjH l=some (Zrf l):=by
 unfold ZjH Zrf
 by_cases h0:l.length≤40
 case neg=>rw[Zd (by omega),decide_eq_false h0,Xad,cff]
 rw[Zc (by omega),Xae h0,Xag]
 refine ZH (f:=ZiU l) (fun s:Int=>∃i:Nat,s=i∧i≤l.length∧∀j,j<i→Zbt (l.getD j 0)=true∧l.any (fun y=>(0 - l.getD j 0)==y)=false) (fun s=>l.length - s.toNat) (fun _=>bif ZcF l then(true,1,(ZfL l).map (fun x=>(1,x)))else(false,0,[])) ?_ _ ⟨0,rfl,Nat.zero_le _,fun j hj=>by omega⟩
 rintro s ⟨i,rfl,hi,hp⟩
 unfold ZiU
 rcases Xah i l.length with h1|h1
 ·have hmem:=ZB (l:=l) (i:=i) (d:=0) h1
  rw[Zd (by omega),Zb ⟨by omega,by omega⟩,Xaa,ZlZ,Ze]
  cases q1:Zbt (l.getD i 0)with
  |false=>
   right
   have:ZcF l=false:=by
    cases h:ZcF l with
    |false=>rfl
    |true=>have:=(Zi0 h).1 _ hmem;rw[q1]at this;cases this
   rw[Xa7,ctt,this,cff]
  |true=>
   have hl:=ZP.1 q1
   have hc:ZbZ l (0 - l.getD i 0)=some (l.any (fun y=>(0 - l.getD i 0)==y)):=ZF4 l _ hn
   rw[Xa2,cff,Zg (by omega) (by omega),hc,Ze]
   cases q2:l.any (fun y=>(0 - l.getD i 0)==y)with
   |true=>
    right
    have:ZcF l=false:=by
     cases h:ZcF l with
     |false=>rfl
     |true=>
      unfold ZcF at h
      simp only[Xaf,Xan]at h
      have:=h.2 _ hmem
      rw[q2]at this
      cases this
    rw[ctt,this,cff]
   |false=>
    left
    rw[cff,Zg (by omega) (by omega)]
    refine⟨_,rfl,⟨i+1,by simp,by omega,fun j hj=>?_⟩,by omega,rfl⟩
    rcases Xah j i with h2|h2
    ·exact hp j h2
    ·rw[show j=i by omega];exact⟨q1,q2⟩
 ·right
  have hei:i=l.length:=by omega
  have hok:ZcF l=true:=by
   unfold ZcF
   simp only[Xaf,Xan]
   constructor
   ·intro x hx
    obtain⟨j,hj,rfl⟩:=Xaq.1 hx
    have:=(hp j (by omega)).1
    rwa [Xab,Xac hj]at this
   ·intro x hx
    obtain⟨j,hj,rfl⟩:=Xaq.1 hx
    have:=(hp j (by omega)).2
    rw[Xab,Xac hj]at this
    dsimp only[Option.getD_some]at this
    rw[this]
    rfl
  obtain⟨o1,o2⟩:=Zi0 hok
  have hf:∀x∈l,∀y∈l,Zhd x y=some (vof x - vof y):=fun x hx y hy=>by
   have hx':=ZP.1 (o1 x hx)
   have hy':=ZP.1 (o1 y hy)
   have vx:=Zg3 (o1 x hx)
   have vy:=Zg3 (o1 y hy)
   unfold Zhd
   rw[Zhg (by omega),Ze,Zhg (by omega),Ze,Zg (by omega) (by omega)]
  have hS:∀S,S=l.mergeSort (fun x y=>decide (vof x≤vof y))→Zdv S S.length=ZfL l∧S.length=l.length:=by
   rintro S rfl
   have hperm:=List.mergeSort_perm l (fun x y=>decide (vof x≤vof y))
   refine⟨ZHM (ZEi (ZFo l vof) (fun x hx y hy=>o2 x (hperm.mem_iff.1 hx) y (hperm.mem_iff.1 hy)) _ (Nat.le_refl _)) (ZCx hok) (fun x=>?_),hperm.length_eq⟩
   rw[ZyJ _ (Nat.le_refl _),Xav,hperm.mem_iff,ZCz hok]
  obtain⟨e1,e2⟩:=hS _ rfl
  have hclone:Zcb l=some l:=by
   unfold Zcb
   refine Zxc (fun e=>by rw[e]) ?_
   rw[Zb (by simp only[Xak,Zp];omega),Xao]
  rw[Zc (by omega),hclone,Ze,ZJc (key:=vof) (by omega) hf o2,Ze,Zyo _ (by omega),Ze,e1,hok,ctt]
  have hlen:=ZCy l
  refine ZH (f:=ZiV (ZfL l)) (fun s:Int×List (Int×Int)=>∃i:Nat,s.1=i∧i≤(ZfL l).length∧s.2=((ZfL l).take i).map (fun x=>(1,x))) (fun s=>(ZfL l).length - s.1.toNat) (fun _=>.inr (true,1,(ZfL l).map (fun x=>(1,x)))) ?_ _ ⟨0,rfl,Nat.zero_le _,rfl⟩
  rintro⟨s,o⟩ ⟨i,rfl,hi,rfl⟩
  unfold ZiV
  dsimp only
  rcases Xah i (ZfL l).length with h4|h4
  ·left
   rw[Zd (by omega),Zb ⟨by omega,by omega⟩,Zb (by simp[Zp];omega),Zg (by omega) (by omega),Xaa]
   exact⟨_,rfl,⟨i+1,by simp,by omega,by rw[Zjm h4,Xa9];rfl⟩,by (try dsimp only)<;>omega,rfl⟩
  ·right
   have:i=(ZfL l).length:=by omega
   rw[Zc (by omega),this,Xav]
theorem Zsf (l:List Int) (_hn:l.length≤4000000000):ZjK l=some (Zrf l):=by
 unfold ZjK Zrf
 rw[Zb ⟨by omega,by simp only[Zp];omega,rfl⟩]
 by_cases h0:l.length≤40
 case neg=>rw[Zd (by omega),decide_eq_false h0,Xad,cff]
 rw[Zc (by omega),Xae h0,Xag]
 refine ZH (f:=Zi8 l) (fun s:Int×List Int=>∃i:Nat,s.1=i∧i≤l.length∧s.2=Zcy l i∧(∀x∈l.take i,Zbt x=true)∧∀x∈l.take i,∀y∈l.take i,y≠0 - x) (fun s=>l.length - s.1.toNat) (fun _=>bif ZcF l then(true,1,(ZfL l).map (fun x=>(1,x)))else(false,0,[])) ?_ _ ⟨0,rfl,Nat.zero_le _,rfl,fun x hx=>absurd hx (by rw[XaQ];exact XaJ),fun x hx=>absurd hx (by rw[XaQ];exact XaJ)⟩
 rintro⟨s,a⟩ ⟨i,hs,hi,ha,hp,hd⟩
 dsimp only at hs ha ⊢
 subst hs
 subst ha
 unfold Zi8
 dsimp only
 rcases Xah i l.length with h1|h1
 ·have hmem:=ZB (l:=l) (i:=i) (d:=0) h1
  rw[Zd (by omega),Zb ⟨by omega,by omega⟩,Xaa,Zqw,Ze]
  cases q1:Zbt (l.getD i 0)with
  |false=>
   right
   have:ZcF l=false:=by
    cases h:ZcF l with
    |false=>rfl
    |true=>have:=(Zi0 h).1 _ hmem;rw[q1]at this;cases this
   rw[Xa7,ctt,this,cff]
  |true=>
   have hl:=ZP.1 q1
   have hv:=Zg3 q1
   have hsl:=Zto l i
   rw[Xa2,cff,Zb ⟨by omega,by omega⟩,Zqv (by omega),Ze,Zb ⟨by omega,by omega⟩,Zb ⟨by omega,by omega⟩,Zg (by omega) (by omega)]
   have htl:∀x∈l.take i,x∈l:=fun x hx=>List.mem_of_mem_take hx
   have hg:((Zcy l i).getD (vof (l.getD i 0)).toNat 0=0∧∀x∈l.take i,vof x≠(vof (l.getD i 0)).toNat)∨((Zcy l i).getD (vof (l.getD i 0)).toNat 0∈l.take i∧vof ((Zcy l i).getD (vof (l.getD i 0)).toNat 0)=(vof (l.getD i 0)).toNat):=by
    have e:∀n,n≤i→Zcy (l.take i) n=Zcy l n:=by
     intro n
     induction n with
     |zero=>intro _;rfl
     |succ n ih=>
      intro hn
      unfold Zcy
      rw[ih (by omega),show (l.take i).getD n 0=l.getD n 0 by rw[Xab,List.getElem?_take_of_lt (by omega),←Xab]]
    have:=Zxp (l:=l.take i) hp i (by rw[Xay];omega) (vof (l.getD i 0)).toNat (by omega)
    rw[e i (Nat.le_refl _),List.take_take,Nat.min_self]at this
    exact this
   by_cases q2:(Zcy l i).getD (vof (l.getD i 0)).toNat 0=0 - l.getD i 0
   ·right
    have:ZcF l=false:=by
     cases h:ZcF l with
     |false=>rfl
     |true=>
      exfalso
      rcases hg with⟨g1,g2⟩|⟨g1,g2⟩
      ·omega
      ·have:=(Zi0 h).2 _ (htl _ g1) _ hmem (by omega)
       omega
    rw[Zu q2,this,cff]
   ·left
    rw[Zs q2,Zb ⟨by omega,by omega⟩,Zb ⟨by omega,by omega⟩,Zg (by omega) (by omega)]
    have hno:∀y∈l.take i,y≠0 - l.getD i 0:=fun y hy e=>by
     have hy2:=Zg3 (hp y hy)
     have hvy:vof y=vof (l.getD i 0):=by unfold vof;omega
     rcases hg with⟨g1,g2⟩|⟨g1,g2⟩
     ·exact g2 y hy (by omega)
     ·have hz:=Zg3 (hp _ g1)
      have hd1:=hd _ g1 y hy
      generalize (Zcy l i).getD (vof (l.getD i 0)).toNat 0=z at *
      unfold vof at g2 hvy hz hy2 hv
      omega
    refine⟨_,rfl,⟨i+1,by simp,by omega,rfl,?_,?_⟩,by (try dsimp only)<;>omega,rfl⟩
    ·intro x hx
     rw[Zjm h1]at hx
     rcases List.mem_append.1 hx with hx|hx
     ·exact hp x hx
     ·rw[Xaj]at hx;rw[hx];exact q1
    ·intro x hx y hy
     rw[Zjm h1]at hx hy
     rcases List.mem_append.1 hx with hx|hx<;>rcases List.mem_append.1 hy with hy|hy
     ·exact hd x hx y hy
     ·rw[Xaj]at hy
      rw[hy]
      have:=hno x hx
      omega
     ·rw[Xaj]at hx
      rw[hx]
      exact hno y hy
     ·rw[Xaj]at hx hy
      rw[hx,hy]
      omega
 ·right
  have hei:i=l.length:=by omega
  rw[hei,Xav]at hp hd
  have hok:ZcF l=true:=by
   unfold ZcF
   simp only[Xaf,Xan,Xbe,XaV,beq_iff_eq]
   exact⟨hp,fun x hx y hy e=>hd x hx y hy e.symm⟩
  rw[Zc (by omega),hok,ctt,hei]
  unfold Zm6
  have hsl:=Zto l l.length
  have key:loop (Zgj (Zcy l l.length)) ((1:Int),([]:List (Int×Int)))=some (true,1,(ZfL l).map (fun x=>(1,x))):=by
   have hdl:∀n,(ZoV (Zcy l l.length) n).length≤n:=by
    intro n
    induction n with
    |zero=>exact Nat.le_refl _
    |succ n ih=>
     unfold ZoV
     rw[Xam]
     split
     ·rw[Xak];omega
     ·rw[XaG];omega
   refine ZH (f:=Zgj (Zcy l l.length)) (fun s:Int×List (Int×Int)=>∃n:Nat,s.1=(n:Int)+1∧n≤12∧s.2=(ZoV (Zcy l l.length) n).map (fun x=>(1,x))) (fun s=>14 - s.1.toNat) (fun _=>(true,1,(ZfL l).map (fun x=>(1,x)))) ?_ _ ⟨0,rfl,by omega,rfl⟩
   rintro⟨s,o⟩ ⟨n,hs,hn,ho⟩
   dsimp only at hs ho ⊢
   subst hs
   subst ho
   have:=hdl n
   unfold Zgj
   dsimp only
   rcases Xah n 12 with h4|h4
   ·left
    rw[Zd (by omega),Zb ⟨by omega,by omega⟩,show ((n:Int)+1).toNat=n+1 by omega]
    by_cases q:(Zcy l l.length).getD (n+1) 0=0
    ·rw[show ((Zcy l l.length).getD (n+1) 0 != 0)=false by rw[q];rfl,cff,Zg (by omega) (by omega)]
     refine⟨_,rfl,⟨n+1,by simp,by omega,?_⟩,by (try dsimp only)<;>omega,rfl⟩
     conv=>rhs;unfold ZoV
     rw[if_pos q,Xar]
    ·rw[show ((Zcy l l.length).getD (n+1) 0 != 0)=true by rw[bne_iff_ne];exact q,ctt,Zb ⟨by omega,by omega⟩,Zb (by simp[Zp];omega),Zg (by omega) (by omega)]
     refine⟨_,rfl,⟨n+1,by simp,by omega,?_⟩,by (try dsimp only)<;>omega,rfl⟩
     conv=>rhs;unfold ZoV
     rw[if_neg q,Xa9]
     rfl
   ·right
    have:n=12:=by omega
    subst this
    rw[Zc (by omega)]
    rfl
  rw[key]
  rfl
end Go.AE.Y
namespace Go.AE.Y
open Go Go.AE
def Zxa (c:List Int):List Int:=c.map (fun x=>0 - x)
end Go.AE.Y
namespace Go.AE.Y
open Go Go.AE
def zS:Z3:=(0,(0,(0,([],0))))
def HS (s:Z3) (k k':Int):Prop:=s.1=k∧s.2.1=k+1∧s.2.2.1=k+1+1∧∃k1,HdL HT s.2.2.2.1 (k+1+1+1) k1∧s.2.2.2.2=k1∧k'=k1+1∧s.2.2.2.1.length≤4000000000
theorem HS.mono (s:Z3) (k k':Int) (h:HS s k k'):k≤k':=by
 obtain⟨_,_,_,k1,h1,_,h2,_⟩:=h
 have:=HdL.mono HT.mono h1
 omega
def Zuv (a:List Z3):Prop:=a.length≤1048576∧∀s∈a,Zsd s
theorem ZIh (a:List Z3) (left:Int) (h0:0≤left) (h1:left≤1048576) (h:a.length≤maxLen) (hx:∀x∈a,x.2.2.2.1.length≤maxLen) :
  ∃r,Zn1 a left=some r∧r≤left∧(0≤r→Zuv a):=by
 simp only[maxLen]at h
 unfold Zn1
 rw[Zg (by omega) (by omega)]
 by_cases h2:left - (a.length:Int)<0
 ·exact⟨-1,by rw[Zd h2],by omega,by omega⟩
 rw[Zc h2]
 refine Zis (f:=Zkq a) (fun s:Int×Int=>∃i:Nat,s.2=i∧i≤a.length∧0≤s.1∧s.1≤left∧∀j,j<i→Zsd (a.getD j zS)) (fun s=>a.length - s.2.toNat) (fun r=>r≤left∧(0≤r→Zuv a)) ?_ _ ⟨0,rfl,Nat.zero_le _,by dsimp only;omega,by dsimp only;omega,fun j hj=>by omega⟩
 rintro⟨l1,s⟩ ⟨i,rfl,hi,g0,g1,hp⟩
 dsimp only at g0 g1 ⊢
 unfold Zkq
 dsimp only
 rcases Xah i a.length with h3|h3
 ·obtain⟨r,e,q1,q2⟩:=ZJh (a.getD i (0,(0,(0,([],0))))) l1 g0 (by omega) (hx _ (ZB h3))
  rw[Zd (by omega),Zb ⟨by omega,by omega⟩,Xaa,e,Ze]
  by_cases hr:r<0
  ·right
   rw[Zd hr]
   exact⟨-1,rfl,by omega,fun h=>by omega⟩
  ·left
   rw[Zc hr,Zg (by omega) (by omega)]
   refine⟨_,rfl,⟨i+1,by simp,by omega,by dsimp only;omega,by dsimp only;omega,fun j hj=>?_⟩,by dsimp only;omega⟩
   rcases Xah j i with h4|h4
   ·exact hp j h4
   ·rw[show j=i by omega];exact q2 (by omega)
 ·right
  have:i=a.length:=by omega
  subst this
  rw[Zc (by omega)]
  refine⟨_,rfl,by omega,fun _=>⟨by omega,fun x hx'=>?_⟩⟩
  obtain⟨j,hj,rfl⟩:=Xaq.1 hx'
  have:=hp j hj
  rwa [Xab,Xac hj]at this
theorem ZIS {α R:Type} {f:Int×List α→Option ((Int×List α)⊕R)} (l:List α) (d:α) (fin:List α→R)
  (h:∀(i:Nat) (a:List α),i<l.length→a.length=l.length→f (i,a)=some (.inl ((i:Int)+1,a.set i (l.getD i d)))) (hn:∀a,a.length=l.length→f (l.length,a)=some (.inr (fin a))) (a0:List α) (h0:a0.length=l.length) :
  loop f (0,a0)=some (fin l):=by
 refine ZH (fun s:Int×List α=>∃i:Nat,s.1=i∧i≤l.length∧s.2.length=l.length∧s.2.take i=l.take i) (fun s=>l.length - s.1.toNat) (fun _=>fin l) ?_ _ ⟨0,rfl,Nat.zero_le _,h0,rfl⟩
 rintro⟨s,a⟩ ⟨i,rfl,hi,hl,ht⟩
 dsimp only at hl ht ⊢
 rcases Xah i l.length with h1|h1
 ·left
  refine⟨_,h i a h1 hl,⟨i+1,by simp,by omega,by simp[hl],?_⟩,by (try dsimp only)<;>omega,rfl⟩
  dsimp only
  rw[ZDJ (by omega),ht,Xa4,Xac h1,Xab,Xac h1]
  rfl
 ·right
  have:i=l.length:=by omega
  subst this
  rw[hn a hl]
  have e:a=l:=by
   rw[←hl,Xav,hl,Xav]at ht
   exact ht
  rw[e]
theorem ZAn (a:List Z3) (h:Zuv a):Zir a=some a:=by
 obtain⟨ha,hx⟩:=h
 unfold Zir
 rw[Zb ⟨by omega,by simp only[Zp];omega,rfl⟩]
 refine ZIS (f:=Zhk a) a zS (fun o=>o) (fun i b hi hb=>?_) (fun b hb=>?_) _ (by simp)
 ·unfold Zhk
  dsimp only
  rw[Zd (by omega),Zb ⟨by omega,by omega⟩,Xaa,ZJl _ (hx _ (ZB hi)),Ze,Zb ⟨by omega,by omega⟩,Zg (by omega) (by omega)]
  rfl
 ·unfold Zhk
  dsimp only
  rw[Zc (by omega)]
theorem ZEs (a:List Z3) (h:Zuv a):ZnU a a=some true:=by
 obtain⟨ha,hx⟩:=h
 unfold ZnU
 rw[bne_self_eq_false,cff]
 refine ZH (f:=Zko a a) (fun s:Int=>∃i:Nat,s=i∧i≤a.length) (fun s=>a.length - s.toNat) (fun _=>true) ?_ _ ⟨0,rfl,Nat.zero_le _⟩
 rintro s ⟨i,rfl,hi⟩
 unfold Zko
 rcases Xah i a.length with h5|h5
 ·left
  rw[Zd (by omega),Zb ⟨by omega,by omega⟩,Zb ⟨by omega,by omega⟩,Xaa,ZF9 _ (hx _ (ZB h5)),Ze,cnt,Zg (by omega) (by omega)]
  exact⟨_,rfl,⟨i+1,by simp,by omega⟩,by omega,rfl⟩
 ·right
  rw[Zc (by omega)]
end Go.AE.Y
namespace Go.AE.Y
open Go Go.AE
def Zi2 (l:List Int):List (Int×Int):=l.map (fun x=>(1,x))
theorem ZIR {v:List Bool} {x:Int} (h:x≠0):Zcz v (0 - x) = !(Zcz v x):=by
 have ev:vof (0 - x)=vof x:=by unfold vof;omega
 unfold Zcz
 rw[ev]
 by_cases h1:0<x
 ·rw[Xae h1,decide_eq_false (show ¬0<0 - x by omega)]
  cases v.getD (vof x - 1).toNat false<;>rfl
 ·rw[decide_eq_false h1,Xae (show 0<0 - x by omega)]
  cases v.getD (vof x - 1).toNat false<;>rfl
theorem ZE6 {l:List Int} {i:Nat} (h:i<l.length):(Zi2 l).getD i (0,0)=(1,l.getD i 0):=by
 unfold Zi2
 rw[Xab,Xbp,Xac h,Xab,Xac h]
 rfl
theorem ZIy {l:List Int} (h1:∀x∈l,Zbt x=true) (h2:l.Pairwise (fun x y=>vof x<vof y)):Zw (Zi2 l,1)=true:=by
 unfold Zw
 have hl:(Zi2 l).length=l.length:=Xas ..
 simp only[Xaf,Xan]
 refine⟨fun i hi=>?_,rfl,rfl⟩
 have hi':i<l.length:=by rw[←hl];exact XaF.1 hi
 unfold Zek
 rw[ZE6 hi']
 simp only[Xaf,Bool.or_eq_true,Xai]
 refine⟨h1 _ (ZB hi'),⟨by omega,by omega⟩,?_⟩
 rcases Xah 0 i with q|q
 ·right
  rw[ZE6 (show i - 1<l.length by omega)]
  have:=Xa3.1 h2 (i - 1) i (by omega) hi' (by omega)
  rwa [Xab,Xab,Xac hi',Xac (show i - 1<l.length by omega)]
 ·left
  exact beq_iff_eq.2 (by omega)
end Go.AE.Y
