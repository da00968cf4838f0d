/-
  Plain laws of the models, in one text. No conditions.
-/
import Derived.Test.YtaeeiddjpigemaaGreatPx2
import Derived.Test.YtaeeiddjpigemaaGreatPx1
namespace Go.AE.Y
open Go Go.AE
set_option maxHeartbeats 400000
structure ZmP (d:DbT):Prop where
 good:Zeu d.1
 gone:d.2.length=d.1.length
 few:d.1.length≤900000
theorem ZGe (l:Int):ZhQ l=some (axB l):=by
 unfold ZhQ axB
 rw[ZlZ,Ze]
 cases Zbt l with
 |true=>rw[cnt,ctt];rfl
 |false=>rw[cnf,cff];rfl
theorem ZGC (l:Int):ZhW l=some (axB l):=by
 unfold ZhW axB
 rw[Zqw,Ze]
 cases Zbt l with
 |true=>rw[cnt,ctt];rfl
 |false=>rw[cnf,cff];rfl
theorem ZET {d:DbT} (h:ZmP d):(ZlB d).length≤900000:=by
 have:=ZpV d d.1.length
 have:=h.few
 unfold ZlB
 omega
theorem ZBQ {d:DbT} {s:Z3} (h:ZmP d) (hl:s.2.2.2.1.length≤1048576):∃r,ZjL d s=some r∧r.1=(Zco d s).1∧(r.1=true→r=Zco d s):=by
 have hf:=h.few
 unfold ZjL Zco
 by_cases k6:s.1=6
 ·rw[Zu k6,if_pos k6,ZGC,Ze]
  exact⟨_,rfl,rfl,fun _=>rfl⟩
 rw[Zs k6,if_neg k6]
 by_cases k7:s.1=7
 ·rw[Zu k7,if_pos k7,ZIN s.2.2.2 (by omega),Ze,ZO s.2.2.2 (by omega),Ze]
  cases hc:Zw s.2.2.2 with
  |false=>
   rw[cff,Xad,cff]
   exact⟨_,rfl,rfl,fun q=>by cases q⟩
  |true=>
   rw[ctt,ZDG h.gone (by omega),Ze,ZGI (Zw4 h.good) (by have:=ZET h;omega) hc,Ze,Xag]
   cases Zsa (ZlB d) s.2.2.2 with
   |true=>rw[ctt];exact⟨_,rfl,rfl,fun _=>rfl⟩
   |false=>rw[cff];exact⟨_,rfl,rfl,fun q=>by cases q⟩
 rw[Zs k7,if_neg k7,ZtX h.gone,Ze]
 cases qa:ZdH d s.2.1 with
 |false=>rw[cnf,cff];exact⟨_,rfl,rfl,fun q=>by cases q⟩
 |true=>
  obtain⟨a0,a1,a2⟩:=ZmU qa
  have ca:Zw (d.1.getD s.2.1.toNat ([],0))=true:=(h.good _ a2).1
  rw[cnt,ctt,Zb ⟨a0,by omega⟩]
  by_cases k1:s.1=1
  ·rw[Zu k1,if_pos k1,ZtX h.gone,Ze]
   cases qb:ZdH d s.2.2.1 with
   |false=>rw[cnf,cff];exact⟨_,rfl,rfl,fun q=>by cases q⟩
   |true=>
    obtain⟨b0,b1,b2⟩:=ZmU qb
    have cb:Zw (d.1.getD s.2.2.1.toNat ([],0))=true:=(h.good _ b2).1
    rw[cnt,ctt,Zb ⟨b0,by omega⟩,ZGA ca cb,Ze]
    exact⟨_,rfl,rfl,fun _=>rfl⟩
  rw[Zs k1,if_neg k1]
  by_cases k2:s.1=2
  ·rw[Zu k2,if_pos k2,ZGD ca,Ze]
   exact⟨_,rfl,rfl,fun _=>rfl⟩
  rw[Zs k2,if_neg k2]
  by_cases k3:s.1=3
  ·rw[Zu k3,if_pos k3,ZGB ca,Ze]
   exact⟨_,rfl,rfl,fun _=>rfl⟩
  rw[Zs k3,if_neg k3]
  by_cases k4:s.1=4
  ·rw[Zu k4,if_pos k4,ZGE ca,Ze]
   exact⟨_,rfl,rfl,fun _=>rfl⟩
  rw[Zs k4,if_neg k4,ZFq ca,Ze]
  exact⟨_,rfl,rfl,fun _=>rfl⟩
theorem ZEK {d:DbT} (h:ZmP d) (f:Bool) (t:List (Int×Int)) (b:Int):ZL d.1 d.2 ((t,b),f)=some (f,d.1++[(t,b)],d.2++[false]):=by
 have:=h.few
 have:=h.gone
 unfold ZL ZfG
 dsimp only
 rw[Zb (by simp only[Zp,Xal,Xak];omega),Zb (by simp only[Zp,Xal,Xak];omega)]
theorem ZEM {d:DbT} {s:Z3} (h:ZmP d) (hl:s.2.2.2.1.length≤1048576):∃r,Zdr s d.1 d.2=some r∧(r.1=true→ZfR d s=some (r.2.1,r.2.2))∧(r.1=false→ZfR d s=none):=by
 have hf:=h.few
 have hg:=h.gone
 obtain⟨n,b,e,hk⟩:=ZCE s.1
 unfold Zdr ZfF ZfR
 rw[e,Ze,ZDg hl,Ze]
 dsimp only
 cases hp:Ziu s with
 |false=>rw[cnf,cff];exact⟨_,rfl,fun q=>(by cases q),fun _=>rfl⟩
 |true=>
  rw[cnt,ctt]
  have hkind:1≤s.1∧s.1≤8:=by
   unfold Ziu at hp
   by_cases q1:s.1=1∨s.1=2∨s.1=3∨s.1=5
   ·omega
   ·rw[if_neg q1]at hp
    by_cases q2:s.1=4∨s.1=6∨s.1=8
    ·omega
    ·rw[if_neg q2]at hp
     by_cases q3:s.1=7
     ·omega
     ·rw[if_neg q3]at hp;cases hp
  have push:∀(r:ZlR) (f:Bool) (t:List (Int×Int)) (c:Int),r.1=f→(f=true→r=(f,c,t))→s.1≠8→Zco d s=r→∃q,ZL d.1 d.2 ((t,c),f)=some q∧(q.1=true→(if s.1=8 then(bif ZdH d s.2.1 then some (d.1,d.2.set s.2.1.toNat true)else none)else(bif (Zco d s).1 then some (d.1++[ofR (Zco d s)],d.2++[false])else none))=some (q.2.1,q.2.2)) ∧
    (q.1=false→(if s.1=8 then(bif ZdH d s.2.1 then some (d.1,d.2.set s.2.1.toNat true)else none)else(bif (Zco d s).1 then some (d.1++[ofR (Zco d s)],d.2++[false])else none))=none):=fun r f t c h1 h2 h8 hd=>by
   rw[ZEK h,if_neg h8,hd,h1]
   cases f with
   |true=>
    rw[ctt,h2 rfl]
    exact⟨_,rfl,fun _=>rfl,fun q=>by cases q⟩
   |false=>
    rw[cff]
    exact⟨_,rfl,fun q=>(by cases q),fun _=>rfl⟩
  have flip:∀r:ZlR,(r.1=true→r=(r.1,(Zkj r).2.2,(Zkj r).2.1)):=fun r _=>rfl
  have dead:ZdH d s.2.1=false→s.1≠6→s.1≠7→(if s.1=8 then(bif ZdH d s.2.1 then some (d.1,d.2.set s.2.1.toNat true)else none)else(bif (Zco d s).1 then some (d.1++[ofR (Zco d s)],d.2++[false])else none))=none:=fun q h6 h7=>by
   by_cases k8:s.1=8
   ·rw[if_pos k8,q,cff]
   ·rw[if_neg k8]
    unfold Zco
    rw[if_neg h6,if_neg h7,q,cff]
    rfl
  have hA:s.1≠6→s.1≠7→ZdH d s.2.1=true→Zco d s=(if s.1=1 then(bif ZdH d s.2.2.1 then ZrH (ZiR d s.2.1) (ZiR d s.2.2.1)else noC)else if s.1=2 then Zr2 (ZiR d s.2.1) s.2.2.1 else if s.1=3 then ZrN (ZiR d s.2.1) s.2.2.1 else if s.1=4 then Zxo (ZiR d s.2.1)else Ztw (ZiR d s.2.1) s.2.2.1):=fun h6 h7 q=>by
   unfold Zco
   rw[if_neg h6,if_neg h7,q,ctt]
  by_cases k67:s.1=6∨s.1=7
  ·have hn:n=0:=by omega
   rw[hn,Zc (by omega),Zc (by omega)]
   unfold Zbs
   rw[Zs (by omega),Zs (by omega),Zs (by omega),Zs (by omega),Zs (by omega),Zs (by omega)]
   rcases k67 with k|k
   ·rw[Zu k,ZGe,Ze]
    exact push (axB s.2.1) _ _ _ rfl (fun _=>rfl) (by omega) (by unfold Zco;rw[if_pos k])
   ·rw[Zs (by omega),Zu k,Z4 s.2.2.2 (by omega),Ze]
    have hd:Zco d s=(bif Zw s.2.2.2&&Zsa (ZlB d) s.2.2.2 then Zr6 s.2.2.2 else noC):=by
     unfold Zco
     rw[if_neg (by omega),if_pos k]
    cases hc:Zw s.2.2.2 with
    |false=>
     rw[cff]
     rw[hc,Xad,cff]at hd
     exact push noC _ _ _ rfl (fun q=>by cases q) (by omega) hd
    |true=>
     rw[ctt,ZEJ h.gone (by omega),Ze,ZGk (Zw4 h.good) (by have:=ZET h;omega) hc,Ze]
     rw[hc,Xag]at hd
     cases hr:Zsa (ZlB d) s.2.2.2 with
     |true=>
      rw[hr,ctt]at hd
      exact push (Zr6 s.2.2.2) _ _ _ rfl (fun _=>rfl) (by omega) hd
     |false=>
      rw[hr,cff]at hd
      exact push noC _ _ _ rfl (fun q=>by cases q) (by omega) hd
  ·have hn:1≤n:=by omega
   rw[Zd (by omega),Zyv h.gone (by omega),Ze]
   cases qa:ZdH d s.2.1 with
   |false=>
    rw[cnf]
    have dd:=dead qa (by omega) (by omega)
    rw[qa]at dd
    exact⟨_,rfl,fun q=>(by cases q),fun _=>dd⟩
   |true=>
    obtain⟨a0,a1,a2⟩:=ZmU qa
    have ca:Zw (d.1.getD s.2.1.toNat ([],0))=true:=(h.good _ a2).1
    have hA:=hA (by omega) (by omega) qa
    rw[qa]at push
    rw[cnt]
    by_cases k1:s.1=1
    ·have hn:n=2:=by omega
     rw[if_pos k1]at hA
     rw[hn,Zd (by omega),Zyv h.gone (by omega),Ze]
     cases qb:ZdH d s.2.2.1 with
     |false=>
      rw[qb,cff]at hA
      rw[cnf]
      exact⟨_,rfl,fun q=>(by cases q),fun _=>by rw[if_neg (show ¬s.1=8 by omega),hA];rfl⟩
     |true=>
      obtain⟨b0,b1,b2⟩:=ZmU qb
      have cb:Zw (d.1.getD s.2.2.1.toNat ([],0))=true:=(h.good _ b2).1
      rw[qb,ctt]at hA
      unfold Zbs
      rw[cnt,Zs (by omega),Zu k1,Zb ⟨a0,by omega⟩,Zb ⟨b0,by omega⟩,ZGc ca cb,Ze]
      exact push (ZrH _ _) _ _ _ rfl (fun _=>rfl) (by omega) hA
    ·have hn:n=1:=by omega
     rw[if_neg k1]at hA
     rw[hn,Zc (by omega)]
     unfold Zbs
     by_cases k8:s.1=8
     ·rw[Zu k8,Zb ⟨a0,by omega⟩]
      exact⟨_,rfl,fun _=>(by rw[if_pos k8,ctt]),fun q=>by cases q⟩
     rw[Zs k8,Zs k1]
     by_cases k2:s.1=2
     ·rw[if_pos k2]at hA
      rw[Zu k2,Zb ⟨a0,by omega⟩,ZGf ca,Ze]
      exact push (Zr2 _ _) _ _ _ rfl (flip _) (by omega) hA
     rw[if_neg k2]at hA
     rw[Zs k2]
     by_cases k3:s.1=3
     ·rw[if_pos k3]at hA
      rw[Zu k3,Zb ⟨a0,by omega⟩,ZGd ca,Ze]
      exact push (ZrN _ _) _ _ _ rfl (flip _) (by omega) hA
     rw[if_neg k3]at hA
     rw[Zs k3]
     by_cases k4:s.1=4
     ·rw[if_pos k4]at hA
      rw[Zu k4,Zb ⟨a0,by omega⟩,ZGg ca,Ze]
      exact push (Zxo _) _ _ _ rfl (fun _=>rfl) (by omega) hA
     rw[if_neg k4]at hA
     rw[Zs k4,Zu (by omega),Zb ⟨a0,by omega⟩,ZEF ca,Ze]
     exact push (Ztw _ _) _ _ _ rfl (fun _=>rfl) (by omega) hA
theorem ZBZ {d d':DbT} {s:Z3} (h:ZmP d) (hf:d.1.length<900000) (hs:ZfR d s=some d'):ZmP d'∧d'.1.length≤d.1.length+1:=by
 unfold ZfR at hs
 cases hp:Ziu s with
 |false=>rw[hp,cff]at hs;cases hs
 |true=>
  rw[hp,ctt]at hs
  by_cases k8:s.1=8
  ·rw[if_pos k8]at hs
   cases hv:ZdH d s.2.1 with
   |false=>rw[hv,cff]at hs;cases hs
   |true=>
    rw[hv,ctt]at hs
    injection hs with hs
    subst hs
    exact⟨⟨h.good,by dsimp only;rw[Xap];exact h.gone,h.few⟩,Nat.le_succ _⟩
  ·rw[if_neg k8]at hs
   cases hv:(Zco d s).1 with
   |false=>rw[hv,cff]at hs;cases hs
   |true=>
    rw[hv,ctt]at hs
    injection hs with hs
    subst hs
    have o1:=(ZIC h.good (by have:=h.few;omega) hv).1
    have o12:=ZzE o1
    have hg:=h.gone
    refine⟨⟨fun c hc=>?_,by dsimp only;rw[Xam,Xam,XaG,XaG,hg],by dsimp only;rw[Xam,XaG];omega⟩,by dsimp only;rw[Xam,XaG];omega⟩
    rcases List.mem_append.1 hc with q|q
    ·exact h.good c q
    ·rw[Xaj]at q
     rw[q]
     exact⟨o1,by omega⟩
theorem Zy8 {d d':DbT} {S:List Z3} {n:Nat} (hn:n<S.length) (h:ZdI d (S.take n)=some d'):ZdI d (S.take (n+1))=ZfR d' (S.getD n zS):=by
 rw[Zdn zS hn,Zvn,h,Ze]
 show (ZfR d' (S.getD n zS)).bind (fun d''=>some d'')=_
 cases ZfR d' (S.getD n zS)<;>rfl
theorem ZFh {d d':DbT} {S:List Z3} {n:Nat} (hn:n<S.length) (h:ZdI d (S.take n)=some d') (h2:ZfR d' (S.getD n zS)=none):ZdI d S=none:=by
 have e:S=S.take (n+1)++S.drop (n+1):=(List.take_append_drop _ _).symm
 rw[e,Zvn,Zy8 hn h,h2]
 rfl
theorem Zze {l:ZD} (hg:Zeu l) (h4:l.length≤400):ZmP (ZdF l):=⟨hg,XaC,by show l.length≤900000;omega⟩
def Znl (S:List Z3):Prop:=∀s∈S,s.2.2.2.1.length≤1048576
theorem ZGj {l:ZD} {S:List Z3} (hs:Zob l) (hS:Znl S) :
  ∃r,Zu4 l S=some r∧((r.1=true∧r.2.1 = -1∧(ZfM l=true∧S.length≤1000)∧ZdI (ZdF l) S=some (r.2.2.1,r.2.2.2.1))∨(r.1=false∧0≤r.2.2.2.2∧¬((ZfM l=true∧S.length≤1000)∧∃d,ZdI (ZdF l) S=some d))):=by
 unfold Zu4 ZtJ
 rw[Zu3 l hs,Ze]
 cases hp:ZfM l with
 |false=>rw[cnf];exact⟨_,rfl,Or.inr ⟨rfl,XaD _,fun h=>by cases h.1.1⟩⟩
 |true=>
  rw[cnt]
  by_cases q:1000<(S.length:Int)
  ·rw[Zd q];exact⟨_,rfl,Or.inr ⟨rfl,XaD _,fun h=>by have:=h.1.2;omega⟩⟩
  ·obtain⟨hg,h4⟩:=Zxi hs hp
   rw[Zc q,ZwB l (by omega),Ze,Zb ⟨by omega,by simp only[Zp];omega,rfl⟩,Xaa]
   have:=Zis (f:=Zo3 S) (fun s:Int×ZD×List Bool=>∃n:Nat,s.1=n∧n≤S.length∧ZdI (ZdF l) (S.take n)=some (s.2.1,s.2.2)∧ZmP (s.2.1,s.2.2)∧s.2.1.length≤400+n) (fun s=>S.length - s.1.toNat)
    (fun r=>(r.1=true∧r.2.1 = -1∧(true=true∧S.length≤1000)∧ZdI (ZdF l) S=some (r.2.2.1,r.2.2.2.1))∨(r.1=false∧0≤r.2.2.2.2∧¬((true=true∧S.length≤1000)∧∃d,ZdI (ZdF l) S=some d))) ?_ ((0:Int),l,List.replicate l.length false) ⟨0,rfl,Nat.zero_le _,rfl,Zze hg h4,by show l.length≤400+0;omega⟩
   ·exact this
   rintro⟨i,all,gone⟩ ⟨n,hn1,hn,hr,hok,hlen⟩
   dsimp only at hn1 hr hok hlen
   subst hn1
   unfold Zo3
   dsimp only
   rcases Xah n S.length with h1|h1
   ·have hm:=hS _ (ZB (l:=S) (i:=n) (d:=zS) h1)
    obtain⟨r,er,h2,h3⟩:=ZEM hok hm
    have er:Zdr (S.getD n (0,(0,(0,([],0))))) all gone=some r:=er
    rw[Zd (by omega),Zb ⟨by omega,by omega⟩,Xaa,er,Ze]
    cases hr1:r.1 with
    |true=>
     left
     rw[cnt,Zg (by omega) (by omega)]
     have h2:=h2 hr1
     have hso:=ZBZ hok (by dsimp only;omega) h2
     refine⟨_,rfl,⟨n+1,by simp,by omega,?_,hso.1,?_⟩,by (try dsimp only)<;>omega⟩
     ·dsimp only
      rw[Zy8 h1 hr]
      exact h2
     ·have:=hso.2
      dsimp only at this ⊢
      omega
    |false=>
     right
     rw[cnf]
     refine⟨_,rfl,Or.inr ⟨rfl,by (try dsimp only)<;>omega,fun h=>?_⟩⟩
     obtain⟨_,d,hd⟩:=h
     rw[ZFh h1 hr (h3 hr1)]at hd
     cases hd
   ·right
    have hnn:n=S.length:=by omega
    rw[hnn,Xav]at hr
    rw[Zc (by omega)]
    exact⟨_,rfl,Or.inl ⟨rfl,rfl,⟨rfl,by omega⟩,hr⟩⟩
theorem ZGH {l:ZD} {S:List Z3} (hg:Zeu l) (h4:l.length≤400) (hS:Znl S) (hn:S.length≤1000) :
  ∃r,Zrb l S=some r∧((r.1 = -1∧ZdI (ZdF l) S=some r.2)∨(0≤r.1∧ZdI (ZdF l) S=none)):=by
 unfold Zrb ZqB
 rw[Zb (by simp only[Zp,Xak];omega),Zb ⟨by omega,by simp only[Zp];omega,rfl⟩,Xaa,Xao]
 refine Zis (f:=ZmF S) (fun s:Int×ZD×List Bool=>∃n:Nat,s.1=n∧n≤S.length∧ZdI (ZdF l) (S.take n)=some s.2∧ZmP s.2∧s.2.1.length≤400+n) (fun s=>S.length - s.1.toNat)
  (fun r=>(r.1 = -1∧ZdI (ZdF l) S=some r.2)∨(0≤r.1∧ZdI (ZdF l) S=none)) ?_ ((0:Int),l,List.replicate l.length false) ⟨0,rfl,Nat.zero_le _,rfl,Zze hg h4,by show l.length≤400+0;omega⟩
 rintro⟨i,d⟩ ⟨n,hn1,hn,hr,hok,hlen⟩
 dsimp only at hn1 hr hok hlen
 subst hn1
 obtain⟨all,gone⟩:=d
 dsimp only at hlen
 unfold ZmF ZqC
 dsimp only
 rcases Xah n S.length with h1|h1
 ·have hm:=hS _ (ZB (l:=S) (i:=n) (d:=zS) h1)
  have hfail:ZfR (all,gone) (S.getD n zS)=none→∃r,some (Sum.inr ((n:Int),all,gone):(Int×ZD×List Bool)⊕(Int×ZD×List Bool))=some (.inr r)∧((r.1 = -1∧ZdI (ZdF l) S=some r.2)∨(0≤r.1∧ZdI (ZdF l) S=none)):=fun h=>⟨_,rfl,Or.inr ⟨by (try dsimp only)<;>omega,ZFh h1 hr h⟩⟩
  have hgo:∀d',ZfR (all,gone) (S.getD n zS)=some d'→∃m:Nat,((n:Int)+1)=m∧m≤S.length∧ZdI (ZdF l) (S.take m)=some d'∧ZmP d'∧d'.1.length≤400+m:=fun d' h=>by
   obtain⟨o1,o2⟩:=ZBZ hok (by dsimp only;omega) h
   exact⟨n+1,by simp,by omega,by rw[Zy8 h1 hr];exact h,o1,by dsimp only at o2;omega⟩
  have hg2:=hok.gone
  have hf2:=hok.few
  dsimp only at hg2 hf2
  have hpq:Zlh (S.getD n (0,(0,(0,([],0)))))=some (Ziu (S.getD n zS)):=ZDH
  rw[Zd (by omega),Zb ⟨by omega,by omega⟩,Xaa,hpq,Ze]
  unfold ZfR at hfail hgo
  cases hp:Ziu (S.getD n zS)with
  |false=>
   right
   rw[hp,cff]at hfail
   rw[cnf]
   exact hfail rfl
  |true=>
   rw[hp,ctt]at hfail hgo
   rw[cnt]
   change(S.getD n zS).2.2.2.1.length≤1048576 at hm
   show (∃s',cond ((S.getD n zS).1==(8:Int)) _ _=_∧_)∨(∃r,cond ((S.getD n zS).1==(8:Int)) _ _=_∧_)
   by_cases k8:(S.getD n zS).1=8
   ·rw[if_pos k8]at hfail hgo
    have hhas:ZhE (all,gone) (S.getD n (0,(0,(0,([],0))))).2.1=some (ZdH (all,gone) (S.getD n zS).2.1):=ZtX hok.gone
    rw[Zu k8,hhas,Ze]
    cases hv:ZdH (all,gone) (S.getD n zS).2.1 with
    |false=>
     right
     rw[hv,cff]at hfail
     rw[cnf]
     exact hfail rfl
    |true=>
     left
     obtain⟨a0,a1,_⟩:=ZmU hv
     dsimp only at a1
     rw[hv,ctt]at hgo
     have a0:0≤(S.getD n (0,(0,(0,([],0))))).2.1:=a0
     have a1:(S.getD n (0,(0,(0,([],0))))).2.1.toNat<all.length:=a1
     rw[cnt,Zb ⟨a0,by omega⟩,Zg (by omega) (by omega)]
     exact⟨_,rfl,hgo _ rfl,by (try dsimp only)<;>omega⟩
   ·rw[if_neg k8]at hfail hgo
    obtain⟨r,er,e1,e2⟩:=ZBQ hok hm
    have er:ZjL (all,gone) (S.getD n (0,(0,(0,([],0)))))=some r:=er
    rw[Zs k8,er,Ze]
    cases hr1:r.1 with
    |false=>
     right
     rw[←e1,hr1,cff]at hfail
     rw[cnf]
     exact hfail rfl
    |true=>
     left
     rw[←e1,hr1,ctt,←e2 hr1]at hgo
     rw[cnt,Zb (by simp only[Zp,Xal,Xak];omega),Zb (by simp only[Zp,Xal,Xak];omega),Zg (by omega) (by omega)]
     exact⟨_,rfl,hgo _ rfl,by (try dsimp only)<;>omega⟩
 ·right
  have hnn:n=S.length:=by omega
  rw[hnn,Xav]at hr
  rw[Zc (by omega)]
  exact⟨_,rfl,Or.inl ⟨rfl,hr⟩⟩
end Go.AE.Y
namespace Go.AE.Y
open Go Go.AE
set_option maxHeartbeats 400000
theorem ZI4:∀(S:List Z3) (d d':DbT),ZmP d→d.1.length+S.length≤900000→ZdI d S=some d'→ZmP d'∧d'.1.length≤d.1.length+S.length∧∀s∈S,Ziu s=true
 |[],d,d',h,_,hr=>by
  have hr:some d=some d':=hr
  injection hr with hr
  subst hr
  exact⟨h,Nat.le_refl _,fun s hs=>absurd hs XaJ⟩
 |s::S,d,d',h,hl,hr=>by
  have hr:(ZfR d s).bind (fun d1=>ZdI d1 S)=some d':=hr
  rw[Xal]at hl
  cases hs:ZfR d s with
  |none=>rw[hs]at hr;cases hr
  |some d1=>
   rw[hs,Ze]at hr
   obtain⟨o1,o2⟩:=ZBZ h (by omega) hs
   obtain⟨i1,i2,i3⟩:=ZI4 S d1 d' o1 (by omega) hr
   refine⟨i1,by rw[Xal];omega,fun x hx=>?_⟩
   rcases Xaz.1 hx with e|e
   ·rw[e]
    unfold ZfR at hs
    cases hp:Ziu s with
    |true=>rfl
    |false=>rw[hp,cff]at hs;cases hs
   ·exact i3 x e
theorem Zvk {l:ZD} {S:List Z3} {q:DbT×Nat}:Zf0 l S=some q↔(ZfM l=true∧S.length≤1000)∧ZdI (ZdF l) S=some q.1∧ZqT q.1=some q.2:=by
 unfold Zf0
 by_cases h:ZfM l=true∧S.length≤1000
 ·rw[if_pos h]
  cases hr:ZdI (ZdF l) S with
  |none=>exact⟨fun e=>(by cases e),fun e=>(by cases e.2.1)⟩
  |some d=>
   rw[Ze]
   cases hf:ZqT d with
   |none=>
    refine⟨fun e=>(by cases e),fun e=>?_⟩
    have e1:=e.2.1
    injection e1 with e1
    have e2:=e.2.2
    rw[←e1,hf]at e2
    cases e2
   |some i=>
    constructor
    ·intro e
     have e:some (d,i)=some q:=e
     injection e with e
     subst e
     exact⟨h,rfl,hf⟩
    ·intro e
     have e1:=e.2.1
     injection e1 with e1
     have e2:=e.2.2
     rw[←e1,hf]at e2
     injection e2 with e2
     show some (d,i)=some q
     rw[e1,e2]
 ·rw[if_neg h]
  exact⟨fun e=>(by cases e),fun e=>absurd e.1 h⟩
theorem ZzZ {R:Type} {f:Int→Option (Int⊕R)} (n:Nat) (p:Nat→Bool) (hit:Nat→R) (miss:R)
  (h:∀i:Nat,i<n→f i=some (bif p i then .inr (hit i)else .inl ((i:Int)+1))) (hn:f n=some (.inr miss)):loop f 0=some (match (List.range n).find? p with|some i=>hit i|none=>miss):=by
 have key:∀k i:Nat,i+k=n→loop f (i:Int)=some (match (List.range' i k).find? p with|some i=>hit i|none=>miss):=by
  intro k
  induction k with
  |zero=>
   intro i hi
   rw[Zdo,show i=n by omega,hn]
   rfl
  |succ k ih=>
   intro i hi
   rw[Zdo,h i (by omega),List.range'_succ,List.find?_cons]
   cases p i with
   |true=>rfl
   |false=>
    rw[cff]
    exact ih (i+1) (by omega)
 have:=key n 0 (by omega)
 rw[List.range_eq_range']
 exact this
theorem ZHU {r:Bool×Int×ZD×List Bool×Int} (h:ZmP (r.2.2.1,r.2.2.2.1)):loop (Zge r) (0:Int)=some (match ZqT (r.2.2.1,r.2.2.2.1)with|some i=>(true,(i:Int),r.2.2.1,r.2.2.2.1,0)|none=>(true,-1,r.2.2.1,r.2.2.2.1,0)):=by
 have hf:=h.few
 have hg:=h.gone
 dsimp only at hf hg
 unfold ZqT
 refine ZzZ r.2.2.1.length _ (fun i=>(true,(i:Int),r.2.2.1,r.2.2.2.1,0)) (true,-1,r.2.2.1,r.2.2.2.1,0) (fun i hi=>?_) ?_
 ·unfold Zge
  rw[Zd (by omega),Zb ⟨by omega,by omega⟩,Zb ⟨by omega,by omega⟩,Xaa]
  dsimp only
  cases hgi:r.2.2.2.1.getD i false with
  |true=>
   rw[cnt,Zg (by omega) (by omega)]
   rfl
  |false=>
   have hm:=(h.good _ (ZB (l:=r.2.2.1) (i:=i) (d:=([],0)) hi)).2
   have hfe:ZdO (r.2.2.1.getD i ([],0))=some (ZnI (r.2.2.1.getD i ([],0))):=ZDf hm
   rw[cnf,hfe,Ze]
   cases ZnI (r.2.2.1.getD i ([],0))with
   |true=>rfl
   |false=>rw[cff,Zg (by omega) (by omega)];rfl
 ·unfold Zge
  rw[Zc (by omega)]
theorem ZIe {d:DbT} (h:ZmP d):Zof d=some (match ZqT d with|some i=>(i:Int)|none=>-1):=by
 have hf:=h.few
 have hg:=h.gone
 unfold ZqT Zof
 refine ZzZ d.1.length _ (fun i=>(i:Int)) (-1) (fun i hi=>?_) ?_
 ·unfold Zky
  rw[Zd (by omega),Zb ⟨by omega,by omega⟩,Xaa]
  cases hgi:d.2.getD i false with
  |true=>
   rw[cnt,Zg (by omega) (by omega)]
   rfl
  |false=>
   have hm:=(h.good _ (ZB (l:=d.1) (i:=i) (d:=([],0)) hi)).2
   have hfe:ZdZ (d.1.getD i ([],0))=some (ZnI (d.1.getD i ([],0))):=ZDD hm
   rw[cnf,Zb ⟨by omega,by omega⟩,hfe,Ze]
   cases ZnI (d.1.getD i ([],0))with
   |true=>rfl
   |false=>rw[cff,Zg (by omega) (by omega)];rfl
 ·unfold Zky
  rw[Zc (by omega)]
theorem ZCH {l:ZD} {S:List Z3} {d:DbT} (hs:Zob l) (hp:ZfM l=true∧S.length≤1000) (h:ZdI (ZdF l) S=some d):ZmP d∧d.1.length≤400+S.length∧∀s∈S,Ziu s=true:=by
 obtain⟨hg,h4⟩:=Zxi hs hp.1
 have e:(ZdF l).1.length=l.length:=rfl
 obtain⟨a,b,c⟩:=ZI4 S (ZdF l) d (Zze hg h4) (by rw[e];omega) h
 exact⟨a,by rw[e]at b;omega,c⟩
theorem ZyQ {l:ZD} {S:List Z3} (hs:Zob l) (hS:Znl S) :
  ∃r,ZmA l S=some r∧((∃q:DbT×Nat,Zf0 l S=some q∧r=(true,(q.2:Int),q.1.1,q.1.2,0))∨(Zf0 l S=none∧((r.1=true∧r.2.1 = -1)∨(r.1=false∧r.2.2.2.2 = -1)))):=by
 obtain⟨r,e,h⟩:=ZGj hs hS
 unfold ZmA
 rw[e,Ze]
 rcases h with⟨h1,h2,h3,h4⟩|⟨h1,h2,h3⟩
 ·rw[h1,ctt,h2,Zc (by decide),ZHU (ZCH hs h3 h4).1]
  cases hf:ZqT (r.2.2.1,r.2.2.2.1)with
  |some i=>exact⟨_,rfl,Or.inl ⟨((r.2.2.1,r.2.2.2.1),i),Zvk.2 ⟨h3,h4,hf⟩,rfl⟩⟩
  |none=>
   refine⟨_,rfl,Or.inr ⟨?_,Or.inl ⟨rfl,rfl⟩⟩⟩
   cases hq:Zf0 l S with
   |none=>rfl
   |some q=>
    obtain⟨_,b,c⟩:=Zvk.1 hq
    rw[h4]at b
    injection b with b
    rw[←b,hf]at c
    cases c
 ·rw[h1,cff,Zd h2]
  refine⟨_,rfl,Or.inr ⟨?_,Or.inr ⟨rfl,rfl⟩⟩⟩
  cases hq:Zf0 l S with
  |none=>rfl
  |some q=>
   obtain⟨a,b,c⟩:=Zvk.1 hq
   exact absurd ⟨a,_,b⟩ h3
theorem Zsz {l:ZD} {S:List Z3} (hs:Zob l) (hS:Znl S):ZfE l S=some (Zf0 l S).isSome:=by
 obtain⟨r,e,h⟩:=ZyQ hs hS
 unfold ZfE
 rw[e,Ze]
 rcases h with⟨q,hq,er⟩|⟨hq,⟨h1,h2⟩|⟨h1,h2⟩⟩
 ·rw[hq,er]
  show some (decide ((0:Int)≤(q.2:Int)))=_
  rw[Xae (by omega)]
  rfl
 ·rw[hq,h1,ctt,h2];rfl
 ·rw[hq,h1,cff,h2];rfl
theorem ZsL {l:ZD} {S:List Z3} (hs:Zob l) (hS:Znl S):ZfP l S=some (Zf0 l S).isSome:=by
 unfold ZfP ZtY
 rw[Zvs l hs,Ze]
 have hno:¬(ZfM l=true∧S.length≤1000)→(Zf0 l S).isSome=false:=fun h=>by
  unfold Zf0
  rw[if_neg h]
  rfl
 cases hp:ZfM l with
 |false=>
  rw[cff,Ze,hno (by rw[hp];exact fun h=>by cases h.1)]
  rfl
 |true=>
  rw[ctt,Ze]
  by_cases hn:S.length≤1000
  ·rw[Xae (by omega),cnt]
   obtain⟨hg,h4⟩:=Zxi hs hp
   obtain⟨r,e,h⟩:=ZGH hg h4 hS hn
   rw[e,Ze]
   rcases h with⟨h1,h2⟩|⟨h1,h2⟩
   ·rw[h1,Zd (by decide),ZIe (ZCH hs ⟨hp,hn⟩ h2).1,Ze]
    unfold Zf0
    rw[if_pos ⟨hp,hn⟩,h2,Ze]
    cases ZqT r.2 with
    |none=>rfl
    |some i=>
     show some (decide ((0:Int)≤(i:Int)))=_
     rw[Xae (by omega)]
     rfl
   ·rw[Zc (by omega)]
    unfold Zf0
    rw[if_pos ⟨hp,hn⟩,h2]
    rfl
  ·rw[decide_eq_false (by omega),cnf,hno (fun h=>hn h.2)]
end Go.AE.Y
namespace Go.AE.Y
open Go Go.AE
end Go.AE.Y
namespace Go.AE.Y
open Go Go.AE
theorem Zv6 (m:Zt) (x:List Int) (h:Zds m) (hx:x.length≤1048576):ZiX m x=some (ZF m&&ZR m x&&Ziw m x):=by
 unfold ZiX
 rw[ZwQ m x h hx,Ze]
 cases hv:ZF m&&ZR m x with
 |false=>rw[cff,Xad]
 |true=>
  rw[Xaf]at hv
  rw[ctt,ZBi h hv.1 hv.2,Ze,Xag]
end Go.AE.Y
namespace Go.AE.Y
open Go Go.AE
set_option maxHeartbeats 400000
noncomputable def ZzD (m:Zt) (c x:List Int) (S:List Z3):Bool:=
 (ZF m&&decide ((Zdq m).length<400))&&((ZR m x&&Ziw m x)&&Zm0 m c)&&(Zf0 (Zdq m++[obC m c (Zct c x x.length - 1)]) S).isSome
theorem ZE2 {m:Zt} {c x:List Int} (hx:x≠[]):Zr8 m c x=Zdq m++[obC m c (Zct c x x.length - 1)]:=if_neg hx
theorem Zu2 {m:Zt} {c x:List Int} {S:List Z3} (h:Zds m) (hcl:c.length≤1048576) (hxl:x.length≤1048576) (hS:Znl S):ZhP m c x S=some (ZzD m c x S):=by
 unfold ZhP ZrS ZzD
 rw[Zv5 m h,Ze]
 unfold ZBe
 cases hm:ZF m with
 |false=>rw[Xad,Xad,Xad,Xad,cff];rfl
 |true=>
  rw[Xag,Xag]
  by_cases q4:(Zdq m).length≤400
  case neg=>
   rw[decide_eq_false q4,cff,decide_eq_false (show ¬(Zdq m).length<400 by omega),Xad,Xad]
   rfl
  rw[Xae q4,ctt,ctt,Ze]
  dsimp only
  by_cases q:(Zdq m).length<400
  case neg=>
   rw[decide_eq_false (show ¬((Zdq m).length:Int)<400 by omega),cnf,decide_eq_false q,Xad,Xad]
  rw[Xae (show ((Zdq m).length:Int)<400 by omega),cnt,Xae q,Xag,Zv6 m x h hxl,Ze,hm,Xag]
  cases hx:ZR m x&&Ziw m x with
  |false=>rw[cnf,Xad,Xad]
  |true=>
   rw[cnt,Zor m c hcl,Ze,Xag]
   cases hc:Zm0 m c with
   |false=>rw[cnf,Xad]
   |true=>
    rw[Xaf]at hx
    obtain⟨b1,b2,b3,b4,b5⟩:=Zxz hm hc hx.1
    have hb:=b5 x.length (Nat.le_refl _)
    have hxne:x≠[]:=fun e=>by rw[e]at b4;simp at b4
    obtain⟨r1,_,_⟩:=ZFe hm hc q (Or.inr ⟨hx.1,hx.2⟩:ZHF m x)
    rw[ZE2 hxne]at r1
    rw[cnt,ZzP b2 b3 b1,Ze,Zg (by omega) (by omega),ZrQ m c _ h hcl,Ze,(ZE1 hm hc ⟨by omega,by omega⟩).1]
    unfold ZiT
    dsimp only
    rw[ctt,ZwB _ (by omega),Ze,Zb (by simp only[Zp,Xal,Xak];omega)]
    have e:=Zsz r1 hS
    rw[show ((obC m c (Zct c x x.length - 1)).1,(obC m c (Zct c x x.length - 1)).2)=obC m c (Zct c x x.length - 1) from rfl,e,Ze,Xag]
theorem Zvr {m:Zt} {c x:List Int} {S:List Z3} (h:Zds m) (hcl:c.length≤1048576) (hxl:x.length≤1048576) (hS:Znl S) (hsol:Zgo m x=some (ZF m&&ZR m x&&Ziw m x)):ZhV m c x S=some (ZzD m c x S):=by
 unfold ZhV ZzD
 rw[Zwm m h,Ze]
 unfold ZBe
 cases hm:ZF m with
 |false=>rw[Xad,Xad,Xad,Xad,cff];rfl
 |true=>
  rw[Xag,Xag]
  by_cases q4:(Zdq m).length≤400
  case neg=>
   rw[decide_eq_false q4,cff,decide_eq_false (show ¬(Zdq m).length<400 by omega),Xad,Xad]
   rfl
  rw[Xae q4,ctt]
  dsimp only
  rw[cnt,Ztr m c h hcl,Ze,hm,Xag]
  cases hc:Zm0 m c with
  |false=>rw[cnf,XaM,XaM,Xad]
  |true=>
   rw[cnt,hsol,Ze,hm,Xag,XbC]
   cases hx:ZR m x&&Ziw m x with
   |false=>rw[cnf,XaM,Xad]
   |true=>
    rw[cnt,XbC]
    by_cases q:(Zdq m).length<400
    case neg=>rw[Zd (by omega),decide_eq_false q,Xad]
    rw[Xaf]at hx
    obtain⟨b1,b2,b3,b4,b5⟩:=Zxz hm hc hx.1
    have hb:=b5 x.length (Nat.le_refl _)
    have hxne:x≠[]:=fun e=>by rw[e]at b4;simp at b4
    obtain⟨r1,_,_⟩:=ZFe hm hc q (Or.inr ⟨hx.1,hx.2⟩:ZHF m x)
    rw[ZE2 hxne]at r1
    rw[Zc (by omega),ZAi b2 b3 b1,Ze,Zg (by omega) (by omega),Zse m c _ h hcl,Ze,(ZE1 hm hc ⟨by omega,by omega⟩).1]
    unfold Zi7
    dsimp only
    rw[Zb (by simp only[Zp,Xak];omega),Xao,Zb (by simp only[Zp,Xal,Xak];omega)]
    have e:=ZsL r1 hS
    rw[show ((obC m c (Zct c x x.length - 1)).1,(obC m c (Zct c x x.length - 1)).2)=obC m c (Zct c x x.length - 1) from rfl,e,Ze,Xae q,Xag]
end Go.AE.Y
namespace Go.AE.Y
open Go Go.AE
set_option maxHeartbeats 400000
end Go.AE.Y
namespace Go.AE.Y
open Go Go.AE
set_option maxHeartbeats 400000
end Go.AE.Y
namespace Go.AE.Y
open Go Go.AE
set_option maxHeartbeats 400000
end Go.AE.Y
namespace Go.AE.Y
open Go Go.AE
set_option maxHeartbeats 400000
theorem Zwn (m:Zt) (x:List Int) (h:Zds m) (hx:x.length≤1048576):Zgo m x=some (ZF m&&ZR m x&&Ziw m x):=by
 unfold Zgo Zod
 rw[Zlc m h,Ze]
 cases hm:ZF m with
 |false=>rw[cff,Ze,cff,Xad,Xad]
 |true=>
  rw[ctt,ZAf m x h hx,Ze,Ze,Xag]
  cases hc:ZR m x with
  |false=>rw[cff,Xad]
  |true=>rw[ctt,ZBX h hm hc,Ze,Xag]
theorem ZsK (m:Zt) (c x:List Int) (S:List Z3) (h:okD ZHa m) (h':okD (.sl ZLD) S):Zgf m c x S=some true:=by
 unfold Zgf
 by_cases h0:1048576<(c.length:Int)
 ·rw[Zd h0]
 rw[Zc h0]
 by_cases h1:1048576<(x.length:Int)
 ·rw[Zd h1]
 rw[Zc h1]
 obtain⟨r,hr,hl,hr2⟩:=ZIg m h
 rw[hr,Ze]
 by_cases h2:r<0
 ·rw[Zd h2]
 rw[Zc h2]
 have hs:Zds m:=hr2.resolve_left h2
 obtain⟨r2,e2,g1,g2⟩:=ZIh S r (by omega) (by omega) h'.1 (fun x hx=>(h'.2 x hx).2.2.2.1.1)
 rw[e2,Ze]
 by_cases h3:r2<0
 ·rw[Zd h3]
 rw[Zc h3]
 have hb:Zuv S:=g2 (by omega)
 have hS:Znl S:=hb.2
 have e1:=Zu2 (c:=c) (x:=x) hs (by omega) (by omega) hS
 have e3:=Zvr (c:=c) (x:=x) hs (by omega) (by omega) hS (Zwn m x hs (by omega))
 rw[ZIm m hs,Ze,ZiK c (by omega),Ze,ZiK x (by omega),Ze,ZAn S hb,Ze,e3,Ze,Ze,Ze,Ze,Ze,e1,Ze,bne_self_eq_false,cff,Ze,ZEr m hs,Ze,cnt]
 unfold ZeQ
 rw[ZiK c (by omega),Ze,ZjO c (by omega),Ze,cnt,ZiK x (by omega),Ze,ZjO x (by omega),Ze,cnt,ZAn S hb,Ze,ZEs S hb,Ze,cnt]
end Go.AE.Y
