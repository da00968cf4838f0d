/-
  Walks: each function keeps the contract that its model gives. No conditions.
-/
import Derived.Test.YtaeeiddjpigemaaGreatR8Tab
import Derived.Test.YtaeeiddjpigemaaGreatR8W6
import Derived.Test.YtaeeiddjpigemaaGreatR8S
namespace Go.AE.Y
open Go Go.AE Go.Proofs
set_option linter.unusedVariables false
set_option maxHeartbeats 2000000
set_option maxRecDepth 100000
noncomputable section
def ZcM:Con:=fun
  |[.c (.imm (.pair (.int .i64) (.pair (.int .i64) (.pair (.int .i64) (.pair (.sl (.pair (.int .i64) (.int .i64))) (.int .i64))))) s1_),.c (.imm (.pair (.int .i64) (.pair (.int .i64) (.pair (.int .i64) (.pair (.sl (.pair (.int .i64) (.int .i64))) (.int .i64))))) s2_),.c (.fn 69 [])],[]=>.opt _ (Zc1 s1_ s2_) (fun r=>.ret (.c (.bool r)) [])
  |_,_=>.fail
def ZiC:Cfg:={ y:=tys,n:=32,h:=0,tab:=[(69,ZmB)] }
theorem ZiM:Zn Tryz.prog 68 ZcM:=by
 refine Zq (C:=ZiC) Tryz.f68 (Zk Zyk Zr) fun _ a b k he=>?_
 unfold ZcM at he;split at he;rotate_left;exact he.elim
 rename_i s1_ s2_
 refine Zs he fun he=>?_
 refine Zh he (fun he=>?_) fun he=>?_
 ·exact Z5
 ·refine Zp (Zbf s1_ s2_) (fun i=>(Zm [(1,.c (.imm Zb7 s2_)),(2,.c (.fn 69 [])),(15,.c (.imm Zb7 s1_)),(16,.c (.int .i64 (s1_.length:Int))),(17,.c (.int .i64 i))],[])) he (Za []) ?_
  rintro i _ he
  refine Zh he (fun he=>?_) fun he=>?_
  ·refine Zg he fun he=>?_
   refine Zg he fun he=>?_
   refine Zi he fun r1_ he=>?_
   refine Zh he (fun he=>?_) fun he=>?_
   ·exact Zt [(6,[])] (Zj he :) (Za [])
   ·exact ZdH
  ·exact Z5
def ZoP:Con:=fun
  |[.c (.imm (.pair (.int .i64) (.pair (.int .i64) (.pair (.int .i64) (.pair (.sl (.pair (.int .i64) (.int .i64))) (.int .i64))))) a),.c (.imm (.pair (.int .i64) (.pair (.int .i64) (.pair (.int .i64) (.pair (.sl (.pair (.int .i64) (.int .i64))) (.int .i64))))) b)],[]=>.opt _ (ZeX a b) (fun r=>.ret (.c (.bool r)) [])
  |_,_=>.fail
def ZAk:Cfg:={ y:=tys,n:=8,h:=0,tab:=[(68,ZcM)] }
theorem ZAC:Zn Tryz.prog 15 ZoP:=by
 refine Zq (C:=ZAk) Tryz.f15 (Zk ZiM Zr) fun _ a b k he=>?_
 unfold ZoP at he;split at he;rotate_left;exact he.elim
 rename_i a b
 refine Zs he fun he=>?_
 refine Zi he fun r1_ he=>?_
 exact Z5
def Zqy:Con:=fun
  |[.agg [.int .i64 r__0,.imm (.int .i64) r__1,.imm (.int .i64) r__2,.int .i64 r__3,.imm (.sl (.int .i64)) r__4],.c (.imm (.int .i64) cells)],[]=>.opt _ (ZpW (r__0,(r__1,(r__2,(r__3,r__4)))) cells) (fun r=>.ret (.c (.bool r)) [])
  |_,_=>.fail
def ZCC:Cfg:={ y:=tys,n:=26,h:=0,tab:=[(184,ZjG)],cut:=[7] }
theorem ZC1:Zn Tryz.prog 142 Zqy:=by
 refine Zq (C:=ZCC) Tryz.f142 (Zk Zst Zr) fun _ a b k he=>?_
 unfold Zqy at he;split at he;rotate_left;exact he.elim
 rename_i r__0 r__1 r__2 r__3 r__4 cells
 refine Zs he fun he=>?_
 refine ZN (ZpX (r__0,(r__1,(r__2,(r__3,r__4))))) (fun vals1=>(Zm [(2,.c (.ptr 10001000 0)),(5,.c (.own 10001001 false))],[(10001000,.rc [.int .i64 (r__0,(r__1,(r__2,(r__3,r__4)))).1,.imm y0_ (r__0,(r__1,(r__2,(r__3,r__4)))).2.1,.imm y0_ (r__0,(r__1,(r__2,(r__3,r__4)))).2.2.1,.int .i64 (r__0,(r__1,(r__2,(r__3,r__4)))).2.2.2.1,.imm (.sl y0_) (r__0,(r__1,(r__2,(r__3,r__4)))).2.2.2.2]),(10001001,.sl 3 y0_ vals1 .shallow)])) he ?_ ?_
 ·rintro vals1 he
  exact ZCu
 ·skip
  refine Zp (Zmf (r__0,(r__1,(r__2,(r__3,r__4)))) cells) (fun (i,vals)=>(Zm [(1,.c (.imm y0_ cells)),(2,.c (.ptr 10000000 0)),(5,.c (.own 10000001 false)),(9,.c (.imm y0_ (r__0,(r__1,(r__2,(r__3,r__4)))).2.1)),(10,.c (.int .i64 ((r__0,(r__1,(r__2,(r__3,r__4)))).2.1.length:Int))),(11,.c (.int .i64 i))],[(10000000,.rc [.int .i64 (r__0,(r__1,(r__2,(r__3,r__4)))).1,.imm y0_ (r__0,(r__1,(r__2,(r__3,r__4)))).2.1,.imm y0_ (r__0,(r__1,(r__2,(r__3,r__4)))).2.2.1,.int .i64 (r__0,(r__1,(r__2,(r__3,r__4)))).2.2.2.1,.imm (.sl y0_) (r__0,(r__1,(r__2,(r__3,r__4)))).2.2.2.2]),(10000001,.sl 3 y0_ vals .shallow)])) he (Za [(10000000,2)]) ?_
  rintro⟨i,vals⟩ _ he
  refine Zh he (fun he=>?_) fun he=>?_
  ·refine Zg he fun he=>?_
   refine Zg he fun he=>?_
   refine Zg he fun he=>?_
   refine Zg he fun he=>?_
   exact⟨_,(Zj he :),(Za [(10000001,21)])⟩
  ·exact⟨_,(Zbp he :),(Za [(10001000,10000000),(10001001,10000001)])⟩
def Zj2:Con:=fun
  |[.agg [.int .i64 r__0,.imm (.int .i64) r__1,.imm (.int .i64) r__2,.int .i64 r__3,.imm (.sl (.int .i64)) r__4],.c (.ptr 0 0)],[(0,.rc [.imm (.int .i64) o0])]=>.opt _ (ZlX (r__0,(r__1,(r__2,(r__3,r__4)))) o0) (fun r=>.ret (.c (.bool r)) [(0,.rc [.imm y0_ o0])])
  |_,_=>.fail
def Zu1:Cfg:={ y:=tys,n:=8,h:=1,tab:=[(142,Zqy)] }
theorem Zvg:Zn Tryz.prog 141 Zj2:=by
 refine Zq (C:=Zu1) Tryz.f141 (Zk ZC1 Zr) fun _ a b k he=>?_
 unfold Zj2 at he;split at he;rotate_left;exact he.elim
 rename_i r__0 r__1 r__2 r__3 r__4 o0
 refine Zs he fun he=>?_
 refine Zi he fun r1_ he=>?_
 exact ZtQ
def Zcx:Con:=fun
  |[.c (.imm (.pair (.int .i64) (.pair (.sl (.int .i64)) (.pair (.sl (.int .i64)) (.pair (.int .i64) (.sl (.sl (.int .i64))))))) s_),.c (.fn 141 [0])],[(0,.rc [.imm (.int .i64) o0])]=>.opt _ (ZcE s_ o0) (fun r=>.ret (.c (.int .i64 r)) [(0,.rc [.imm y0_ o0])])
  |_,_=>.fail
def ZhA:Cfg:={ y:=tys,n:=19,h:=1,tab:=[(141,Zj2)] }
theorem ZhE:Zn Tryz.prog 198 Zcx:=by
 refine Zq (C:=ZhA) Tryz.f198 (Zk Zvg Zr) fun _ a b k he=>?_
 unfold Zcx at he;split at he;rotate_left;exact he.elim
 rename_i s_ o0
 refine Zs he fun he=>?_
 refine Zp (Z7 s_ o0) (fun i=>(Zm [(0,.c (.imm y5_ s_)),(1,.c (.fn 141 [0])),(7,.c (.int .i64 (s_.length:Int))),(8,.c (.int .i64 i))],[(0,.rc [.imm y0_ o0])])) he (Za []) ?_
 rintro i _ he
 exact Zzg
def Zcc:Con:=fun
  |[.c (.imm (.pair (.int .i64) (.pair (.sl (.int .i64)) (.pair (.sl (.int .i64)) (.pair (.int .i64) (.sl (.sl (.int .i64))))))) s_),.c (.fn 141 [0])],[(0,.rc [.imm (.int .i64) o0])]=>.opt _ (Zcr s_ o0) (fun r=>.ret (.c (.bool r)) [(0,.rc [.imm y0_ o0])])
  |_,_=>.fail
def Zgz:Cfg:={ y:=tys,n:=9,h:=1,tab:=[(198,Zcx)] }
theorem ZgG:Zn Tryz.prog 138 Zcc:=by
 refine Zq (C:=Zgz) Tryz.f138 (Zk ZhE Zr) fun _ a b k he=>?_
 unfold Zcc at he;split at he;rotate_left;exact he.elim
 rename_i s_ o0
 refine Zs he fun he=>?_
 refine Zi he fun r1_ he=>?_
 exact Zbd
def Zh7:Con:=fun
  |[.agg [.imm (.int .i64) m_0,.imm (.pair (.int .i64) (.pair (.sl (.int .i64)) (.pair (.sl (.int .i64)) (.pair (.int .i64) (.sl (.sl (.int .i64))))))) m_1],.c (.imm (.int .i64) cells)],[]=>.opt _ (ZgM (m_0,m_1) cells) (fun r=>.ret (.c (.bool r)) [])
  |_,_=>.fail
def Zxi:Cfg:={ y:=tys,n:=10,h:=0,tab:=[(138,Zcc)] }
theorem Zqo:Zn Tryz.prog 74 Zh7:=by
 refine Zq (C:=Zxi) Tryz.f74 (Zk ZgG Zr) fun _ a b k he=>?_
 unfold Zh7 at he;split at he;rotate_left;exact he.elim
 rename_i m_0 m_1 cells
 refine Zs he fun he=>?_
 refine Zi he fun r1_ he=>?_
 exact Zbd
def Ze3:Con:=fun
  |[.c (.own 3 false),.c (.ptr 0 0),.c (.ptr 1 0),.c (.ptr 2 0)],[(0,.rc [.imm (.int .i64) o0_0,.imm (.pair (.int .i64) (.pair (.sl (.int .i64)) (.pair (.sl (.int .i64)) (.pair (.int .i64) (.sl (.sl (.int .i64))))))) o0_1]),(1,.rc [.own 4 true]),(2,.rc [.imm (.int .i64) o2]),(3,.sl 3 (.int .i64) cells .shallow),(4,.sl 3 (.int .i64) o4 .shallow)]=>.opt _ (Zen (o0_0,o0_1) o2 cells o4) (fun r=>.ret (.c (.bool r.1)) [(0,.rc [.imm y0_ o0_0,.imm y5_ o0_1]),(1,.rc [.own 900 true]),(2,.rc [.imm y0_ o2]),(3,.sl 3 y0_ cells .shallow),(4,.dead),(900,.sl 3 y0_ r.2 .shallow)])
  |_,_=>.fail
def ZeI:Sched:=.alt 12 (ZB [13,14,15] .done) .stop
def Zhp:Sched:=.alt 11 ZeI .stop
def Zhq:Sched:=.alt 10 ZeI .stop
def ZeJ:Sched:=.alt 9 ZeI .stop
def Zhr:Sched:=.alt 9 Zhp (.alt 11 ZeJ .stop)
def Zhs:Sched:=.alt 9 Zhq (.alt 10 ZeJ .stop)
def Zht:Sched:=.alt 7 ZeJ .stop
def ZpA:Cfg:={ y:=tys,n:=24,h:=5,tab:=[(60,ZhB),(74,Zh7),(75,ZcP)],sched:=[(1,(.first 1 (.alt 0 (.alt 2 (.first 3 (.alt 4 (ZB [5,6,8] (.alt 7 (.alt 9 (.alt 10 Zhp (.alt 11 Zhq .stop)) (.alt 10 Zhr (.alt 11 Zhs .stop))) (.alt 10 (.alt 7 Zhr (.alt 11 Zht .stop)) (.alt 11 (.alt 7 Zhs (.alt 10 Zht .stop)) .stop)))) .stop)) .stop) .stop)))] }
theorem Zc3 {P:Prop} (h:P:=by
  obtain⟨hne0,he⟩:=ZP he
  exact Zt [(5,[])] (Zj he :) (Zc9 [(900,24900)] rfl rfl ⟨⟨.inl rfl,.inl rfl,Y1⟩,⟨⟨Y2,hne0⟩,Y1⟩,⟨.inl rfl,Y1⟩,Y2,Y1,Y2,Y1⟩ ⟨.inr rfl,Y1⟩)):P:=h
theorem ZDA {P:Prop} (h:P:=by
  refine Y4 ?_
  refine Y4 ?_
  exact Zt [(5,[])] (Zj he :) (Za [(900,4)])):P:=h
theorem ZzD {P:Prop} (h:P:=by
  skip
  refine Y5 ?_ ?_
  ·skip
   exact ZDA
  ·skip
   exact ZDA):P:=h
theorem ZI1 {P:Prop} (h:P:=by
  skip
  refine Y5 ?_ ?_
  ·exact ZzD
  ·skip
   refine Y4 ?_
   exact ZDA):P:=h
theorem Zp2:Zn Tryz.prog 73 Ze3:=by
 refine Zq (C:=ZpA) Tryz.f73 (Zk Znp (Zk Zqo (Zk Zeg Zr))) fun _ a b k he=>?_
 unfold Ze3 at he;split at he;rotate_left;exact he.elim
 rename_i o0_0 o0_1 o2 cells o4
 refine Zs he fun he=>?_
 refine And.intro (by kernel_rfl) ?_
 refine Y4 ?_
 refine Y4 ?_
 refine Zi he fun r4_ he=>?_
 refine Y4 ?_
 refine Zh he (fun he=>?_) fun he=>?_
 ·refine ZD he (fun he=>?_) fun he=>?_
  ·obtain⟨r5_,hq1,he⟩:=ZX he
   obtain⟨r6_,hq2,he⟩:=ZX he
   refine And.intro ?_ (And.intro ?_ (And.intro ?_ (Y1)))
   ·skip
    refine And.intro ?_ (And.intro ?_ (And.intro ?_ (Y1)))
    ·skip
     refine⟨r5_,hq1,?_⟩
     refine Y5 ?_ ?_
     ·skip
      refine Y4 ?_
      refine Y4 ?_
      refine⟨r6_,hq2,?_⟩
      refine Zh he (fun he=>?_) fun he=>?_
      ·refine Zi he fun r7_ he=>?_
       exact Zc3
      ·exact Zt [(5,[])] (Zj he :) (Za [(900,4)])
     ·skip
      refine Y4 ?_
      refine Y4 ?_
      refine⟨r6_,hq2,?_⟩
      refine Zh he (fun he=>?_) fun he=>?_
      ·refine Zi he fun r8_ he=>?_
       exact Zc3
      ·exact Zt [(5,[])] (Zj he :) (Za [(900,4)])
    ·skip
     refine Y5 ?_ ?_
     ·skip
      refine⟨r5_,hq1,?_⟩
      refine Y4 ?_
      refine Y4 ?_
      refine⟨r6_,hq2,?_⟩
      refine Zh he (fun he=>?_) fun he=>?_
      ·refine Zi he fun r9_ he=>?_
       exact Zc3
      ·exact Zt [(5,[])] (Zj he :) (Za [(900,4)])
     ·skip
      refine Y4 ?_
      refine⟨r5_,hq1,?_⟩
      refine Y4 ?_
      refine⟨r6_,hq2,?_⟩
      refine Zh he (fun he=>?_) fun he=>?_
      ·refine Zi he fun r10_ he=>?_
       exact Zc3
      ·exact Zt [(5,[])] (Zj he :) (Za [(900,4)])
    ·skip
     refine Y5 ?_ ?_
     ·skip
      refine⟨r5_,hq1,?_⟩
      refine Y4 ?_
      refine Y4 ?_
      refine⟨r6_,hq2,?_⟩
      refine Zh he (fun he=>?_) fun he=>?_
      ·refine Zi he fun r11_ he=>?_
       exact Zc3
      ·exact Zt [(5,[])] (Zj he :) (Za [(900,4)])
     ·skip
      refine Y4 ?_
      refine⟨r5_,hq1,?_⟩
      refine Y4 ?_
      refine⟨r6_,hq2,?_⟩
      refine Zh he (fun he=>?_) fun he=>?_
      ·refine Zi he fun r12_ he=>?_
       exact Zc3
      ·exact Zt [(5,[])] (Zj he :) (Za [(900,4)])
   ·skip
    refine Y5 ?_ ?_
    ·skip
     refine Y5 ?_ ?_
     ·skip
      refine⟨r5_,hq1,?_⟩
      refine Y4 ?_
      refine Y4 ?_
      refine⟨r6_,hq2,?_⟩
      refine Zh he (fun he=>?_) fun he=>?_
      ·refine Zi he fun r13_ he=>?_
       exact Zc3
      ·exact Zt [(5,[])] (Zj he :) (Za [(900,4)])
     ·skip
      refine Y4 ?_
      refine⟨r5_,hq1,?_⟩
      refine Y4 ?_
      refine⟨r6_,hq2,?_⟩
      refine Zh he (fun he=>?_) fun he=>?_
      ·refine Zi he fun r14_ he=>?_
       exact Zc3
      ·exact Zt [(5,[])] (Zj he :) (Za [(900,4)])
    ·skip
     refine Y4 ?_
     refine Y4 ?_
     refine⟨r5_,hq1,?_⟩
     refine Y4 ?_
     refine⟨r6_,hq2,?_⟩
     refine Zh he (fun he=>?_) fun he=>?_
     ·refine Zi he fun r15_ he=>?_
      exact Zc3
     ·exact Zt [(5,[])] (Zj he :) (Za [(900,4)])
   ·skip
    refine Y5 ?_ ?_
    ·skip
     refine Y5 ?_ ?_
     ·skip
      refine⟨r5_,hq1,?_⟩
      refine Y4 ?_
      refine Y4 ?_
      refine⟨r6_,hq2,?_⟩
      refine Zh he (fun he=>?_) fun he=>?_
      ·refine Zi he fun r16_ he=>?_
       exact Zc3
      ·exact Zt [(5,[])] (Zj he :) (Za [(900,4)])
     ·skip
      refine Y4 ?_
      refine⟨r5_,hq1,?_⟩
      refine Y4 ?_
      refine⟨r6_,hq2,?_⟩
      refine Zh he (fun he=>?_) fun he=>?_
      ·refine Zi he fun r17_ he=>?_
       exact Zc3
      ·exact Zt [(5,[])] (Zj he :) (Za [(900,4)])
    ·skip
     refine Y4 ?_
     refine Y4 ?_
     refine⟨r5_,hq1,?_⟩
     refine Y4 ?_
     refine⟨r6_,hq2,?_⟩
     refine Zh he (fun he=>?_) fun he=>?_
     ·refine Zi he fun r18_ he=>?_
      exact Zc3
     ·exact Zt [(5,[])] (Zj he :) (Za [(900,4)])
  ·refine And.intro ?_ (And.intro ?_ (And.intro ?_ (Y1)))
   ·skip
    refine And.intro ?_ (And.intro ?_ (And.intro ?_ (Y1)))
    ·skip
     refine Y5 ?_ ?_
     ·skip
      refine Y4 ?_
      refine Y4 ?_
      refine Zi he fun r19_ he=>?_
      exact Zc3
     ·skip
      refine Y4 ?_
      refine Y4 ?_
      refine Zi he fun r20_ he=>?_
      exact Zc3
    ·skip
     refine Y5 ?_ ?_
     ·skip
      refine Y4 ?_
      refine Y4 ?_
      refine Zi he fun r21_ he=>?_
      exact Zc3
     ·skip
      refine Y4 ?_
      refine Y4 ?_
      refine Zi he fun r22_ he=>?_
      exact Zc3
    ·skip
     refine Y5 ?_ ?_
     ·skip
      refine Y4 ?_
      refine Y4 ?_
      refine Zi he fun r23_ he=>?_
      exact Zc3
     ·skip
      refine Y4 ?_
      refine Y4 ?_
      refine Zi he fun r24_ he=>?_
      exact Zc3
   ·skip
    refine Y5 ?_ ?_
    ·skip
     refine Y5 ?_ ?_
     ·skip
      refine Y4 ?_
      refine Y4 ?_
      refine Zi he fun r25_ he=>?_
      exact Zc3
     ·skip
      refine Y4 ?_
      refine Y4 ?_
      refine Zi he fun r26_ he=>?_
      exact Zc3
    ·skip
     refine Y4 ?_
     refine Y4 ?_
     refine Y4 ?_
     refine Zi he fun r27_ he=>?_
     exact Zc3
   ·skip
    refine Y5 ?_ ?_
    ·skip
     refine Y5 ?_ ?_
     ·skip
      refine Y4 ?_
      refine Y4 ?_
      refine Zi he fun r28_ he=>?_
      exact Zc3
     ·skip
      refine Y4 ?_
      refine Y4 ?_
      refine Zi he fun r29_ he=>?_
      exact Zc3
    ·skip
     refine Y4 ?_
     refine Y4 ?_
     refine Y4 ?_
     refine Zi he fun r30_ he=>?_
     exact Zc3
 ·refine And.intro ?_ (And.intro ?_ (And.intro ?_ (Y1)))
  ·skip
   refine And.intro ?_ (And.intro ?_ (And.intro ?_ (Y1)))
   ·exact ZzD
   ·exact ZzD
   ·exact ZzD
  ·exact ZI1
  ·exact ZI1
def ZdL:Con:=fun
  |[.c (.imm (.int .i64) sizes),.c (.imm (.int .i64) from_),.c (.fn 73 [0,1,2])],[(0,.rc [.imm (.int .i64) o0_0,.imm (.pair (.int .i64) (.pair (.sl (.int .i64)) (.pair (.sl (.int .i64)) (.pair (.int .i64) (.sl (.sl (.int .i64))))))) o0_1]),(1,.rc [.nil]),(2,.rc [.imm (.int .i64) o2])]=>.opt _ (ZcK sizes from_ (o0_0,o0_1) o2) (fun r=>.ret (.tup []) [(0,.rc [.imm y0_ o0_0,.imm y5_ o0_1]),(1,.rc [.own 900 true]),(2,.rc [.imm y0_ o2]),(900,.sl 3 y0_ r .shallow)])
  |_,_=>.fail
def Zly:Cfg:={ y:=tys,n:=42,h:=3,tab:=[(73,Ze3),(75,ZcP)],cut:=[6],hand:=[(73,[0])] }
theorem ZlE:Zn Tryz.prog 72 ZdL:=by
 refine Zq (C:=Zly) Tryz.f72 (Zk Zp2 (Zk Zeg Zr)) fun _ a b k he=>?_
 unfold ZdL at he;split at he;rotate_left;exact he.elim
 rename_i sizes from_ o0_0 o0_1 o2
 refine Zs he fun he=>?_
 refine Zi he fun r1_ he=>?_
 refine Zp (Zcp sizes (o0_0,o0_1) o2) (fun (cells2,cap)=>(Zm [(0,.c (.imm y0_ sizes)),(2,.c (.fn 73 [0,1,2])),(6,.c (.own 10000000 false))],[(0,.rc [.imm y0_ (o0_0,o0_1).1,.imm y5_ (o0_0,o0_1).2]),(1,.rc [.own 10000001 true]),(2,.rc [.imm y0_ o2]),(10000000,.sl 3 y0_ cells2 .shallow),(10000001,.sl 3 y0_ cap .shallow)])) he (Za [(10000000,10900)]) ?_
 rintro⟨cells2,cap⟩ _ he
 refine Zi he fun r3_ he=>?_
 refine Zh he (fun he=>?_) fun he=>?_
 ·refine Zg he fun he=>?_
  refine ZN (Zco r3_) (fun (i3,cells4)=>(Zm [(0,.c (.imm y0_ sizes)),(2,.c (.fn 73 [0,1,2])),(6,.c (.own 10004000 false)),(7,.c (.int .i64 i3))],[(0,.rc [.imm y0_ (o0_0,o0_1).1,.imm y5_ (o0_0,o0_1).2]),(1,.rc [.own 10004001 true]),(2,.rc [.imm y0_ o2]),(10004000,.sl 3 y0_ cells4 .shallow),(10004001,.sl 3 y0_ r3_.2 .shallow)])) he ?_ ?_
  ·rintro⟨i3,cells4⟩ he
   refine Zh he (fun he=>?_) fun he=>?_
   ·exact Zt [] (Zj he :) (Za [(900,10004001)] (l:=[]) (st':=[(0,.rc [.imm y0_ o0_0,.imm y5_ o0_1]),(1,.rc [.own 900 true]),(2,.rc [.imm y0_ o2]),(900,.sl 3 y0_ r3_.2 .shallow)]))
   ·refine Zg he fun he=>?_
    refine Zg he fun he=>?_
    exact ZHg
  ·skip
   refine Zp (ZbL sizes r3_) (fun (i2,cells3)=>(Zm [(0,.c (.imm y0_ sizes)),(2,.c (.fn 73 [0,1,2])),(6,.c (.own 10003000 false)),(7,.c (.int .i64 i2))],[(0,.rc [.imm y0_ (o0_0,o0_1).1,.imm y5_ (o0_0,o0_1).2]),(1,.rc [.own 10003001 true]),(2,.rc [.imm y0_ o2]),(10003000,.sl 3 y0_ cells3 .shallow),(10003001,.sl 3 y0_ r3_.2 .shallow)])) he (Za [(10003000,10000000),(10003001,13900)]) ?_
   exact ZLp
 ·exact Zt [] (Zj he :) (Za [(900,13900)] (l:=[]) (st':=[(0,.rc [.imm y0_ o0_0,.imm y5_ o0_1]),(1,.rc [.own 900 true]),(2,.rc [.imm y0_ o2]),(900,.sl 3 y0_ r3_.2 .shallow)]))
def ZkE:Con:=fun
  |[.agg [.imm (.int .i64) m_0,.imm (.pair (.int .i64) (.pair (.sl (.int .i64)) (.pair (.sl (.int .i64)) (.pair (.int .i64) (.sl (.sl (.int .i64))))))) m_1],.c (.imm (.int .i64) coefs)],[]=>.opt _ (Zga (m_0,m_1) coefs) (fun r=>.ret (.tup [.c (.own 900 false),.c (.bool r.1)]) [(900,.sl 3 y0_ r.2 .shallow)])
  |_,_=>.fail
def Ziz:Sched:=.alt 7 .done .stop
def ZnD:Sched:=.alt 6 Ziz .stop
def ZiA:Sched:=.alt 5 Ziz .stop
def ZnE:Sched:=.alt 5 ZnD (.alt 6 ZiA .stop)
def ZnF:Sched:=.alt 3 (.first 4 ZiA) .stop
def ZnG:Sched:=.alt 1 Ziz .stop
def ZnH:Sched:=.alt 1 ZiA (.alt 5 ZnG .stop)
def ZvS:Cfg:={ y:=tys,n:=27,h:=0,tab:=[(56,Zd8),(71,Zev),(72,ZdL)],cut:=[5],sched:=[(4,(ZB [0,2] (.alt 1 (.alt 3 (.first 4 ZnE) (.alt 6 ZnF .stop)) (.alt 3 (.first 4 (.alt 1 ZnE (.alt 5 (.alt 1 ZnD (.alt 6 ZnG .stop)) (.alt 6 ZnH .stop)))) (.alt 6 (.alt 1 ZnF (.alt 3 (.first 4 ZnH) .stop)) .stop)))))] }
theorem ZvK {P:Prop} (h:P:=by
  refine Y4 ?_
  refine⟨r4_,hq2,?_⟩
  exact⟨_,he,(Za [(10000000,6),(10000001,24900)])⟩):P:=h
theorem ZDB {P:Prop} (h:P:=by
  skip
  refine And.intro hq1 ?_
  refine Y4 ?_
  exact ZvK):P:=h
theorem ZDC {P:Prop} (h:P:=by
  skip
  refine Y4 ?_
  refine And.intro hq1 ?_
  exact ZvK):P:=h
theorem ZI2 {P:Prop} (h:P:=by
  skip
  refine Y5 ?_ ?_
  ·exact ZDB
  ·exact ZDC):P:=h
theorem ZI3 {P:Prop} (h:P:=by
  skip
  refine Y4 ?_
  refine Y4 ?_
  refine And.intro hq1 ?_
  exact ZvK):P:=h
theorem Zwn:Zn Tryz.prog 16 ZkE:=by
 refine Zq (C:=ZvS) Tryz.f16 (Zk Zgd (Zk ZgR (Zk ZlE Zr))) fun _ a b k he=>?_
 unfold ZkE at he;split at he;rotate_left;exact he.elim
 rename_i m_0 m_1 coefs
 refine Zs he fun he=>?_
 refine Zi he fun r1_ he=>?_
 refine ZD he (fun he=>?_) fun he=>?_
 ·refine Zi he fun r2_ he=>?_
  refine Zh he (fun he=>?_) fun he=>?_
  ·exact Zzi
  ·refine ZN (Zpq) (fun best=>(Zm [(6,.c (.ptr 10000000 0))],[(10000000,.rc [.own 10000001 true]),(10000001,.sl 3 y0_ best .shallow)])) he ?_ ?_
   ·rintro best he
    refine And.intro (by kernel_rfl) ?_
    exact Zzj
   ·skip
    refine And.intro (by kernel_rfl) ?_
    obtain⟨hq1,he⟩:=ZP he
    obtain⟨r4_,hq2,he⟩:=ZX he
    refine And.intro ?_ (And.intro ?_ (And.intro ?_ (Y1)))
    ·skip
     refine Y5 ?_ ?_
     ·exact ZI2
     ·exact ZI3
    ·skip
     refine And.intro ?_ (And.intro ?_ (And.intro ?_ (Y1)))
     ·exact ZI2
     ·skip
      refine And.intro hq1 ?_
      refine Y5 ?_ ?_
      ·skip
       refine Y4 ?_
       exact ZvK
      ·skip
       refine Y4 ?_
       exact ZvK
     ·skip
      refine Y5 ?_ ?_
      ·exact ZDC
      ·exact ZDB
    ·skip
     refine Y5 ?_ ?_
     ·exact ZI3
     ·skip
      refine Y5 ?_ ?_
      ·exact ZDC
      ·exact ZDB
 ·exact Zzi
def ZjF:Con:=fun
  |[.agg [.imm (.int .i64) m_0,.imm (.pair (.int .i64) (.pair (.sl (.int .i64)) (.pair (.sl (.int .i64)) (.pair (.int .i64) (.sl (.sl (.int .i64))))))) m_1],.c (.imm (.int .i64) cells)],[]=>.opt _ (Zi1 (m_0,m_1) cells) (fun r=>.ret (.c (.bool r)) [])
  |_,_=>.fail
def ZzM:Cfg:={ y:=tys,n:=34,h:=0,tab:=[(71,Zev),(127,ZbY)] }
theorem Zss:Zn Tryz.prog 76 ZjF:=by
 refine Zq (C:=ZzM) Tryz.f76 (Zk ZgR (Zk Zcz Zr)) fun _ a b k he=>?_
 unfold ZjF at he;split at he;rotate_left;exact he.elim
 rename_i m_0 m_1 cells
 refine Zs he fun he=>?_
 refine Zi he fun r1_ he=>?_
 refine ZD he (fun he=>?_) fun he=>?_
 ·refine Zh he (fun he=>?_) fun he=>?_
  ·exact Zbd
  ·refine Zp (Zi2 (m_0,m_1) cells) (fun i=>(Zm [(2,.c (.ptr 10000000 0)),(18,.c (.imm y0_ cells)),(19,.c (.int .i64 (cells.length:Int))),(20,.c (.int .i64 i))],[(10000000,.rc [.imm y0_ (m_0,m_1).1,.imm y5_ (m_0,m_1).2])])) he (Za [(10000000,2)]) ?_
   rintro i _ he
   refine Zh he (fun he=>?_) fun he=>?_
   ·refine Zg he fun he=>?_
    exact ZLl
   ·exact Zbd
 ·exact Zbd
def Zj3:Con:=fun
  |[.agg [.imm (.int .i64) m_0,.imm (.pair (.int .i64) (.pair (.sl (.int .i64)) (.pair (.sl (.int .i64)) (.pair (.int .i64) (.sl (.sl (.int .i64))))))) m_1],.c (.imm (.int .i64) coefs),.c (.imm (.int .i64) cells)],[]=>.opt _ (ZdT (m_0,m_1) coefs cells) (fun r=>.ret (.tup [.c (.int .i64 r.1),.c (.bool r.2)]) [])
  |_,_=>.fail
def Zu2:Cfg:={ y:=tys,n:=21,h:=0,tab:=[(56,Zd8),(60,ZhB),(76,ZjF)] }
theorem ZDD {P:Prop} (h:P:=by
  exact Zt [(6,[]),(7,[])] (Zj he :) (Za [])):P:=h
theorem Zvh:Zn Tryz.prog 17 Zj3:=by
 refine Zq (C:=Zu2) Tryz.f17 (Zk Zgd (Zk Znp (Zk Zss Zr))) fun _ a b k he=>?_
 unfold Zj3 at he;split at he;rotate_left;exact he.elim
 rename_i m_0 m_1 coefs cells
 refine Zs he fun he=>?_
 refine Zi he fun r1_ he=>?_
 refine ZD he (fun he=>?_) fun he=>?_
 ·refine Zi he fun r2_ he=>?_
  refine Zh he (fun he=>?_) fun he=>?_
  ·exact ZDD
  ·refine Zi he fun r3_ he=>?_
   exact ZDD
 ·exact ZDD
def ZmC:Con:=fun
  |[.agg [.imm (.int .i64) m_0,.imm (.pair (.int .i64) (.pair (.sl (.int .i64)) (.pair (.sl (.int .i64)) (.pair (.int .i64) (.sl (.sl (.int .i64))))))) m_1],.c (.imm (.int .i64) cells)],[]=>.opt _ (ZkW (m_0,m_1) cells) (fun r=>.ret (.c (.bool r)) [])
  |_,_=>.fail
def ZxM:Cfg:={ y:=tys,n:=13,h:=0,tab:=[(74,Zh7),(76,ZjF)] }
theorem Zyl:Zn Tryz.prog 77 ZmC:=by
 refine Zq (C:=ZxM) Tryz.f77 (Zk Zqo (Zk Zss Zr)) fun _ a b k he=>?_
 unfold ZmC at he;split at he;rotate_left;exact he.elim
 rename_i m_0 m_1 cells
 refine Zs he fun he=>?_
 refine Zi he fun r1_ he=>?_
 refine Zh he (fun he=>?_) fun he=>?_
 ·exact ZHf
 ·exact Zbd
def Zov:Con:=fun
  |[.c (.int .i64 kind)],[]=>.opt _ (Zom kind) (fun r=>.ret (.tup [.c (.int .i64 r.1),.c (.bool r.2)]) [])
  |_,_=>.fail
def ZEv:Cfg:={ y:=tys,n:=17,h:=0,tab:=[] }
theorem Zw7:Zn Tryz.prog 155 Zov:=by
 refine Zq (C:=ZEv) Tryz.f155 Zr fun _ a b k he=>?_
 unfold Zov at he;split at he;rotate_left;exact he.elim
 rename_i kind
 refine Zs he fun he=>?_
 refine Zh he (fun he=>?_) fun he=>?_
 ·exact Z5
 ·refine Zh he (fun he=>?_) fun he=>?_
  ·exact Z5
  ·refine Zh he (fun he=>?_) fun he=>?_
   ·exact Z5
   ·refine Zh he (fun he=>?_) fun he=>?_
    ·exact Z5
    ·refine Zh he (fun he=>?_) fun he=>?_
     ·exact Z5
     ·refine Zh he (fun he=>?_) fun he=>?_
      ·exact Z5
      ·refine Zh he (fun he=>?_) fun he=>?_
       ·exact Z5
       ·exact ZLN
def ZmD:Con:=fun
  |[.agg [.int .i64 s__0,.int .i64 s__1,.int .i64 s__2,.imm (.pair (.int .i64) (.int .i64)) s__3,.int .i64 s__4]],[]=>.opt _ (ZkX (s__0,(s__1,(s__2,(s__3,s__4))))) (fun r=>.ret (.c (.bool r)) [])
  |_,_=>.fail
def ZxN:Cfg:={ y:=tys,n:=50,h:=0,tab:=[(70,Zgl),(155,Zov)] }
theorem Zym:Zn Tryz.prog 259 ZmD:=by
 refine Zq (C:=ZxN) Tryz.f259 (Zk Zpr (Zk Zw7 Zr)) fun _ a b k he=>?_
 unfold ZmD at he;split at he;rotate_left;exact he.elim
 rename_i s__0 s__1 s__2 s__3 s__4
 refine Zs he fun he=>?_
 refine Zi he fun r1_ he=>?_
 refine Zh he (fun he=>?_) fun he=>?_
 ·refine ZD he (fun he=>?_) fun he=>?_
  ·refine ZD he (fun he=>?_) fun he=>?_
   ·refine Zh he (fun he=>?_) fun he=>?_
    ·refine ZD he (fun he=>?_) fun he=>?_
     ·refine ZD he (fun he=>?_) fun he=>?_
      ·refine Zh he (fun he=>?_) fun he=>?_
       ·refine ZD he (fun he=>?_) fun he=>?_
        ·refine Zi he fun r2_ he=>?_
         exact ZL
        ·exact ZL
       ·exact ZL
      ·refine ZD he (fun he=>?_) fun he=>?_
       ·refine Zi he fun r3_ he=>?_
        exact ZL
       ·exact ZL
     ·refine ZD he (fun he=>?_) fun he=>?_
      ·refine Zi he fun r4_ he=>?_
       exact ZL
      ·exact ZL
    ·exact ZL
   ·refine ZD he (fun he=>?_) fun he=>?_
    ·refine ZD he (fun he=>?_) fun he=>?_
     ·refine Zh he (fun he=>?_) fun he=>?_
      ·refine ZD he (fun he=>?_) fun he=>?_
       ·refine Zi he fun r5_ he=>?_
        exact ZL
       ·exact ZL
      ·exact ZL
     ·refine ZD he (fun he=>?_) fun he=>?_
      ·refine Zi he fun r6_ he=>?_
       exact ZL
      ·exact ZL
    ·refine ZD he (fun he=>?_) fun he=>?_
     ·refine Zi he fun r7_ he=>?_
      exact ZL
     ·exact ZL
  ·refine ZD he (fun he=>?_) fun he=>?_
   ·refine ZD he (fun he=>?_) fun he=>?_
    ·refine Zh he (fun he=>?_) fun he=>?_
     ·refine ZD he (fun he=>?_) fun he=>?_
      ·refine Zi he fun r8_ he=>?_
       exact ZL
      ·exact ZL
     ·exact ZL
    ·refine ZD he (fun he=>?_) fun he=>?_
     ·refine Zi he fun r9_ he=>?_
      exact ZL
     ·exact ZL
   ·refine ZD he (fun he=>?_) fun he=>?_
    ·refine Zi he fun r10_ he=>?_
     exact ZL
    ·exact ZL
 ·exact ZL
def ZiG:Con:=fun
  |[.c (.ptr 0 0),.c (.int .i64 i)],[(0,.rc [.own 1 false,.own 2 false]),(1,.sl 89 (.pair (.sl (.pair (.int .i64) (.int .i64))) (.int .i64)) o1 .shallow),(2,.sl 4 .bool o2 .shallow)]=>.opt _ (Zd3 i o1 o2) (fun r=>.ret (.c (.bool r)) [(0,.rc [.own 1 false,.own 2 false]),(1,.sl 89 y7_ o1 .shallow),(2,.sl 4 .bool o2 .shallow)])
  |_,_=>.fail
def ZtZ:Cfg:={ y:=tys,n:=23,h:=3,tab:=[(127,ZbY)] }
theorem Zt7:Zn Tryz.prog 260 ZiG:=by
 refine Zq (C:=ZtZ) Tryz.f260 (Zk Zcz Zr) fun _ a b k he=>?_
 unfold ZiG at he;split at he;rotate_left;exact he.elim
 rename_i i o1 o2
 refine Zs he fun he=>?_
 refine Zg he fun he=>?_
 refine Zi he fun r1_ he=>?_
 refine Zh he (fun he=>?_) fun he=>?_
 ·exact ZJ4
 ·exact Zbd
def ZiH:Con:=fun
  |[.c (.nil),.c (.int .i64 n)],[]=>.opt _ (Zgt n) (fun r=>.ret (.c (.own 900 false)) [(900,.sl 155 y6_ r .shallow)])
  |_,_=>.fail
def Zt0:Cfg:={ y:=tys,n:=27,h:=0,tab:=[] }
theorem Zt8:Zn Tryz.prog 304 ZiH:=by
 refine Zq (C:=Zt0) Tryz.f304 Zr fun _ a b k he=>?_
 unfold ZiH at he;split at he;rotate_left;exact he.elim
 rename_i n
 refine Zs he fun he=>?_
 refine Zh he (fun he=>?_) fun he=>?_
 ·exact(ZDa he).elim
 ·refine Zg he fun he=>?_
  refine Zg he fun he=>?_
  refine Zh he (fun he=>?_) fun he=>?_
  ·refine Zg he fun he=>?_
   refine Zg he fun he=>?_
   refine Zg he fun he=>?_
   exact Zt [(4,[])] (Zj he :) (Za [(900,25)])
  ·exact Zbd
def Zg6:Con:=fun
  |[.c (.imm (.sl (.pair (.int .i64) (.int .i64))) slices)],[]=>.opt _ (Zfw slices) (fun r=>.ret (.c (.own 900 false)) [(900,.sl 155 y6_ r .shallow)])
  |_,_=>.fail
def ZsA:Cfg:={ y:=tys,n:=36,h:=0,tab:=[(304,ZiH)],hand:=[(304,[0])],nils:=[304] }
theorem ZsL:Zn Tryz.prog 290 Zg6:=by
 refine Zq (C:=ZsA) Tryz.f290 (Zk Zt8 Zr) fun _ a b k he=>?_
 unfold Zg6 at he;split at he;rotate_left;exact he.elim
 rename_i slices
 refine Zs he fun he=>?_
 refine Zp (ZbS slices) (fun (size,i)=>(Zm [(0,.c (.imm (.sl y6_) slices)),(3,.c (.int .i64 size)),(9,.c (.imm (.sl y6_) slices)),(10,.c (.int .i64 (slices.length:Int))),(11,.c (.int .i64 i))],[])) he (Za []) ?_
 rintro⟨size,i⟩ _ he
 refine Zh he (fun he=>?_) fun he=>?_
 ·refine Zg he fun he=>?_
  refine Zg he fun he=>?_
  refine Zh he (fun he=>?_) fun he=>?_
  ·exact(ZDa he).elim
  ·exact ZdH
 ·refine Zi he fun r1_ he=>?_
  refine Zp (ZbT slices) (fun (i1,newslice)=>(Zm [(6,.c (.own 10001000 false)),(25,.c (.imm (.sl y6_) slices)),(26,.c (.int .i64 (slices.length:Int))),(27,.c (.int .i64 i1))],[(10001000,.sl 155 y6_ newslice .shallow)])) he (Za [(10001000,25900)]) ?_
  rintro⟨i1,newslice⟩ _ he
  refine Zh he (fun he=>?_) fun he=>?_
  ·refine Zg he fun he=>?_
   refine Zg he fun he=>?_
   refine Zg he fun he=>?_
   exact⟨_,(Zj he :),(Za [(10001000,33)])⟩
  ·exact Zt [(2,[])] (Zj he :) (Za [(900,10001000)])
def Zj1:Con:=fun
  |[.agg [.imm (.pair (.int .i64) (.int .i64)) a_0,.int .i64 a_1],.agg [.imm (.pair (.int .i64) (.int .i64)) b_0,.int .i64 b_1]],[]=>.opt _ (Zia (a_0,a_1) (b_0,b_1)) (fun r=>.ret (.tup [.agg [.own 901 false,.int .i64 r.2.1],.c (.bool r.1)]) [(900,.rc [.own 901 false,.int .i64 r.2.1]),(901,.sl 155 y6_ r.2.2 .shallow)])
  |_,_=>.fail
def ZuY:Cfg:={ y:=tys,n:=29,h:=0,tab:=[(129,ZlB),(223,Zbb),(290,Zg6)],cut:=[1],sched:=[(3,(ZB [0,1,2,3,6,7,8,9,10] (.alt 4 (.alt 5 (.alt 11 (ZB [12,13] (.alt 14 (.first 15 .done) .stop)) .stop) .stop) .stop)))] }
theorem ZI4 {P:Prop} (h:P:=by
  exact Zt [(4,[900]),(5,[])] (Zj he :) (Za [(900,10000000)])):P:=h
theorem Zvf:Zn Tryz.prog 261 Zj1:=by
 refine Zq (C:=ZuY) Tryz.f261 (Zk Zse (Zk ZbH (Zk ZsL Zr))) fun _ a b k he=>?_
 unfold Zj1 at he;split at he;rotate_left;exact he.elim
 rename_i a_0 a_1 b_0 b_1
 refine Zs he fun he=>?_
 refine ZN (Zjq (a_0,a_1) (b_0,b_1)) (fun _=>(Zm [(2,.c (.iptr y7_ (a_0,a_1) 0)),(3,.c (.iptr y7_ (b_0,b_1) 0)),(4,.c (.ptr 10000000 0))],[(10000000,.rc [.nil,.int .i64 (0:Int)])])) he ?_ ?_
 ·rintro⟨⟩ he
  refine Zi he fun r1_ he=>?_
  refine ZD he (fun he=>?_) fun he=>?_
  ·refine Zi he fun r2_ he=>?_
   refine Zh he (fun he=>?_) fun he=>?_
   ·exact ZI4
   ·refine And.intro (by kernel_rfl) ?_
    refine Zg he fun he=>?_
    refine Y4 ?_
    refine Y4 ?_
    refine Zi he fun r5_ he=>?_
    refine Y4 ?_
    refine Zi he fun r6_ he=>?_
    refine Y4 ?_
    exact Zt [(4,[900]),(5,[])] (Zj he :) (Za [(900,10000000),(901,27901)])
  ·exact ZI4
 ·skip
  exact⟨_,he,(Zc9 [(10000000,4)] rfl rfl ⟨⟨rfl,rfl,Y1⟩,Y1⟩ ⟨.inr ⟨2,rfl,⟨rfl,by repeat (first|exact trivial|refine And.intro trivial ?_)⟩,rfl⟩,.inr ⟨3,rfl,⟨rfl,by repeat (first|exact trivial|refine And.intro trivial ?_)⟩,rfl⟩,⟨Y2,rfl⟩,Y1⟩)⟩
def Zf4:Con:=fun
  |[.c (.int .i64 n),.c (.ptr 0 0)],[(0,.rc [.int .i64 o0])]=>.opt _ (Zcn n o0) (fun r=>.ret (.c (.int .i64 r)) [(0,.rc [.int .i64 o0])])
  |_,_=>.fail
def Zrc:Cfg:={ y:=tys,n:=7,h:=1,tab:=[] }
theorem ZrL:Zn Tryz.prog 292 Zf4:=by
 refine Zq (C:=Zrc) Tryz.f292 Zr fun _ a b k he=>?_
 unfold Zf4 at he;split at he;rotate_left;exact he.elim
 rename_i n o0
 refine Zs he fun he=>?_
 refine Zg he fun he=>?_
 exact ZtQ
end
end Go.AE.Y
