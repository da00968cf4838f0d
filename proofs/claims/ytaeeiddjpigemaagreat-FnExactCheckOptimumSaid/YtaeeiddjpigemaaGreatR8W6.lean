/-
  Walks: each function keeps the contract that its model gives. No conditions.
-/
import Derived.Test.YtaeeiddjpigemaaGreatR8Tab
import Derived.Test.YtaeeiddjpigemaaGreatR8W5
import Derived.Test.YtaeeiddjpigemaaGreatR8S
namespace Go.AE.Y
open Go Go.AE Go.Proofs
set_option linter.unusedVariables false
set_option maxHeartbeats 2000000
set_option maxRecDepth 100000
noncomputable section
def Zef:Con:=ZFm 180 Zhd
theorem Zj7:Zl Tryz.prog 179 Zef:=ZGs ZKY Zyj (fun x y=>rfl)
def ZiQ:Con:=fun
  |[.c (.own 0 false)],[(0,.sl 3 (.int .i64) s_ .shallow)]=>.opt _ (Zhm s_) (fun r=>.ret (.c (.own 900 false)) [(0,.dead),(900,.sl 3 y0_ r .shallow)])
  |_,_=>.fail
def ZuH:Cfg:={ y:=tys,n:=61,h:=1,tab:=[],cut:=[14] }
theorem Zu8:Zl Tryz.prog 181 ZiQ:=by
 refine Zn (C:=ZuH) Tryz.f181 Zo fun _ a b k he=>?_
 unfold ZiQ at he;split at he;rotate_left;exact he.elim
 rename_i s_
 refine Zq he fun he=>?_
 refine Zf he (fun he=>?_) fun he=>?_
 ·exact Zy [(2,[])] (Zk he :) (Za [(900,0)])
 ·refine Zr (Ze3 s_) (fun k_=>(Zm [(0,.c (.own 0 false)),(3,.c (.int .i64 k_))],[(0,.sl 3 y0_ s_ .shallow)])) he (Za []) ?_
  rintro k_ _ he
  refine Zf he (fun he=>?_) fun he=>?_
  ·refine And.intro (by kernel_rfl) ?_
   refine Zi he fun he=>?_
   refine Zi he fun he=>?_
   refine Zi he fun he=>?_
   refine Zf he (fun he=>?_) fun he=>?_
   ·refine Zi he fun he=>?_
    refine ZT (Ziv) (fun (k_2,s_2)=>(Zm [(0,.c (.own 0 false)),(3,.c (.int .i64 k_2))],[(0,.sl 3 y0_ s_2 .shallow)])) he ?_ ?_
    ·rintro⟨k_2,s_2⟩ he
     refine Zi he fun he=>?_
     refine Zi he fun he=>?_
     exact Zy [(2,[])] (Zk he :) (Za [(900,59)])
    ·skip
     refine Zr (Ze4 k_) (fun (k_1,k2_,s_1)=>(Zm [(0,.c (.own 0 false)),(3,.c (.int .i64 k_1)),(4,.c (.view 0 k_)),(5,.c (.int .i64 k2_))],[(0,.sl 3 y0_ s_1 .shallow)])) he (Za []) ?_
     rintro⟨k_1,k2_,s_1⟩ _ he
     refine Zf he (fun he=>?_) fun he=>?_
     ·refine And.intro (by kernel_rfl) ?_
      refine Zi he fun he=>?_
      refine Zi he fun he=>?_
      refine Zi he fun he=>?_
      refine Zf he (fun he=>?_) fun he=>?_
      ·exact ZuA
      ·exact Zdh
     ·exact⟨_,(ZcJ he :),(Za [])⟩
   ·exact Zdh
  ·exact Zy [(2,[])] (Zk he :) (Za [(900,0)])
def Zkh:Con:=fun
  |[.c (.imm (.int .i64) lits)],[]=>.opt _ (ZjH lits) (fun r=>.ret (.tup [.agg [.own 901 false,.int .i64 r.2.1],.c (.bool r.1)]) [(900,.rc [.own 901 false,.int .i64 r.2.1]),(901,.sl 155 y5_ r.2.2 .shallow)])
  |_,_=>.fail
def Zzn:Cfg:={ y:=tys,n:=52,h:=0,tab:=[(75,ZeI),(177,Zf1),(178,ZdA),(179,Zef),(181,ZiQ)],hand:=[(179,[0]),(181,[0])] }
theorem Ztg:Zl Tryz.prog 119 Zkh:=by
 refine Zn (C:=Zzn) Tryz.f119 (Zj Zk6 (Zj ZmY (Zj Zim (Zj Zj7 (Zj Zu8 Zo))))) fun _ a b k he=>?_
 unfold Zkh at he;split at he;rotate_left;exact he.elim
 rename_i lits
 refine Zq he fun he=>?_
 refine Zf he (fun he=>?_) fun he=>?_
 ·exact Zon
 ·refine Zr (ZiU lits) (fun i=>(Zm [(0,.c (.imm y0_ lits)),(2,.c (.ptr 10000000 0)),(14,.c (.imm y0_ lits)),(15,.c (.int .i64 (lits.length:Int))),(16,.c (.int .i64 i))],[(10000000,.rc [.nil,.int .i64 (0:Int)])])) he (Za [(10000000,2)]) ?_
  rintro i _ he
  refine Zf he (fun he=>?_) fun he=>?_
  ·refine Zi he fun he=>?_
   refine Zh he fun r1_ he=>?_
   refine ZC he (fun he=>?_) fun he=>?_
   ·refine Zi he fun he=>?_
    refine Zh he fun r2_ he=>?_
    refine Zf he (fun he=>?_) fun he=>?_
    ·exact ZxA
    ·exact Zdh
   ·exact ZxA
  ·refine Zh he fun r3_ he=>?_
   refine Zh he fun r4_ he=>?_
   refine Zh he fun r5_ he=>?_
   refine Zr (ZiV r5_) (fun (i1,c_0)=>(Zm [(2,.c (.ptr 10001000 0)),(7,.c (.ptr 10001001 0)),(37,.c (.own 10001002 false)),(38,.c (.int .i64 (r5_.length:Int))),(39,.c (.int .i64 i1))],[(10001000,.rc [.nil,.int .i64 (0:Int)]),(10001001,.rc [.own 10001003 false,.int .i64 (1:Int)]),(10001002,.sl 3 y0_ r5_ .shallow),(10001003,.sl 155 y5_ c_0 .shallow)])) he (Za [(10001000,10000000),(10001001,7),(10001002,38900)]) ?_
   rintro⟨i1,c_0⟩ _ he
   refine Zf he (fun he=>?_) fun he=>?_
   ·refine Zi he fun he=>?_
    refine Zi he fun he=>?_
    refine Zi he fun he=>?_
    exact⟨_,(Zk he :),(Za [(10001003,48)])⟩
   ·exact Zy [(2,[900]),(3,[])] (Zk he :) (Za [(900,10001000),(901,10001003)])
def ZiN:Con:=fun
  |[.c (.imm (.int .i64) vars)],[]=>.opt _ (Zij vars) (fun r=>.ret (.agg [.own 901 false,.int .i64 r.1]) [(900,.rc [.own 901 false,.int .i64 r.1]),(901,.sl 155 y5_ r.2 .shallow)])
  |_,_=>.fail
def ZyC:Cfg:={ y:=tys,n:=26,h:=0,tab:=[] }
theorem ZrT:Zl Tryz.prog 120 ZiN:=by
 refine Zn (C:=ZyC) Tryz.f120 Zo fun _ a b k he=>?_
 unfold ZiN at he;split at he;rotate_left;exact he.elim
 rename_i vars
 refine Zq he fun he=>?_
 refine Zi he fun he=>?_
 refine Zr (Zfo vars) (fun (i,c_0)=>(Zm [(2,.c (.ptr 10000000 0)),(3,.c (.ptr 10000001 0)),(10,.c (.imm y0_ vars)),(11,.c (.int .i64 (vars.length:Int))),(12,.c (.int .i64 i))],[(10000000,.rc [.nil,.int .i64 (0:Int)]),(10000001,.rc [.own 10000002 false,.int .i64 ((vars.length:Int) - (1:Int))]),(10000002,.sl 155 y5_ c_0 .shallow)])) he (Za [(10000000,2),(10000001,3)]) ?_
 rintro⟨i,c_0⟩ _ he
 refine Zf he (fun he=>?_) fun he=>?_
 ·refine Zi he fun he=>?_
  refine Zi he fun he=>?_
  refine Zi he fun he=>?_
  refine Zi he fun he=>?_
  exact⟨_,(Zk he :),(Za [(10000002,22)])⟩
 ·exact Zy [(2,[900])] (Zk he :) (Za [(900,10000000),(901,10000002)])
def Z1:Con:=fun
  |[.agg [.imm (.pair (.int .i64) (.int .i64)) c__0,.int .i64 c__1]],[]=>.opt _ (ZV (c__0,c__1)) (fun r=>.ret (.c (.bool r)) [])
  |_,_=>.fail
def Ztz:Cfg:={ y:=tys,n:=37,h:=0,tab:=[(127,ZbF),(170,Zfm),(177,Zf1)] }
theorem Zbk:Zl Tryz.prog 223 Z1:=by
 refine Zn (C:=Ztz) Tryz.f223 (Zj Zb5 (Zj Zl1 (Zj ZmY Zo))) fun _ a b k he=>?_
 unfold Z1 at he;split at he;rotate_left;exact he.elim
 rename_i c__0 c__1
 refine Zq he fun he=>?_
 refine Zr (ZgY (c__0,c__1)) (fun (before,i)=>(Zm [(1,.c (.ptr 10000000 0)),(3,.c (.int .i64 before)),(7,.c (.imm y5_ (c__0,c__1).1)),(8,.c (.int .i64 ((c__0,c__1).1.length:Int))),(9,.c (.int .i64 i))],[(10000000,.rc [.imm y5_ (c__0,c__1).1,.int .i64 (c__0,c__1).2])])) he (Za [(10000000,1)]) ?_
 rintro⟨before,i⟩ _ he
 refine Zf he (fun he=>?_) fun he=>?_
 ·refine Zi he fun he=>?_
  refine Zh he fun r1_ he=>?_
  refine ZC he (fun he=>?_) fun he=>?_
  ·refine Zh he fun r2_ he=>?_
   refine ZC he (fun he=>?_) fun he=>?_
   ·refine Zh he fun r3_ he=>?_
    refine Zf he (fun he=>?_) fun he=>?_
    ·exact ZA
    ·refine Zh he fun r4_ he=>?_
     exact Zdh
   ·exact ZA
  ·exact ZA
 ·refine Zh he fun r5_ he=>?_
  exact ZA
def Zfe:Con:=fun
  |[.agg [.own 0 false,.int .i64 c_1]],[(0,.sl 155 (.pair (.int .i64) (.int .i64)) o0 .shallow)]=>.opt _ (Zcr c_1 o0) (fun r=>.ret (.tup [.agg [.own 901 false,.int .i64 r.2.1],.c (.bool r.1)]) [(0,.dead),(900,.rc [.own 901 false,.int .i64 r.2.1]),(901,.sl 155 y5_ r.2.2 .shallow)])
  |_,_=>.fail
def Zp2:Cfg:={ y:=tys,n:=9,h:=1,tab:=[(223,Z1)] }
theorem Zqq:Zl Tryz.prog 187 Zfe:=by
 refine Zn (C:=Zp2) Tryz.f187 (Zj Zbk Zo) fun _ a b k he=>?_
 unfold Zfe at he;split at he;rotate_left;exact he.elim
 rename_i c_1 o0
 refine Zq he fun he=>?_
 refine Zh he fun r1_ he=>?_
 refine Zf he (fun he=>?_) fun he=>?_
 ·exact Zon
 ·exact Zy [(2,[900]),(3,[])] (Zk he :) (Za [(900,2),(901,0)])
def ZjF:Con:=fun
  |[.c (.imm (.pair (.int .i64) (.int .i64)) a0),.c (.int .i64 a1)],[]=>.opt _ (ZfU a0 a1) (fun r=>.ret (.tup [.agg [.own 901 false,.int .i64 r.2.1],.c (.bool r.1)]) [(900,.rc [.own 901 false,.int .i64 r.2.1]),(901,.sl 155 y5_ r.2.2 .shallow)])
  |_,_=>.fail
def Zrm:Sched:=Zv [7,8] (.alt 9 .done .stop)
def Zrn:Sched:=.alt 4 Zrm .stop
def Zro:Sched:=Zv [6,7] (.alt 8 .done .stop)
def Zrp:Sched:=.alt 3 Zro .stop
def ZCP:Cfg:={ y:=tys,n:=84,h:=0,tab:=[(187,Zfe)],cut:=[10,18,20],hand:=[(187,[0])],sched:=[(7,(Zv [0,5] (.alt 1 (Zv [2,3] (.alt 4 (.alt 6 Zrm .stop) (.alt 6 Zrn .stop))) (.alt 6 (.alt 1 (Zv [2,3] Zrn) .stop) .stop)))),(8,(Zv [0,4] (.alt 1 (.first 2 (.alt 3 (.alt 5 Zro .stop) (.alt 5 Zrp .stop))) (.alt 5 (.alt 1 (.first 2 Zrp) .stop) .stop))))],nils:=[187] }
theorem ZB4 {P:Prop} (h:P:=by
  refine Y4 ?_
  refine And.intro hq3 ?_
  refine And.intro hq2 ?_
  exact ZiB):P:=h
theorem Zqr:Zl Tryz.prog 129 ZjF:=by
 refine Zn (C:=ZCP) Tryz.f129 (Zj Zqq Zo) fun _ a b k he=>?_
 unfold ZjF at he;split at he;rotate_left;exact he.elim
 rename_i a0 a1
 refine Zq he fun he=>?_
 refine ZT (Zik) (fun (i3,i4)=>(Zm [(1,.c (.int .i64 i3)),(4,.c (.ptr 10001000 0)),(6,.c (.eptr 10001001 (0:Int) 0))],[(10001000,.rc [.nil,.int .i64 (0:Int)]),(10001001,.sl 199 y0_ i4 .shallow)])) he ?_ ?_
 ·rintro⟨i3,i4⟩ he
  refine ZT (Zlw) (fun (i9,i_03)=>(Zm [(1,.c (.int .i64 i9)),(4,.c (.ptr 10005000 0)),(9,.c (.ptr 10005001 0))],[(10005000,.rc [.nil,.int .i64 (0:Int)]),(10005001,.rc [.own 10005002 false,.int .i64 (0:Int)]),(10005002,.sl 155 y5_ i_03 .shallow)])) he ?_ ?_
  ·rintro⟨i9,i_03⟩ he
   refine Zh he fun r1_ he=>?_
   exact Zy [(4,[900]),(5,[])] (Zk he :) (Za [(900,10005000),(901,82901)])
  ·skip
   refine Zi he fun he=>?_
   refine Zr (Zeq i4) (fun (i5,i6,i_01)=>(Zm [(1,.c (.int .i64 i5)),(4,.c (.ptr 10002000 0)),(9,.c (.ptr 10002001 0)),(44,.agg [.int .i64 (i4.getD 0 0),.int .i64 (i4.getD 1 0),.int .i64 (i4.getD 2 0),.int .i64 (i4.getD 3 0),.int .i64 (i4.getD 4 0),.int .i64 (i4.getD 5 0),.int .i64 (i4.getD 6 0),.int .i64 (i4.getD 7 0),.int .i64 (i4.getD 8 0),.int .i64 (i4.getD 9 0),.int .i64 (i4.getD 10 0),.int .i64 (i4.getD 11 0),.int .i64 (i4.getD 12 0)]),(45,.c (.int .i64 i6))],[(10002000,.rc [.nil,.int .i64 (0:Int)]),(10002001,.rc [.own 10002002 false,.int .i64 (0:Int)]),(10002002,.sl 155 y5_ i_01 .shallow)])) he (Za [(10002000,10001000),(10002001,9)]) ?_
   rintro⟨i5,i6,i_01⟩ _ he
   refine Zf he (fun he=>?_) fun he=>?_
   ·refine Zi he fun he=>?_
    refine Zf he (fun he=>?_) fun he=>?_
    ·refine Zi he fun he=>?_
     refine Zi he fun he=>?_
     exact⟨_,(Zk he :),(Za [(10002002,58)])⟩
    ·refine Zf he (fun he=>?_) fun he=>?_
     ·refine ZT (Zlx i5 i6) (fun (i8,i_02)=>(Zm [(1,.c (.int .i64 i5)),(4,.c (.ptr 10004000 0)),(9,.c (.ptr 10004001 0)),(11,.c (.int .i64 i8)),(44,.agg [.int .i64 (i4.getD 0 0),.int .i64 (i4.getD 1 0),.int .i64 (i4.getD 2 0),.int .i64 (i4.getD 3 0),.int .i64 (i4.getD 4 0),.int .i64 (i4.getD 5 0),.int .i64 (i4.getD 6 0),.int .i64 (i4.getD 7 0),.int .i64 (i4.getD 8 0),.int .i64 (i4.getD 9 0),.int .i64 (i4.getD 10 0),.int .i64 (i4.getD 11 0),.int .i64 (i4.getD 12 0)]),(45,.c (.int .i64 i6))],[(10004000,.rc [.nil,.int .i64 (0:Int)]),(10004001,.rc [.own 10004002 false,.int .i64 (0:Int)]),(10004002,.sl 155 y5_ i_02 .shallow)])) he ?_ ?_
      ·rintro⟨i8,i_02⟩ he
       refine Zi he fun he=>?_
       refine Zi he fun he=>?_
       exact⟨_,(Zk he :),(Za [(10002000,10004000),(10002001,10004001),(10002002,10004002)])⟩
      ·skip
       refine Zi he fun he=>?_
       refine Zi he fun he=>?_
       refine Zi he fun he=>?_
       exact⟨_,he,(Za [(10004000,10002000),(10004001,10002001),(10004002,71)])⟩
     ·exact Zdh
   ·exact⟨_,(ZcJ he :),(Za [(10005000,10002000),(10005001,10002001),(10005002,10002002)])⟩
 ·skip
  refine Zr (ZfY a0) (fun (i,i1,i2)=>(Zm [(1,.c (.int .i64 i)),(4,.c (.ptr 10000000 0)),(6,.c (.eptr 10000001 (0:Int) 0)),(12,.c (.imm y5_ a0)),(13,.c (.int .i64 (a0.length:Int))),(14,.c (.int .i64 i1))],[(10000000,.rc [.nil,.int .i64 (0:Int)]),(10000001,.sl 199 y0_ i2 .shallow)])) he (Za [(10000000,4),(10000001,6)]) ?_
  rintro⟨i,i1,i2⟩ _ he
  refine Zf he (fun he=>?_) fun he=>?_
  ·refine Zi he fun he=>?_
   refine Zf he (fun he=>?_) fun he=>?_
   ·refine Zi he fun he=>?_
    refine And.intro (by kernel_rfl) ?_
    obtain⟨hq1,he⟩:=ZG he
    obtain⟨hq2,he⟩:=ZG he
    obtain⟨hq3,he⟩:=ZG he
    obtain⟨hq4,he⟩:=ZG he
    refine Y5 ?_ ?_
    ·skip
     refine And.intro hq1 ?_
     refine And.intro hq2 ?_
     refine Y5 ?_ ?_
     ·skip
      exact ZB4
     ·skip
      exact ZB4
    ·skip
     refine Y4 ?_
     refine And.intro hq1 ?_
     refine And.intro hq2 ?_
     exact ZB4
   ·refine And.intro (by kernel_rfl) ?_
    obtain⟨hq1,he⟩:=ZG he
    obtain⟨hq2,he⟩:=ZG he
    obtain⟨hq3,he⟩:=ZG he
    exact ZJS
  ·exact⟨_,(ZcJ he :),(Za [(10001000,10000000),(10001001,10000001)])⟩
def ZqF:Con:=ZFn
theorem Zyl:Zl Tryz.prog 182 ZqF:=ZGt ZKZ
def ZkP:Con:=fun
  |[.c (.imm (.int .i64) s1_),.c (.imm (.int .i64) s2_)],[]=>.opt _ (Zi5 s1_ s2_) (fun r=>.ret (.c (.bool r)) [])
  |_,_=>.fail
def Zwv:Cfg:={ y:=tys,n:=26,h:=0,tab:=[] }
theorem ZwX:Zl Tryz.prog 242 ZkP:=by
 refine Zn (C:=Zwv) Tryz.f242 Zo fun _ a b k he=>?_
 unfold ZkP at he;split at he;rotate_left;exact he.elim
 rename_i s1_ s2_
 refine Zq he fun he=>?_
 refine Zf he (fun he=>?_) fun he=>?_
 ·exact Z6
 ·refine Zr (ZgD s1_ s2_) (fun i=>(Zm [(0,.c (.imm y0_ s1_)),(1,.c (.imm y0_ s2_)),(12,.c (.int .i64 (s1_.length:Int))),(13,.c (.int .i64 i))],[])) he (Za []) ?_
  exact ZAu
def ZjX:Con:=fun
  |[.c (.imm (.int .i64) row),.c (.ptr 0 0)],[(0,.rc [.imm (.int .i64) o0])]=>.opt _ (ZlY row o0) (fun r=>.ret (.c (.bool r)) [(0,.rc [.imm y0_ o0])])
  |_,_=>.fail
def ZvX:Cfg:={ y:=tys,n:=7,h:=1,tab:=[(242,ZkP)] }
theorem Zwe:Zl Tryz.prog 241 ZjX:=by
 refine Zn (C:=ZvX) Tryz.f241 (Zj ZwX Zo) fun _ a b k he=>?_
 unfold ZjX at he;split at he;rotate_left;exact he.elim
 rename_i row o0
 refine Zq he fun he=>?_
 refine Zh he fun r1_ he=>?_
 exact ZoZ
def Zce:Con:=fun
  |[.c (.imm (.sl (.int .i64)) s_),.c (.fn 241 [0])],[(0,.rc [.imm (.int .i64) o0])]=>.opt _ (ZcA s_ o0) (fun r=>.ret (.c (.int .i64 r)) [(0,.rc [.imm y0_ o0])])
  |_,_=>.fail
def ZhL:Cfg:={ y:=tys,n:=19,h:=1,tab:=[(241,ZjX)] }
theorem ZhN:Zl Tryz.prog 250 Zce:=by
 refine Zn (C:=ZhL) Tryz.f250 (Zj Zwe Zo) fun _ a b k he=>?_
 unfold Zce at he;split at he;rotate_left;exact he.elim
 rename_i s_ o0
 refine Zq he fun he=>?_
 refine Zr (Z9 s_ o0) (fun i=>(Zm [(0,.c (.imm (.sl y0_) s_)),(1,.c (.fn 241 [0])),(7,.c (.int .i64 (s_.length:Int))),(8,.c (.int .i64 i))],[(0,.rc [.imm y0_ o0])])) he (Za []) ?_
 exact ZxE
def Zb3:Con:=fun
  |[.c (.imm (.sl (.int .i64)) s_),.c (.fn 241 [0])],[(0,.rc [.imm (.int .i64) o0])]=>.opt _ (Zcc s_ o0) (fun r=>.ret (.c (.bool r)) [(0,.rc [.imm y0_ o0])])
  |_,_=>.fail
def ZgN:Cfg:={ y:=tys,n:=9,h:=1,tab:=[(250,Zce)] }
theorem ZgZ:Zl Tryz.prog 200 Zb3:=by
 refine Zn (C:=ZgN) Tryz.f200 (Zj ZhN Zo) fun _ a b k he=>?_
 unfold Zb3 at he;split at he;rotate_left;exact he.elim
 rename_i s_ o0
 refine Zq he fun he=>?_
 refine Zh he fun r1_ he=>?_
 exact ZK
def ZhO:Con:=fun
  |[.agg [.int .i64 r__0,.imm (.int .i64) r__1,.imm (.int .i64) r__2,.int .i64 r__3,.imm (.sl (.int .i64)) r__4],.c (.imm (.int .i64) vals)],[]=>.opt _ (Zhe (r__0,(r__1,(r__2,(r__3,r__4)))) vals) (fun r=>.ret (.c (.bool r)) [])
  |_,_=>.fail
def Zyb:Cfg:={ y:=tys,n:=63,h:=0,tab:=[(178,ZdA),(200,Zb3)] }
theorem ZqI:Zl Tryz.prog 184 ZhO:=by
 refine Zn (C:=Zyb) Tryz.f184 (Zj Zim (Zj ZgZ Zo)) fun _ a b k he=>?_
 unfold ZhO at he;split at he;rotate_left;exact he.elim
 rename_i r__0 r__1 r__2 r__3 r__4 vals
 refine Zq he fun he=>?_
 refine Zf he (fun he=>?_) fun he=>?_
 ·refine Zr (Zk3 (r__0,(r__1,(r__2,(r__3,r__4)))) vals) (fun (sum,i)=>(Zm [(2,.c (.ptr 10000000 0)),(5,.c (.int .i64 sum)),(14,.c (.imm y0_ vals)),(15,.c (.int .i64 (vals.length:Int))),(16,.c (.int .i64 i))],[(10000000,.rc [.int .i64 (r__0,(r__1,(r__2,(r__3,r__4)))).1,.imm y0_ (r__0,(r__1,(r__2,(r__3,r__4)))).2.1,.imm y0_ (r__0,(r__1,(r__2,(r__3,r__4)))).2.2.1,.int .i64 (r__0,(r__1,(r__2,(r__3,r__4)))).2.2.2.1,.imm (.sl y0_) (r__0,(r__1,(r__2,(r__3,r__4)))).2.2.2.2])])) he (Za [(10000000,2)]) ?_
  rintro⟨sum,i⟩ _ he
  refine Zf he (fun he=>?_) fun he=>?_
  ·exact ZxC
  ·exact ZK
 ·refine Zf he (fun he=>?_) fun he=>?_
  ·refine Zr (ZeO vals) (fun i1=>(Zm [(3,.c (.ptr 10001000 0)),(37,.c (.imm y0_ vals)),(38,.c (.int .i64 (vals.length:Int))),(39,.c (.int .i64 i1))],[(10001000,.rc [.imm y0_ vals])])) he (Za [(10001000,3)]) ?_
   rintro i1 _ he
   refine Zf he (fun he=>?_) fun he=>?_
   ·refine Zi he fun he=>?_
    exact ZJB
   ·exact ZK
  ·refine Zf he (fun he=>?_) fun he=>?_
   ·exact Zuz
   ·exact ZJA
def Zdt:Con:=fun
  |[.c (.own 3 false),.c (.ptr 0 0),.c (.ptr 1 0),.c (.ptr 2 0)],[(0,.rc [.int .i64 o0_0,.imm (.int .i64) o0_1,.imm (.int .i64) o0_2,.int .i64 o0_3,.imm (.sl (.int .i64)) o0_4]),(1,.rc [.imm (.int .i64) o1_0,.imm (.pair (.int .i64) (.pair (.sl (.int .i64)) (.pair (.sl (.int .i64)) (.pair (.int .i64) (.sl (.sl (.int .i64))))))) o1_1]),(2,.rc [.own 4 false]),(3,.sl 3 (.int .i64) vals .shallow),(4,.sl 89 (.pair (.sl (.pair (.int .i64) (.int .i64))) (.int .i64)) o4 (.deep true .no))]=>.opt _ (ZcY (o0_0,(o0_1,(o0_2,(o0_3,o0_4)))) (o1_0,o1_1) vals o4) (fun r=>.ret (.c (.bool r.1)) [(0,.rc [.int .i64 o0_0,.imm y0_ o0_1,.imm y0_ o0_2,.int .i64 o0_3,.imm (.sl y0_) o0_4]),(1,.rc [.imm y0_ o1_0,.imm y4_ o1_1]),(2,.rc [.own 900 false]),(3,.sl 3 y0_ vals .shallow),(4,.dead),(900,.sl 89 y6_ r.2 (.deep true .no))])
  |_,_=>.fail
def ZeV:Sched:=.alt 7 (.first 8 (.alt 9 (.alt 10 (.first 11 .done) .stop) .stop)) .stop
def ZmM:Cfg:={ y:=tys,n:=44,h:=5,tab:=[(119,Zkh),(128,Zdd),(184,ZhO)],cut:=[8],deep:=[42],sched:=[(6,(Zv [0,2,3,4,5] (.alt 1 (.alt 6 ZeV .stop) (.alt 6 (.alt 1 ZeV .stop) .stop))))] }
theorem ZHo {P:Prop} (h:P:=by
  skip
  refine Y4 ?_
  refine Y4 ?_
  refine⟨r4_,hq1,?_⟩
  refine And.intro hq2 ?_
  refine Y4 ?_
  refine Y4 ?_
  refine And.intro hq3 ?_
  refine Zi he fun he=>?_
  exact⟨_,(Zk he :),(Za [(10000000,33)])⟩):P:=h
theorem ZmX:Zl Tryz.prog 183 Zdt:=by
 refine Zn (C:=ZmM) Tryz.f183 (Zj Ztg (Zj ZfI (Zj ZqI Zo))) fun _ a b k he=>?_
 unfold Zdt at he;split at he;rotate_left;exact he.elim
 rename_i o0_0 o0_1 o0_2 o0_3 o0_4 o1_0 o1_1 vals o4
 refine Zq he fun he=>?_
 refine Zh he fun r1_ he=>?_
 refine Zf he (fun he=>?_) fun he=>?_
 ·refine ZT (ZbR o4) (fun lits1=>(Zm [(3,.c (.ptr 2 0)),(6,.c (.own 10001000 false))],[(0,.rc [.int .i64 (o0_0,(o0_1,(o0_2,(o0_3,o0_4)))).1,.imm y0_ (o0_0,(o0_1,(o0_2,(o0_3,o0_4)))).2.1,.imm y0_ (o0_0,(o0_1,(o0_2,(o0_3,o0_4)))).2.2.1,.int .i64 (o0_0,(o0_1,(o0_2,(o0_3,o0_4)))).2.2.2.1,.imm (.sl y0_) (o0_0,(o0_1,(o0_2,(o0_3,o0_4)))).2.2.2.2]),(1,.rc [.imm y0_ (o1_0,o1_1).1,.imm y4_ (o1_0,o1_1).2]),(2,.rc [.own 4 false]),(3,.sl 3 y0_ vals .shallow),(4,.sl 89 y6_ o4 (.deep true .no)),(10001000,.sl 3 y0_ lits1 .shallow)])) he ?_ ?_
  ·rintro lits1 he
   refine Zh he fun r5_ he=>?_
   refine Zi he fun he=>?_
   exact Zy [(5,[])] (Zk he :) (Za [(900,43)])
  ·skip
   refine Zr (ZbS (o0_0,(o0_1,(o0_2,(o0_3,o0_4)))) (o1_0,o1_1) vals o4) (fun (i,lits)=>(Zm [(0,.c (.own 3 false)),(2,.c (.ptr 1 0)),(3,.c (.ptr 2 0)),(6,.c (.own 10000000 false)),(16,.c (.imm y0_ (o0_0,(o0_1,(o0_2,(o0_3,o0_4)))).2.1)),(17,.c (.int .i64 ((o0_0,(o0_1,(o0_2,(o0_3,o0_4)))).2.1.length:Int))),(18,.c (.int .i64 i))],[(0,.rc [.int .i64 (o0_0,(o0_1,(o0_2,(o0_3,o0_4)))).1,.imm y0_ (o0_0,(o0_1,(o0_2,(o0_3,o0_4)))).2.1,.imm y0_ (o0_0,(o0_1,(o0_2,(o0_3,o0_4)))).2.2.1,.int .i64 (o0_0,(o0_1,(o0_2,(o0_3,o0_4)))).2.2.2.1,.imm (.sl y0_) (o0_0,(o0_1,(o0_2,(o0_3,o0_4)))).2.2.2.2]),(1,.rc [.imm y0_ (o1_0,o1_1).1,.imm y4_ (o1_0,o1_1).2]),(2,.rc [.own 4 false]),(3,.sl 3 y0_ vals .shallow),(4,.sl 89 y6_ o4 (.deep true .no)),(10000000,.sl 3 y0_ lits .shallow)])) he (Za []) ?_
   rintro⟨i,lits⟩ _ he
   refine Zf he (fun he=>?_) fun he=>?_
   ·refine Zi he fun he=>?_
    refine And.intro (by kernel_rfl) ?_
    refine Zi he fun he=>?_
    obtain⟨r4_,hq1,he⟩:=Z5 he
    obtain⟨hq2,he⟩:=ZG he
    obtain⟨hq3,he⟩:=ZG he
    refine Y5 ?_ ?_
    ·exact ZHo
    ·exact ZHo
   ·exact⟨_,(ZcJ he :),(Za [(10001000,10000000)])⟩
 ·exact Zy [(5,[])] (Zk he :) (Za [(900,4)])
def Zck:Con:=fun
  |[.c (.imm (.int .i64) sizes),.c (.imm (.int .i64) from_),.c (.fn 183 [0,1,2])],[(0,.rc [.int .i64 o0_0,.imm (.int .i64) o0_1,.imm (.int .i64) o0_2,.int .i64 o0_3,.imm (.sl (.int .i64)) o0_4]),(1,.rc [.imm (.int .i64) o1_0,.imm (.pair (.int .i64) (.pair (.sl (.int .i64)) (.pair (.sl (.int .i64)) (.pair (.int .i64) (.sl (.sl (.int .i64))))))) o1_1]),(2,.rc [.nil])]=>.opt _ (ZbP sizes from_ (o0_0,(o0_1,(o0_2,(o0_3,o0_4)))) (o1_0,o1_1)) (fun r=>.ret (.tup []) [(0,.rc [.int .i64 o0_0,.imm y0_ o0_1,.imm y0_ o0_2,.int .i64 o0_3,.imm (.sl y0_) o0_4]),(1,.rc [.imm y0_ o1_0,.imm y4_ o1_1]),(2,.rc [.own 900 false]),(900,.sl 89 y6_ r (.deep true .no))])
  |_,_=>.fail
def ZhY:Cfg:={ y:=tys,n:=42,h:=3,tab:=[(75,ZeI),(183,Zdt)],cut:=[6],hand:=[(183,[0])] }
theorem Zil:Zl Tryz.prog 72 Zck:=by
 refine Zn (C:=ZhY) Tryz.f72 (Zj Zk6 (Zj ZmX Zo)) fun _ a b k he=>?_
 unfold Zck at he;split at he;rotate_left;exact he.elim
 rename_i sizes from_ o0_0 o0_1 o0_2 o0_3 o0_4 o1_0 o1_1
 refine Zq he fun he=>?_
 refine Zh he fun r1_ he=>?_
 refine Zr (Zby sizes (o0_0,(o0_1,(o0_2,(o0_3,o0_4)))) (o1_0,o1_1)) (fun (cells2,cap)=>(Zm [(0,.c (.imm y0_ sizes)),(2,.c (.fn 183 [0,1,2])),(6,.c (.own 10000000 false))],[(0,.rc [.int .i64 (o0_0,(o0_1,(o0_2,(o0_3,o0_4)))).1,.imm y0_ (o0_0,(o0_1,(o0_2,(o0_3,o0_4)))).2.1,.imm y0_ (o0_0,(o0_1,(o0_2,(o0_3,o0_4)))).2.2.1,.int .i64 (o0_0,(o0_1,(o0_2,(o0_3,o0_4)))).2.2.2.1,.imm (.sl y0_) (o0_0,(o0_1,(o0_2,(o0_3,o0_4)))).2.2.2.2]),(1,.rc [.imm y0_ (o1_0,o1_1).1,.imm y4_ (o1_0,o1_1).2]),(2,.rc [.own 10000001 false]),(10000000,.sl 3 y0_ cells2 .shallow),(10000001,.sl 89 y6_ cap (.deep true .no))])) he (Za [(10000000,10900)]) ?_
 rintro⟨cells2,cap⟩ _ he
 refine Zh he fun r3_ he=>?_
 refine Zf he (fun he=>?_) fun he=>?_
 ·refine Zi he fun he=>?_
  refine ZT (Zbx r3_) (fun (i3,cells4)=>(Zm [(0,.c (.imm y0_ sizes)),(2,.c (.fn 183 [0,1,2])),(6,.c (.own 10004000 false)),(7,.c (.int .i64 i3))],[(0,.rc [.int .i64 (o0_0,(o0_1,(o0_2,(o0_3,o0_4)))).1,.imm y0_ (o0_0,(o0_1,(o0_2,(o0_3,o0_4)))).2.1,.imm y0_ (o0_0,(o0_1,(o0_2,(o0_3,o0_4)))).2.2.1,.int .i64 (o0_0,(o0_1,(o0_2,(o0_3,o0_4)))).2.2.2.1,.imm (.sl y0_) (o0_0,(o0_1,(o0_2,(o0_3,o0_4)))).2.2.2.2]),(1,.rc [.imm y0_ (o1_0,o1_1).1,.imm y4_ (o1_0,o1_1).2]),(2,.rc [.own 10004001 false]),(10004000,.sl 3 y0_ cells4 .shallow),(10004001,.sl 89 y6_ r3_.2 (.deep true .no))])) he ?_ ?_
  ·rintro⟨i3,cells4⟩ he
   refine Zf he (fun he=>?_) fun he=>?_
   ·exact Zy [] (Zk he :) (Za [(900,10004001)] (l:=[]) (st':=[(0,.rc [.int .i64 o0_0,.imm y0_ o0_1,.imm y0_ o0_2,.int .i64 o0_3,.imm (.sl y0_) o0_4]),(1,.rc [.imm y0_ o1_0,.imm y4_ o1_1]),(2,.rc [.own 900 false]),(900,.sl 89 y6_ r3_.2 (.deep true .no))]))
   ·refine Zi he fun he=>?_
    refine Zi he fun he=>?_
    refine Zi he fun he=>?_
    exact⟨_,(Zk he :),(Za [(10000000,10004000),(10000001,10004001)])⟩
  ·skip
   refine Zr (Zcf sizes r3_) (fun (i2,cells3)=>(Zm [(0,.c (.imm y0_ sizes)),(2,.c (.fn 183 [0,1,2])),(6,.c (.own 10003000 false)),(7,.c (.int .i64 i2))],[(0,.rc [.int .i64 (o0_0,(o0_1,(o0_2,(o0_3,o0_4)))).1,.imm y0_ (o0_0,(o0_1,(o0_2,(o0_3,o0_4)))).2.1,.imm y0_ (o0_0,(o0_1,(o0_2,(o0_3,o0_4)))).2.2.1,.int .i64 (o0_0,(o0_1,(o0_2,(o0_3,o0_4)))).2.2.2.1,.imm (.sl y0_) (o0_0,(o0_1,(o0_2,(o0_3,o0_4)))).2.2.2.2]),(1,.rc [.imm y0_ (o1_0,o1_1).1,.imm y4_ (o1_0,o1_1).2]),(2,.rc [.own 10003001 false]),(10003000,.sl 3 y0_ cells3 .shallow),(10003001,.sl 89 y6_ r3_.2 (.deep true .no))])) he (Za [(10003000,10000000),(10003001,13900)]) ?_
   rintro⟨i2,cells3⟩ _ he
   refine And.intro (by kernel_rfl) ?_
   refine Zf he (fun he=>?_) fun he=>?_
   ·refine Zi he fun he=>?_
    refine Zi he fun he=>?_
    refine Zf he (fun he=>?_) fun he=>?_
    ·exact Zx7
    ·exact⟨_,(ZcJ he :),(Za [(10004000,10003000),(10004001,10003001)])⟩
   ·exact⟨_,(ZcJ he :),(Za [(10004000,10003000),(10004001,10003001)])⟩
 ·exact Zy [] (Zk he :) (Za [(900,13900)] (l:=[]) (st':=[(0,.rc [.int .i64 o0_0,.imm y0_ o0_1,.imm y0_ o0_2,.int .i64 o0_3,.imm (.sl y0_) o0_4]),(1,.rc [.imm y0_ o1_0,.imm y4_ o1_1]),(2,.rc [.own 900 false]),(900,.sl 89 y6_ r3_.2 (.deep true .no))]))
def ZgQ:Con:=fun
  |[.agg [.imm (.int .i64) a0_0,.imm (.pair (.int .i64) (.pair (.sl (.int .i64)) (.pair (.sl (.int .i64)) (.pair (.int .i64) (.sl (.sl (.int .i64))))))) a0_1],.agg [.int .i64 a1_0,.imm (.int .i64) a1_1,.imm (.int .i64) a1_2,.int .i64 a1_3,.imm (.sl (.int .i64)) a1_4]],[]=>.opt _ (ZbD (a0_0,a0_1) (a1_0,(a1_1,(a1_2,(a1_3,a1_4))))) (fun r=>.ret (.c (.own 900 false)) [(900,.sl 89 y6_ r (.deep true .no))])
  |_,_=>.fail
def Zjq:Sched:=.alt 12 (.alt 13 (.alt 14 (.first 15 .done) .stop) .stop) .stop
def Zjr:Sched:=.alt 11 Zjq .stop
def Zjs:Sched:=.alt 4 (.alt 5 .done .stop) .stop
def Zjt:Sched:=.alt 3 Zjs .stop
def Zsr:Cfg:={ y:=tys,n:=128,h:=0,tab:=[(72,Zck),(120,ZiN),(128,Zdd),(129,ZjF),(182,ZqF)],cut:=[14,27,38],hand:=[(182,[0])],deep:=[65,101],sched:=[(11,(Zv [0,1,3,6,9,10] (.alt 2 (Zv [4,5,7] (.alt 8 Zjr .stop)) (.alt 8 (.alt 2 (Zv [4,5,7] Zjr) (.alt 11 (.alt 2 (Zv [4,5,7] Zjq) .stop) .stop)) .stop)))),(29,(.first 1 (.alt 0 (.alt 2 Zjt .stop) (.alt 2 (.alt 0 Zjt (.alt 3 (.alt 0 Zjs .stop) .stop)) .stop))))] }
theorem ZHp {P:Prop} (h:P:=by
  refine Zi he fun he=>?_
  exact⟨_,(Zk he :),(Za [(10002002,54)])⟩):P:=h
theorem ZB5 {P:Prop} (h:P:=by
  refine Y4 ?_
  refine Y4 ?_
  refine Y4 ?_
  refine And.intro hq4 ?_
  exact ZHp):P:=h
theorem ZB6 {P:Prop} (h:P:=by
  refine Y4 ?_
  refine Y4 ?_
  refine And.intro hq2 ?_
  refine Y4 ?_
  refine Zi he fun he=>?_
  exact⟨_,(Zk he :),(Za [(10004000,10008000),(10004001,10008001),(10004002,10008002),(10004003,102)])⟩):P:=h
theorem ZsC:Zl Tryz.prog 121 ZgQ:=by
 refine Zn (C:=Zsr) Tryz.f121 (Zj Zil (Zj ZrT (Zj ZfI (Zj Zqr (Zj Zyl Zo))))) fun _ a b k he=>?_
 unfold ZgQ at he;split at he;rotate_left;exact he.elim
 rename_i a0_0 a0_1 a1_0 a1_1 a1_2 a1_3 a1_4
 refine Zq he fun he=>?_
 refine Zf he (fun he=>?_) fun he=>?_
 ·refine ZT (ZdS (a1_0,(a1_1,(a1_2,(a1_3,a1_4))))) (fun i6=>(Zm [(3,.c (.ptr 10003000 0)),(6,.c (.own 10003001 false))],[(10003000,.rc [.int .i64 (a1_0,(a1_1,(a1_2,(a1_3,a1_4)))).1,.imm y0_ (a1_0,(a1_1,(a1_2,(a1_3,a1_4)))).2.1,.imm y0_ (a1_0,(a1_1,(a1_2,(a1_3,a1_4)))).2.2.1,.int .i64 (a1_0,(a1_1,(a1_2,(a1_3,a1_4)))).2.2.2.1,.imm (.sl y0_) (a1_0,(a1_1,(a1_2,(a1_3,a1_4)))).2.2.2.2]),(10003001,.sl 155 y5_ i6 .shallow)])) he ?_ ?_
  ·rintro i6 he
   refine Zh he fun r6_ he=>?_
   exact Zy [(4,[])] (Zk he :) (Za [(900,65)])
  ·skip
   refine Zr (Zgb (a0_0,a0_1) (a1_0,(a1_1,(a1_2,(a1_3,a1_4))))) (fun (i,i3)=>(Zm [(2,.c (.ptr 10000000 0)),(3,.c (.ptr 10000001 0)),(6,.c (.own 10000002 false)),(24,.c (.imm y0_ (a1_0,(a1_1,(a1_2,(a1_3,a1_4)))).2.1)),(25,.c (.int .i64 ((a1_0,(a1_1,(a1_2,(a1_3,a1_4)))).2.1.length:Int))),(26,.c (.int .i64 i))],[(10000000,.rc [.imm y0_ (a0_0,a0_1).1,.imm y4_ (a0_0,a0_1).2]),(10000001,.rc [.int .i64 (a1_0,(a1_1,(a1_2,(a1_3,a1_4)))).1,.imm y0_ (a1_0,(a1_1,(a1_2,(a1_3,a1_4)))).2.1,.imm y0_ (a1_0,(a1_1,(a1_2,(a1_3,a1_4)))).2.2.1,.int .i64 (a1_0,(a1_1,(a1_2,(a1_3,a1_4)))).2.2.2.1,.imm (.sl y0_) (a1_0,(a1_1,(a1_2,(a1_3,a1_4)))).2.2.2.2]),(10000002,.sl 155 y5_ i3 .shallow)])) he (Za [(10000000,2),(10000001,3)]) ?_
   rintro⟨i,i3⟩ _ he
   refine Zf he (fun he=>?_) fun he=>?_
   ·refine Zi he fun he=>?_
    refine Zi he fun he=>?_
    refine Zi he fun he=>?_
    refine Zr (Zcs (a0_0,a0_1) (a1_0,(a1_1,(a1_2,(a1_3,a1_4)))) i) (fun (i4,i5)=>(Zm [(2,.c (.ptr 10002000 0)),(3,.c (.ptr 10002001 0)),(6,.c (.own 10002002 false)),(7,.c (.int .i64 i)),(8,.c (.int .i64 ((a1_0,(a1_1,(a1_2,(a1_3,a1_4)))).2.1.getD i.toNat 0))),(24,.c (.imm y0_ (a1_0,(a1_1,(a1_2,(a1_3,a1_4)))).2.1)),(25,.c (.int .i64 ((a1_0,(a1_1,(a1_2,(a1_3,a1_4)))).2.1.length:Int))),(26,.c (.int .i64 i)),(36,.c (.int .i64 (((a0_0,a0_1).1.getD ((a1_0,(a1_1,(a1_2,(a1_3,a1_4)))).2.1.getD i.toNat 0).toNat 0)+(1:Int)))),(37,.c (.int .i64 i4))],[(10002000,.rc [.imm y0_ (a0_0,a0_1).1,.imm y4_ (a0_0,a0_1).2]),(10002001,.rc [.int .i64 (a1_0,(a1_1,(a1_2,(a1_3,a1_4)))).1,.imm y0_ (a1_0,(a1_1,(a1_2,(a1_3,a1_4)))).2.1,.imm y0_ (a1_0,(a1_1,(a1_2,(a1_3,a1_4)))).2.2.1,.int .i64 (a1_0,(a1_1,(a1_2,(a1_3,a1_4)))).2.2.2.1,.imm (.sl y0_) (a1_0,(a1_1,(a1_2,(a1_3,a1_4)))).2.2.2.2]),(10002002,.sl 155 y5_ i5 .shallow)])) he (Za [(10002000,10000000),(10002001,10000001),(10002002,10000002)]) ?_
    rintro⟨i4,i5⟩ _ he
    refine Zf he (fun he=>?_) fun he=>?_
    ·refine And.intro (by kernel_rfl) ?_
     obtain⟨hq1,he⟩:=ZG he
     obtain⟨hq2,he⟩:=ZG he
     obtain⟨r5_,hq3,he⟩:=Z5 he
     obtain⟨hq4,he⟩:=ZG he
     refine Y5 ?_ ?_
     ·skip
      refine And.intro hq1 ?_
      refine And.intro hq2 ?_
      refine Y4 ?_
      refine Y4 ?_
      refine⟨r5_,hq3,?_⟩
      exact ZB5
     ·skip
      refine Y5 ?_ ?_
      ·skip
       refine And.intro hq1 ?_
       refine And.intro hq2 ?_
       refine Y4 ?_
       refine⟨r5_,hq3,?_⟩
       exact ZB5
      ·skip
       refine⟨r5_,hq3,?_⟩
       refine Y4 ?_
       refine And.intro hq1 ?_
       refine And.intro hq2 ?_
       exact ZB5
    ·refine Zi he fun he=>?_
     exact⟨_,(Zk he :),(Za [(10000000,10002000),(10000001,10002001),(10000002,10002002)])⟩
   ·exact⟨_,(ZcJ he :),(Za [(10003000,10000001),(10003001,10000002)])⟩
 ·refine Zf he (fun he=>?_) fun he=>?_
  ·refine Zr (Zgc (a0_0,a0_1) (a1_0,(a1_1,(a1_2,(a1_3,a1_4))))) (fun (i7,i11)=>(Zm [(2,.c (.ptr 10004000 0)),(3,.c (.ptr 10004001 0)),(5,.c (.ptr 10004002 0)),(68,.c (.int .i64 i7))],[(10004000,.rc [.imm y0_ (a0_0,a0_1).1,.imm y4_ (a0_0,a0_1).2]),(10004001,.rc [.int .i64 (a1_0,(a1_1,(a1_2,(a1_3,a1_4)))).1,.imm y0_ (a1_0,(a1_1,(a1_2,(a1_3,a1_4)))).2.1,.imm y0_ (a1_0,(a1_1,(a1_2,(a1_3,a1_4)))).2.2.1,.int .i64 (a1_0,(a1_1,(a1_2,(a1_3,a1_4)))).2.2.2.1,.imm (.sl y0_) (a1_0,(a1_1,(a1_2,(a1_3,a1_4)))).2.2.2.2]),(10004002,.rc [.own 10004003 false]),(10004003,.sl 89 y6_ i11 (.deep true .no))])) he (Za [(10004000,2),(10004001,3),(10004002,5)]) ?_
   rintro⟨i7,i11⟩ _ he
   refine Zf he (fun he=>?_) fun he=>?_
   ·refine ZT (Zc5 i7 i11) (fun i14=>(Zm [(2,.c (.ptr 10008000 0)),(3,.c (.ptr 10008001 0)),(5,.c (.ptr 10008002 0)),(13,.c (.own 10008003 false)),(68,.c (.int .i64 i7))],[(10008000,.rc [.imm y0_ (a0_0,a0_1).1,.imm y4_ (a0_0,a0_1).2]),(10008001,.rc [.int .i64 (a1_0,(a1_1,(a1_2,(a1_3,a1_4)))).1,.imm y0_ (a1_0,(a1_1,(a1_2,(a1_3,a1_4)))).2.1,.imm y0_ (a1_0,(a1_1,(a1_2,(a1_3,a1_4)))).2.2.1,.int .i64 (a1_0,(a1_1,(a1_2,(a1_3,a1_4)))).2.2.2.1,.imm (.sl y0_) (a1_0,(a1_1,(a1_2,(a1_3,a1_4)))).2.2.2.2]),(10008002,.rc [.own 10008004 false]),(10008003,.sl 3 y0_ i14 .shallow),(10008004,.sl 89 y6_ i11 (.deep true .no))])) he ?_ ?_
    ·rintro i14 he
     refine Zf he (fun he=>?_) fun he=>?_
     ·refine Zh he fun r14_ he=>?_
      refine And.intro (by kernel_rfl) ?_
      obtain⟨r15_,hq1,he⟩:=Z5 he
      obtain⟨hq2,he⟩:=ZG he
      refine Y5 ?_ ?_
      ·skip
       refine Y4 ?_
       refine⟨r15_,hq1,?_⟩
       exact ZB6
      ·skip
       refine⟨r15_,hq1,?_⟩
       refine Y5 ?_ ?_
       ·skip
        exact ZB6
       ·skip
        exact ZB6
     ·refine Zi he fun he=>?_
      exact⟨_,(Zk he :),(Za [(10004000,10008000),(10004001,10008001),(10004002,10008002),(10004003,10008004)])⟩
    ·skip
     refine Zr (Zc7 (a0_0,a0_1) (a1_0,(a1_1,(a1_2,(a1_3,a1_4)))) i7 i11) (fun (i12,i13)=>(Zm [(2,.c (.ptr 10007000 0)),(3,.c (.ptr 10007001 0)),(5,.c (.ptr 10007002 0)),(12,.c (.int .i64 i7)),(13,.c (.own 10007003 false)),(68,.c (.int .i64 i7)),(72,.c (.imm y0_ (a1_0,(a1_1,(a1_2,(a1_3,a1_4)))).2.1)),(73,.c (.int .i64 ((a1_0,(a1_1,(a1_2,(a1_3,a1_4)))).2.1.length:Int))),(74,.c (.int .i64 i12))],[(10007000,.rc [.imm y0_ (a0_0,a0_1).1,.imm y4_ (a0_0,a0_1).2]),(10007001,.rc [.int .i64 (a1_0,(a1_1,(a1_2,(a1_3,a1_4)))).1,.imm y0_ (a1_0,(a1_1,(a1_2,(a1_3,a1_4)))).2.1,.imm y0_ (a1_0,(a1_1,(a1_2,(a1_3,a1_4)))).2.2.1,.int .i64 (a1_0,(a1_1,(a1_2,(a1_3,a1_4)))).2.2.2.1,.imm (.sl y0_) (a1_0,(a1_1,(a1_2,(a1_3,a1_4)))).2.2.2.2]),(10007002,.rc [.own 10007004 false]),(10007003,.sl 3 y0_ i13 .shallow),(10007004,.sl 89 y6_ i11 (.deep true .no))])) he (Za [(10007000,10004000),(10007001,10004001),(10007002,10004002),(10007004,10004003)]) ?_
     rintro⟨i12,i13⟩ _ he
     refine Zf he (fun he=>?_) fun he=>?_
     ·refine Zi he fun he=>?_
      refine Zi he fun he=>?_
      refine Zf he (fun he=>?_) fun he=>?_
      ·refine Zh he fun r13_ he=>?_
       refine Zi he fun he=>?_
       refine Zi he fun he=>?_
       exact⟨_,(Zk he :),(Za [(10007003,91)])⟩
      ·exact Zdh
     ·exact⟨_,(ZcJ he :),(Za [(10008000,10007000),(10008001,10007001),(10008002,10007002),(10008003,10007003),(10008004,10007004)])⟩
   ·exact Zy [(4,[])] (Zk he :) (Za [(900,10004003)])
  ·refine ZT (Zc6 (a0_0,a0_1) (a1_0,(a1_1,(a1_2,(a1_3,a1_4))))) (fun i17=>(Zm [(2,.c (.ptr 10010000 0)),(3,.c (.ptr 10010001 0)),(5,.c (.ptr 10010002 0)),(16,.c (.own 10010003 false))],[(10010000,.rc [.imm y0_ (a0_0,a0_1).1,.imm y4_ (a0_0,a0_1).2]),(10010001,.rc [.int .i64 (a1_0,(a1_1,(a1_2,(a1_3,a1_4)))).1,.imm y0_ (a1_0,(a1_1,(a1_2,(a1_3,a1_4)))).2.1,.imm y0_ (a1_0,(a1_1,(a1_2,(a1_3,a1_4)))).2.2.1,.int .i64 (a1_0,(a1_1,(a1_2,(a1_3,a1_4)))).2.2.2.1,.imm (.sl y0_) (a1_0,(a1_1,(a1_2,(a1_3,a1_4)))).2.2.2.2]),(10010002,.rc [.nil]),(10010003,.sl 3 y0_ i17 .shallow)])) he ?_ ?_
   ·rintro i17 he
    refine Zi he fun he=>?_
    refine Zh he fun r16_ he=>?_
    exact Zy [(4,[])] (Zk he :) (Za [(900,127900)])
   ·skip
    refine Zr (Zc8 (a0_0,a0_1) (a1_0,(a1_1,(a1_2,(a1_3,a1_4))))) (fun (i15,i16)=>(Zm [(2,.c (.ptr 10009000 0)),(3,.c (.ptr 10009001 0)),(5,.c (.ptr 10009002 0)),(16,.c (.own 10009003 false)),(106,.c (.imm y0_ (a1_0,(a1_1,(a1_2,(a1_3,a1_4)))).2.1)),(107,.c (.int .i64 ((a1_0,(a1_1,(a1_2,(a1_3,a1_4)))).2.1.length:Int))),(108,.c (.int .i64 i15))],[(10009000,.rc [.imm y0_ (a0_0,a0_1).1,.imm y4_ (a0_0,a0_1).2]),(10009001,.rc [.int .i64 (a1_0,(a1_1,(a1_2,(a1_3,a1_4)))).1,.imm y0_ (a1_0,(a1_1,(a1_2,(a1_3,a1_4)))).2.1,.imm y0_ (a1_0,(a1_1,(a1_2,(a1_3,a1_4)))).2.2.1,.int .i64 (a1_0,(a1_1,(a1_2,(a1_3,a1_4)))).2.2.2.1,.imm (.sl y0_) (a1_0,(a1_1,(a1_2,(a1_3,a1_4)))).2.2.2.2]),(10009002,.rc [.nil]),(10009003,.sl 3 y0_ i16 .shallow)])) he (Za [(10009000,2),(10009001,3),(10009002,5)]) ?_
    rintro⟨i15,i16⟩ _ he
    refine Zf he (fun he=>?_) fun he=>?_
    ·refine Zi he fun he=>?_
     refine Zi he fun he=>?_
     refine Zi he fun he=>?_
     refine Zi he fun he=>?_
     exact⟨_,(Zk he :),(Za [(10009003,119)])⟩
    ·exact⟨_,(ZcJ he :),(Za [(10010000,10009000),(10010001,10009001),(10010002,10009002),(10010003,10009003)])⟩
def ZkK:Con:=fun
  |[.agg [.imm (.int .i64) m_0,.imm (.pair (.int .i64) (.pair (.sl (.int .i64)) (.pair (.sl (.int .i64)) (.pair (.int .i64) (.sl (.sl (.int .i64))))))) m_1]],[]=>.opt _ (ZiW (m_0,m_1)) (fun r=>.ret (.tup [.c (.own 900 false),.c (.bool r.1)]) [(900,.sl 89 y6_ r.2 (.deep true .no))])
  |_,_=>.fail
def Zna:Sched:=.alt 4 (.alt 5 (.first 6 .done) .stop) .stop
def Zwo:Cfg:={ y:=tys,n:=52,h:=0,tab:=[(71,Zfl),(118,ZjV),(119,Zkh),(120,ZiN),(121,ZgQ)],cut:=[11,16],deep:=[32],sched:=[(9,(Zv [0,2] (.alt 1 (.alt 3 Zna .stop) (.alt 3 (.alt 1 Zna .stop) .stop))))] }
theorem ZHq {P:Prop} (h:P:=by
  refine Y4 ?_
  refine Y4 ?_
  refine And.intro hq2 ?_
  refine Zi he fun he=>?_
  exact⟨_,(Zk he :),(Za [(10000001,33)])⟩):P:=h
theorem ZwR:Zl Tryz.prog 48 ZkK:=by
 refine Zn (C:=Zwo) Tryz.f48 (Zj Zl0 (Zj Zwc (Zj Ztg (Zj ZrT (Zj ZsC Zo))))) fun _ a b k he=>?_
 unfold ZkK at he;split at he;rotate_left;exact he.elim
 rename_i m_0 m_1
 refine Zq he fun he=>?_
 refine Zh he fun r1_ he=>?_
 refine Zf he (fun he=>?_) fun he=>?_
 ·exact Zy [(2,[]),(3,[])] (Zk he :) (Za [])
 ·refine ZT (Zgy (m_0,m_1)) (fun out1=>(Zm [(1,.c (.ptr 10001000 0)),(4,.c (.own 10001001 false))],[(10001000,.rc [.imm y0_ (m_0,m_1).1,.imm y4_ (m_0,m_1).2]),(10001001,.sl 89 y6_ out1 (.deep true .no))])) he ?_ ?_
  ·rintro out1 he
   refine ZT (Zgz) (fun out3=>(Zm [(4,.c (.own 10003000 false))],[(10003000,.sl 89 y6_ out3 (.deep true .no))])) he ?_ ?_
   ·rintro out3 he
    refine Zf he (fun he=>?_) fun he=>?_
    ·exact Zy [(2,[]),(3,[])] (Zk he :) (Za [])
    ·exact Zy [(2,[]),(3,[])] (Zk he :) (Za [(900,10003000)])
   ·skip
    refine Zr (ZgA (m_0,m_1)) (fun (i1,out2)=>(Zm [(1,.c (.ptr 10002000 0)),(4,.c (.own 10002001 false)),(36,.c (.imm y4_ (m_0,m_1).2)),(37,.c (.int .i64 ((m_0,m_1).2.length:Int))),(38,.c (.int .i64 i1))],[(10002000,.rc [.imm y0_ (m_0,m_1).1,.imm y4_ (m_0,m_1).2]),(10002001,.sl 89 y6_ out2 (.deep true .no))])) he (Za [(10002000,10001000),(10002001,10001001)]) ?_
    rintro⟨i1,out2⟩ _ he
    refine Zf he (fun he=>?_) fun he=>?_
    ·refine Zi he fun he=>?_
     refine Zh he fun r10_ he=>?_
     refine Zi he fun he=>?_
     refine Zi he fun he=>?_
     exact⟨_,(Zk he :),(Za [(10002001,46)])⟩
    ·exact⟨_,(ZcJ he :),(Za [(10003000,10002001)])⟩
  ·skip
   refine Zr (ZgB (m_0,m_1)) (fun (i,out)=>(Zm [(1,.c (.ptr 10000000 0)),(4,.c (.own 10000001 false)),(16,.c (.int .i64 ((m_0,m_1).1.length:Int))),(17,.c (.int .i64 i))],[(10000000,.rc [.imm y0_ (m_0,m_1).1,.imm y4_ (m_0,m_1).2]),(10000001,.sl 89 y6_ out (.deep true .no))])) he (Za [(10000000,1)]) ?_
   rintro⟨i,out⟩ _ he
   refine Zf he (fun he=>?_) fun he=>?_
   ·refine Zh he fun r6_ he=>?_
    refine Zh he fun r7_ he=>?_
    refine And.intro (by kernel_rfl) ?_
    obtain⟨r8_,hq1,he⟩:=Z5 he
    obtain⟨hq2,he⟩:=ZG he
    refine Y5 ?_ ?_
    ·skip
     refine Y4 ?_
     refine⟨r8_,hq1,?_⟩
     exact ZHq
    ·skip
     refine⟨r8_,hq1,?_⟩
     refine Y4 ?_
     exact ZHq
   ·exact⟨_,(ZcJ he :),(Za [(10001000,10000000),(10001001,10000001)])⟩
def Zou:Con:=fun
  |[.agg [.imm (.int .i64) m_0,.imm (.pair (.int .i64) (.pair (.sl (.int .i64)) (.pair (.sl (.int .i64)) (.pair (.int .i64) (.sl (.sl (.int .i64))))))) m_1]],[]=>.opt _ (ZrS (m_0,m_1)) (fun r=>.ret (.tup [.c (.own 900 false),.c (.bool r.1)]) [(900,.sl 89 y6_ r.2 (.deep true .no))])
  |_,_=>.fail
def ZAG:Cfg:={ y:=tys,n:=18,h:=0,tab:=[(48,ZkK)] }
theorem ZHr {P:Prop} (h:P:=by
  exact Zy [(2,[]),(3,[])] (Zk he :) (Za [(900,9900)])):P:=h
theorem ZBl:Zl Tryz.prog 55 Zou:=by
 refine Zn (C:=ZAG) Tryz.f55 (Zj ZwR Zo) fun _ a b k he=>?_
 unfold Zou at he;split at he;rotate_left;exact he.elim
 rename_i m_0 m_1
 refine Zq he fun he=>?_
 refine Zh he fun r1_ he=>?_
 refine Zf he (fun he=>?_) fun he=>?_
 ·exact ZHr
 ·exact ZHr
def ZlT:Con:=fun
  |[.agg [.imm (.int .i64) m_0,.imm (.pair (.int .i64) (.pair (.sl (.int .i64)) (.pair (.sl (.int .i64)) (.pair (.int .i64) (.sl (.sl (.int .i64))))))) m_1],.c (.imm (.int .i64) cells)],[]=>.opt _ (Zkk (m_0,m_1) cells) (fun r=>.ret (.c (.bool r)) [])
  |_,_=>.fail
def Zx8:Cfg:={ y:=tys,n:=34,h:=0,tab:=[(71,Zfl),(127,ZbF)] }
theorem Zyi:Zl Tryz.prog 76 ZlT:=by
 refine Zn (C:=Zx8) Tryz.f76 (Zj Zl0 (Zj Zb5 Zo)) fun _ a b k he=>?_
 unfold ZlT at he;split at he;rotate_left;exact he.elim
 rename_i m_0 m_1 cells
 refine Zq he fun he=>?_
 refine Zh he fun r1_ he=>?_
 refine ZC he (fun he=>?_) fun he=>?_
 ·refine Zf he (fun he=>?_) fun he=>?_
  ·exact ZK
  ·refine Zr (Zhc (m_0,m_1) cells) (fun i=>(Zm [(2,.c (.ptr 10000000 0)),(18,.c (.imm y0_ cells)),(19,.c (.int .i64 (cells.length:Int))),(20,.c (.int .i64 i))],[(10000000,.rc [.imm y0_ (m_0,m_1).1,.imm y4_ (m_0,m_1).2])])) he (Za [(10000000,2)]) ?_
   rintro i _ he
   refine Zf he (fun he=>?_) fun he=>?_
   ·refine Zi he fun he=>?_
    exact ZHm
   ·exact ZK
 ·exact ZK
def Zot:Con:=fun
  |[.agg [.int .i64 r__0,.imm (.int .i64) r__1,.imm (.int .i64) r__2,.int .i64 r__3,.imm (.sl (.int .i64)) r__4],.c (.imm (.int .i64) cells)],[]=>.opt _ (ZnK (r__0,(r__1,(r__2,(r__3,r__4)))) cells) (fun r=>.ret (.c (.bool r)) [])
  |_,_=>.fail
def ZAF:Cfg:={ y:=tys,n:=26,h:=0,tab:=[(184,ZhO)],cut:=[7] }
theorem ZB7 {P:Prop} (h:P:=by
  refine Zh he fun r1_ he=>?_
  exact ZK):P:=h
theorem ZBk:Zl Tryz.prog 142 Zot:=by
 refine Zn (C:=ZAF) Tryz.f142 (Zj ZqI Zo) fun _ a b k he=>?_
 unfold Zot at he;split at he;rotate_left;exact he.elim
 rename_i r__0 r__1 r__2 r__3 r__4 cells
 refine Zq he fun he=>?_
 refine ZT (ZnL (r__0,(r__1,(r__2,(r__3,r__4))))) (fun vals1=>(Zm [(2,.c (.ptr 10001000 0)),(5,.c (.own 10001001 false))],[(10001000,.rc [.int .i64 (r__0,(r__1,(r__2,(r__3,r__4)))).1,.imm y0_ (r__0,(r__1,(r__2,(r__3,r__4)))).2.1,.imm y0_ (r__0,(r__1,(r__2,(r__3,r__4)))).2.2.1,.int .i64 (r__0,(r__1,(r__2,(r__3,r__4)))).2.2.2.1,.imm (.sl y0_) (r__0,(r__1,(r__2,(r__3,r__4)))).2.2.2.2]),(10001001,.sl 3 y0_ vals1 .shallow)])) he ?_ ?_
 ·rintro vals1 he
  exact ZB7
 ·skip
  refine Zr (Zkl (r__0,(r__1,(r__2,(r__3,r__4)))) cells) (fun (i,vals)=>(Zm [(1,.c (.imm y0_ cells)),(2,.c (.ptr 10000000 0)),(5,.c (.own 10000001 false)),(9,.c (.imm y0_ (r__0,(r__1,(r__2,(r__3,r__4)))).2.1)),(10,.c (.int .i64 ((r__0,(r__1,(r__2,(r__3,r__4)))).2.1.length:Int))),(11,.c (.int .i64 i))],[(10000000,.rc [.int .i64 (r__0,(r__1,(r__2,(r__3,r__4)))).1,.imm y0_ (r__0,(r__1,(r__2,(r__3,r__4)))).2.1,.imm y0_ (r__0,(r__1,(r__2,(r__3,r__4)))).2.2.1,.int .i64 (r__0,(r__1,(r__2,(r__3,r__4)))).2.2.2.1,.imm (.sl y0_) (r__0,(r__1,(r__2,(r__3,r__4)))).2.2.2.2]),(10000001,.sl 3 y0_ vals .shallow)])) he (Za [(10000000,2)]) ?_
  rintro⟨i,vals⟩ _ he
  refine Zf he (fun he=>?_) fun he=>?_
  ·refine Zi he fun he=>?_
   refine Zi he fun he=>?_
   refine Zi he fun he=>?_
   refine Zi he fun he=>?_
   exact⟨_,(Zk he :),(Za [(10000001,21)])⟩
  ·exact⟨_,(ZcJ he :),(Za [(10001000,10000000),(10001001,10000001)])⟩
end
end Go.AE.Y
