/-
  Walks: each function keeps the contract that its model gives. No conditions.
-/
import Derived.Test.YtaeeiddjpigemaaGreatR8Tab
import Derived.Test.YtaeeiddjpigemaaGreatR8W1
import Derived.Test.YtaeeiddjpigemaaGreatR8S
namespace Go.AE.Y
open Go Go.AE Go.Proofs
set_option linter.unusedVariables false
set_option maxHeartbeats 2000000
set_option maxRecDepth 100000
noncomputable section
def Zji:Con:=fun
  |[.c (.imm (.int .i64) net),.c (.int .i64 bound_)],[]=>.opt _ (Zfs net bound_) (fun r=>.ret (.tup [.agg [.own 901 false,.int .i64 r.2.1],.c (.bool r.1)]) [(900,.rc [.own 901 false,.int .i64 r.2.1]),(901,.sl 155 y6_ r.2.2 .shallow)])
  |_,_=>.fail
def Zsj:Sched:=.alt 9 (.first 10 (.alt 11 .done .stop)) .stop
def Zsk:Sched:=.alt 8 Zsj .stop
def Zsl:Sched:=.alt 11 (.first 12 (.alt 13 .done .stop)) .stop
def Zsm:Sched:=.alt 10 Zsl .stop
def ZDx:Cfg:={ y:=tys,n:=62,h:=0,tab:=[(168,Zbd)],cut:=[7,9,10,12],sched:=[(6,(Zy [0,2,3,4,5,6] (.alt 1 (.alt 7 Zsk .stop) (.alt 7 (.alt 1 Zsk (.alt 8 (.alt 1 Zsj .stop) .stop)) .stop)))),(8,(Zy [0,2,3,4,5,6,7,8] (.alt 1 (.alt 9 Zsm .stop) (.alt 9 (.alt 1 Zsm (.alt 10 (.alt 1 Zsl .stop) .stop)) .stop))))] }
theorem ZN5 {P:Prop} (h:P:=by
  exact⟨_,he,(Za [(10006000,10005000),(10006001,10005001),(10006002,10005002)])⟩):P:=h
theorem ZN6 {P:Prop} (h:P:=by
  refine Zh he fun he=>?_
  exact⟨_,(Zj he :),(Za [(10000000,10004000),(10000001,10004001),(10000002,10004002)])⟩):P:=h
theorem ZJM {P:Prop} (h:P:=by
  refine Y4 ?_
  refine Y4 ?_
  refine And.intro hq1 ?_
  refine Y4 ?_
  exact⟨_,he,(Za [(10004000,10003000),(10004001,10003001),(10004002,45)])⟩):P:=h
theorem ZJN {P:Prop} (h:P:=by
  refine Y4 ?_
  refine Y4 ?_
  refine And.intro hq1 ?_
  refine Y4 ?_
  exact⟨_,he,(Za [(10003000,10000000),(10003001,10000001),(10003002,27)])⟩):P:=h
theorem Zq4:Zn Tryz.prog 134 Zji:=by
 refine Zq (C:=ZDx) Tryz.f134 (Zk ZbD Zr) fun _ a b k he=>?_
 unfold Zji at he;split at he;rotate_left;exact he.elim
 rename_i net bound_
 refine Zs he fun he=>?_
 refine ZK (ZlG) (fun (bound_2,c_03)=>(Zm [(1,.c (.int .i64 bound_2)),(4,.c (.ptr 10005000 0)),(6,.c (.ptr 10005001 0))],[(10005000,.rc [.nil,.int .i64 (0:Int)]),(10005001,.rc [.own 10005002 false,.int .i64 (0:Int)]),(10005002,.sl 155 y6_ c_03 .shallow)])) he ?_ ?_
 ·rintro⟨bound_2,c_03⟩ he
  refine ZK (ZeL c_03) (fun bound_3=>(Zm [(1,.c (.int .i64 bound_3)),(4,.c (.ptr 10006000 0)),(6,.c (.ptr 10006001 0))],[(10006000,.rc [.nil,.int .i64 (0:Int)]),(10006001,.rc [.own 10006002 false,.int .i64 (0:Int)]),(10006002,.sl 155 y6_ c_03 .shallow)])) he ?_ ?_
  ·rintro bound_3 he
   refine Zi he fun r1_ he=>?_
   refine Zg he (fun he=>?_) fun he=>?_
   ·exact Zv [(4,[900]),(5,[])] (Zj he :) (Za [(900,10006000)])
   ·exact Zv [(4,[900]),(5,[])] (Zj he :) (Za [(900,10006000),(901,10006002)])
  ·skip
   refine Zg he (fun he=>?_) fun he=>?_
   ·exact ZN5
   ·exact ZN5
 ·skip
  refine Zt (Zf0 net) (fun (bound_1,v,c_01)=>(Zm [(0,.c (.imm y0_ net)),(1,.c (.int .i64 bound_1)),(4,.c (.ptr 10000000 0)),(6,.c (.ptr 10000001 0)),(7,.c (.int .i64 v))],[(10000000,.rc [.nil,.int .i64 (0:Int)]),(10000001,.rc [.own 10000002 false,.int .i64 (0:Int)]),(10000002,.sl 155 y6_ c_01 .shallow)])) he (Za [(10000000,4),(10000001,6)]) ?_
  rintro⟨bound_1,v,c_01⟩ _ he
  refine Zg he (fun he=>?_) fun he=>?_
  ·refine ZK (Zie net bound_1 v) (fun c_02=>(Zm [(0,.c (.imm y0_ net)),(1,.c (.int .i64 bound_1)),(4,.c (.ptr 10003000 0)),(6,.c (.ptr 10003001 0)),(7,.c (.int .i64 v))],[(10003000,.rc [.nil,.int .i64 (0:Int)]),(10003001,.rc [.own 10003002 false,.int .i64 (0:Int)]),(10003002,.sl 155 y6_ c_02 .shallow)])) he ?_ ?_
   ·rintro c_02 he
    refine Zh he fun he=>?_
    refine Zg he (fun he=>?_) fun he=>?_
    ·refine ZK (ZlH net bound_1 v c_02) (fun _=>(Zm [(0,.c (.imm y0_ net)),(1,.c (.int .i64 bound_1)),(4,.c (.ptr 10004000 0)),(6,.c (.ptr 10004001 0)),(7,.c (.int .i64 v))],[(10004000,.rc [.nil,.int .i64 (0:Int)]),(10004001,.rc [.own 10004002 false,.int .i64 (0:Int)]),(10004002,.sl 155 y6_ (c_02++[((0 - (net.getD v.toNat 0)),(0 - v))]) .shallow)])) he ?_ ?_
     ·rintro⟨⟩ he
      refine Zh he fun he=>?_
      refine Zh he fun he=>?_
      exact ZN6
     ·skip
      refine And.intro (by kernel_rfl) ?_
      refine Zh he fun he=>?_
      refine Zh he fun he=>?_
      refine Zh he fun he=>?_
      obtain⟨hq1,he⟩:=ZD he
      refine Y5 ?_ ?_
      ·skip
       refine Y4 ?_
       exact ZJM
      ·skip
       refine Y5 ?_ ?_
       ·skip
        exact ZJM
       ·skip
        exact ZJM
    ·refine Zh he fun he=>?_
     exact⟨_,(Zj he :),(Za [(10000000,10003000),(10000001,10003001),(10000002,10003002)])⟩
   ·skip
    refine Zh he fun he=>?_
    refine Zg he (fun he=>?_) fun he=>?_
    ·refine And.intro (by kernel_rfl) ?_
     refine Zh he fun he=>?_
     obtain⟨hq1,he⟩:=ZD he
     refine Y5 ?_ ?_
     ·skip
      refine Y4 ?_
      exact ZJN
     ·skip
      refine Y5 ?_ ?_
      ·skip
       exact ZJN
      ·skip
       exact ZJN
    ·exact⟨_,he,(Za [(10003000,10000000),(10003001,10000001),(10003002,10000002)])⟩
  ·exact⟨_,(Zbn he :),(Za [(10005000,10000000),(10005001,10000001),(10005002,10000002)])⟩
def ZqO:Con:=fun
  |[.agg [.imm (.int .i64) m_0,.imm (.pair (.int .i64) (.pair (.sl (.int .i64)) (.pair (.sl (.int .i64)) (.pair (.int .i64) (.sl (.sl (.int .i64))))))) m_1],.agg [.int .i64 r__0,.imm (.int .i64) r__1,.imm (.int .i64) r__2,.int .i64 r__3,.imm (.sl (.int .i64)) r__4]],[]=>.opt _ (ZpA (m_0,m_1) (r__0,(r__1,(r__2,(r__3,r__4))))) (fun r=>.ret (.c (.own 900 false)) [(900,.sl 89 y7_ r (.deep true .no))])
  |_,_=>.fail
def ZsN:Sched:=.first 16 (.alt 17 .done .stop)
def Znk:Sched:=.alt 8 ZsN .stop
def ZsO:Sched:=.alt 8 (.alt 10 (Zy [12,13,15] ZsN) .stop) (.alt 10 (Zy [12,13,15] Znk) .stop)
def ZsP:Sched:=.alt 3 (Zy [5,6] Znk) .stop
def ZsQ:Sched:=.alt 1 Znk .stop
def ZDE:Cfg:={ y:=tys,n:=57,h:=0,tab:=[(133,Zgg),(134,Zji)],cut:=[9],deep:=[56],sched:=[(8,(Zy [0,2,4,7,9,11,14] (.alt 1 (.alt 3 (Zy [5,6] ZsO) (.alt 10 (Zy [12,13,15] ZsP) .stop)) (.alt 3 (Zy [5,6] (.alt 1 ZsO (.alt 10 (Zy [12,13,15] ZsQ) .stop))) (.alt 10 (Zy [12,13,15] (.alt 1 ZsP (.alt 3 (Zy [5,6] ZsQ) .stop))) .stop)))))] }
theorem ZBr {P:Prop} (h:P:=by
  refine Y4 ?_
  refine⟨r5_,hq2,?_⟩
  refine And.intro hq5 ?_
  exact Zk0):P:=h
theorem ZN7 {P:Prop} (h:P:=by
  refine Y5 ?_ ?_
  ·skip
   refine⟨r5_,hq2,?_⟩
   refine Y4 ?_
   refine And.intro hq3 ?_
   refine And.intro hq4 ?_
   refine And.intro hq5 ?_
   exact Zk0
  ·skip
   refine And.intro hq3 ?_
   refine And.intro hq4 ?_
   exact ZBr):P:=h
theorem ZD2:Zn Tryz.prog 191 ZqO:=by
 refine Zq (C:=ZDE) Tryz.f191 (Zk ZkP (Zk Zq4 Zr)) fun _ a b k he=>?_
 unfold ZqO at he;split at he;rotate_left;exact he.elim
 rename_i m_0 m_1 r__0 r__1 r__2 r__3 r__4
 refine Zs he fun he=>?_
 refine Zh he fun he=>?_
 refine ZK (ZlR (r__0,(r__1,(r__2,(r__3,r__4))))) (fun net3=>(Zm [(3,.c (.ptr 10003000 0)),(5,.c (.own 10003001 false))],[(10003000,.rc [.int .i64 (r__0,(r__1,(r__2,(r__3,r__4)))).1,.imm y0_ (r__0,(r__1,(r__2,(r__3,r__4)))).2.1,.imm y0_ (r__0,(r__1,(r__2,(r__3,r__4)))).2.2.1,.int .i64 (r__0,(r__1,(r__2,(r__3,r__4)))).2.2.2.1,.imm (.sl y0_) (r__0,(r__1,(r__2,(r__3,r__4)))).2.2.2.2]),(10003001,.sl 3 y0_ net3 .shallow)])) he ?_ ?_
 ·rintro net3 he
  refine Zi he fun r6_ he=>?_
  exact Zv [(4,[])] (Zj he :) (Za [(900,56)])
 ·skip
  refine Zt (Zp3 (m_0,m_1) (r__0,(r__1,(r__2,(r__3,r__4))))) (fun (i,net1)=>(Zm [(2,.c (.ptr 10000000 0)),(3,.c (.ptr 10000001 0)),(5,.c (.own 10000002 false)),(6,.c (.int .i64 i))],[(10000000,.rc [.imm y0_ (m_0,m_1).1,.imm y5_ (m_0,m_1).2]),(10000001,.rc [.int .i64 (r__0,(r__1,(r__2,(r__3,r__4)))).1,.imm y0_ (r__0,(r__1,(r__2,(r__3,r__4)))).2.1,.imm y0_ (r__0,(r__1,(r__2,(r__3,r__4)))).2.2.1,.int .i64 (r__0,(r__1,(r__2,(r__3,r__4)))).2.2.2.1,.imm (.sl y0_) (r__0,(r__1,(r__2,(r__3,r__4)))).2.2.2.2]),(10000002,.sl 3 y0_ net1 .shallow)])) he (Za [(10000000,2),(10000001,3),(10000002,10)]) ?_
  rintro⟨i,net1⟩ _ he
  refine Zg he (fun he=>?_) fun he=>?_
  ·refine Zt (ZlS (m_0,m_1) (r__0,(r__1,(r__2,(r__3,r__4)))) i) (fun (k_1,net2)=>(Zm [(2,.c (.ptr 10002000 0)),(3,.c (.ptr 10002001 0)),(5,.c (.own 10002002 false)),(6,.c (.int .i64 i)),(7,.c (.int .i64 k_1))],[(10002000,.rc [.imm y0_ (m_0,m_1).1,.imm y5_ (m_0,m_1).2]),(10002001,.rc [.int .i64 (r__0,(r__1,(r__2,(r__3,r__4)))).1,.imm y0_ (r__0,(r__1,(r__2,(r__3,r__4)))).2.1,.imm y0_ (r__0,(r__1,(r__2,(r__3,r__4)))).2.2.1,.int .i64 (r__0,(r__1,(r__2,(r__3,r__4)))).2.2.2.1,.imm (.sl y0_) (r__0,(r__1,(r__2,(r__3,r__4)))).2.2.2.2]),(10002002,.sl 3 y0_ net2 .shallow)])) he (Za [(10002000,10000000),(10002001,10000001),(10002002,10000002)]) ?_
   rintro⟨k_1,net2⟩ _ he
   refine And.intro (by kernel_rfl) ?_
   refine Zh he fun he=>?_
   refine Zh he fun he=>?_
   refine Zg he (fun he=>?_) fun he=>?_
   ·refine And.intro (by kernel_rfl) ?_
    obtain⟨hq1,he⟩:=ZD he
    obtain⟨r5_,hq2,he⟩:=ZS he
    obtain⟨hq3,he⟩:=ZD he
    obtain⟨hq4,he⟩:=ZD he
    obtain⟨hq5,he⟩:=ZD he
    refine And.intro ?_ (And.intro ?_ (And.intro ?_ (Y1)))
    ·skip
     refine Y5 ?_ ?_
     ·skip
      refine And.intro hq1 ?_
      exact ZN7
     ·skip
      refine And.intro hq3 ?_
      refine And.intro hq4 ?_
      refine Y4 ?_
      refine And.intro hq1 ?_
      exact ZBr
    ·skip
     refine And.intro hq1 ?_
     refine Y5 ?_ ?_
     ·skip
      exact ZN7
     ·skip
      refine And.intro hq3 ?_
      refine And.intro hq4 ?_
      refine Y4 ?_
      exact ZBr
    ·skip
     refine And.intro hq3 ?_
     refine And.intro hq4 ?_
     refine Y5 ?_ ?_
     ·skip
      refine Y4 ?_
      refine And.intro hq1 ?_
      exact ZBr
     ·skip
      refine And.intro hq1 ?_
      refine Y4 ?_
      exact ZBr
   ·refine Zh he fun he=>?_
    exact⟨_,(Zj he :),(Za [(10000000,10002000),(10000001,10002001),(10000002,10002002)])⟩
  ·exact⟨_,(Zbn he :),(Za [(10003000,10000001),(10003001,10000002)])⟩
def ZqP:Con:=fun
  |[.c (.imm (.int .i64) list_)],[]=>.opt _ (ZpB list_) (fun r=>.ret (.c (.own 900 false)) [(900,.sl 3 y0_ r .shallow)])
  |_,_=>.fail
def ZDF:Cfg:={ y:=tys,n:=51,h:=0,tab:=[] }
theorem ZBs {P:Prop} (h:P:=by
  refine Zh he fun he=>?_
  exact Zvv):P:=h
theorem ZJO {P:Prop} (h:P:=by
  refine Zh he fun he=>?_
  exact⟨_,(Zj he :),(Za [(10000000,10002000)])⟩):P:=h
theorem ZD3:Zn Tryz.prog 246 ZqP:=by
 refine Zq (C:=ZDF) Tryz.f246 Zr fun _ a b k he=>?_
 unfold ZqP at he;split at he;rotate_left;exact he.elim
 rename_i list_
 refine Zs he fun he=>?_
 refine Zh he fun he=>?_
 refine Zt (ZlT) (fun (i,out1)=>(Zm [(3,.c (.own 10000000 false)),(4,.c (.int .i64 i))],[(10000000,.sl 3 y0_ out1 .shallow)])) he (Za [(10000000,9)]) ?_
 rintro⟨i,out1⟩ _ he
 refine Zg he (fun he=>?_) fun he=>?_
 ·refine Zt (ZlU i) (fun (k_1,out2)=>(Zm [(3,.c (.own 10002000 false)),(4,.c (.int .i64 i)),(5,.c (.int .i64 k_1))],[(10002000,.sl 3 y0_ out2 .shallow)])) he (Za [(10002000,10000000)]) ?_
  rintro⟨k_1,out2⟩ _ he
  refine And.intro (by kernel_rfl) ?_
  refine Zg he (fun he=>?_) fun he=>?_
  ·refine Zh he fun he=>?_
   refine Zh he fun he=>?_
   refine Zh he fun he=>?_
   refine Zg he (fun he=>?_) fun he=>?_
   ·refine Zh he fun he=>?_
    refine Zh he fun he=>?_
    exact ZBs
   ·exact ZJO
  ·exact ZJO
 ·exact Zv [(2,[])] (Zj he :) (Za [(900,10000000)])
def Znz:Con:=fun
  |[.agg [.imm (.int .i64) m_0,.imm (.pair (.int .i64) (.pair (.sl (.int .i64)) (.pair (.sl (.int .i64)) (.pair (.int .i64) (.sl (.sl (.int .i64))))))) m_1],.agg [.int .i64 r__0,.imm (.int .i64) r__1,.imm (.int .i64) r__2,.int .i64 r__3,.imm (.sl (.int .i64)) r__4]],[]=>.opt _ (ZlO (m_0,m_1) (r__0,(r__1,(r__2,(r__3,r__4))))) (fun r=>.ret (.c (.own 900 false)) [(900,.sl 89 y7_ r (.deep true .no))])
  |_,_=>.fail
def Zqg:Sched:=.alt 8 (.alt 9 (.alt 10 (.first 11 .done) .stop) .stop) .stop
def ZAe:Cfg:={ y:=tys,n:=54,h:=0,tab:=[(133,Zgg),(190,Zpo),(246,ZqP)],cut:=[11],deep:=[9,51],sched:=[(10,(Zy [0,2,4,7] (.alt 1 (.alt 3 (Zy [5,6] Zqg) .stop) (.alt 3 (Zy [5,6] (.alt 1 Zqg .stop)) .stop))))] }
theorem ZN8 {P:Prop} (h:P:=by
  refine Y4 ?_
  refine⟨r7_,hq2,?_⟩
  refine Y4 ?_
  refine Y4 ?_
  refine And.intro hq3 ?_
  refine Zh he fun he=>?_
  exact⟨_,(Zj he :),(Za [(10003003,43)])⟩):P:=h
theorem ZAI:Zn Tryz.prog 192 Znz:=by
 refine Zq (C:=ZAe) Tryz.f192 (Zk ZkP (Zk Zzo (Zk ZD3 Zr))) fun _ a b k he=>?_
 unfold Znz at he;split at he;rotate_left;exact he.elim
 rename_i m_0 m_1 r__0 r__1 r__2 r__3 r__4
 refine Zs he fun he=>?_
 refine Zt (ZmN (m_0,m_1) (r__0,(r__1,(r__2,(r__3,r__4))))) (fun (k_,out)=>(Zm [(2,.c (.ptr 10000000 0)),(3,.c (.ptr 10000001 0)),(5,.c (.own 10000002 false)),(6,.c (.int .i64 k_))],[(10000000,.rc [.imm y0_ (m_0,m_1).1,.imm y5_ (m_0,m_1).2]),(10000001,.rc [.int .i64 (r__0,(r__1,(r__2,(r__3,r__4)))).1,.imm y0_ (r__0,(r__1,(r__2,(r__3,r__4)))).2.1,.imm y0_ (r__0,(r__1,(r__2,(r__3,r__4)))).2.2.1,.int .i64 (r__0,(r__1,(r__2,(r__3,r__4)))).2.2.2.1,.imm (.sl y0_) (r__0,(r__1,(r__2,(r__3,r__4)))).2.2.2.2]),(10000002,.sl 89 y7_ out (.deep true .no))])) he (Za [(10000000,2),(10000001,3),(10000002,9)]) ?_
 rintro⟨k_,out⟩ _ he
 refine Zg he (fun he=>?_) fun he=>?_
 ·refine ZK (ZfN k_ out) (fun vars3=>(Zm [(2,.c (.ptr 10004000 0)),(3,.c (.ptr 10004001 0)),(5,.c (.own 10004002 false)),(6,.c (.int .i64 k_)),(7,.c (.own 10004003 false))],[(10004000,.rc [.imm y0_ (m_0,m_1).1,.imm y5_ (m_0,m_1).2]),(10004001,.rc [.int .i64 (r__0,(r__1,(r__2,(r__3,r__4)))).1,.imm y0_ (r__0,(r__1,(r__2,(r__3,r__4)))).2.1,.imm y0_ (r__0,(r__1,(r__2,(r__3,r__4)))).2.2.1,.int .i64 (r__0,(r__1,(r__2,(r__3,r__4)))).2.2.2.1,.imm (.sl y0_) (r__0,(r__1,(r__2,(r__3,r__4)))).2.2.2.2]),(10004002,.sl 89 y7_ out (.deep true .no)),(10004003,.sl 3 y0_ vars3 .shallow)])) he ?_ ?_
  ·rintro vars3 he
   refine Zg he (fun he=>?_) fun he=>?_
   ·refine Zi he fun r8_ he=>?_
    refine Zi he fun r9_ he=>?_
    refine Zh he fun he=>?_
    refine Zh he fun he=>?_
    exact⟨_,(Zj he :),(Za [(10000000,10004000),(10000001,10004001),(10000002,52)])⟩
   ·exact ZN6
  ·skip
   refine Zt (ZfO (m_0,m_1) (r__0,(r__1,(r__2,(r__3,r__4)))) k_ out) (fun (i1,vars2)=>(Zm [(2,.c (.ptr 10003000 0)),(3,.c (.ptr 10003001 0)),(5,.c (.own 10003002 false)),(6,.c (.int .i64 k_)),(7,.c (.own 10003003 false)),(8,.c (.int .i64 i1))],[(10003000,.rc [.imm y0_ (m_0,m_1).1,.imm y5_ (m_0,m_1).2]),(10003001,.rc [.int .i64 (r__0,(r__1,(r__2,(r__3,r__4)))).1,.imm y0_ (r__0,(r__1,(r__2,(r__3,r__4)))).2.1,.imm y0_ (r__0,(r__1,(r__2,(r__3,r__4)))).2.2.1,.int .i64 (r__0,(r__1,(r__2,(r__3,r__4)))).2.2.2.1,.imm (.sl y0_) (r__0,(r__1,(r__2,(r__3,r__4)))).2.2.2.2]),(10003002,.sl 89 y7_ out (.deep true .no)),(10003003,.sl 3 y0_ vars2 .shallow)])) he (Za [(10003000,10000000),(10003001,10000001),(10003002,10000002),(10003003,14)]) ?_
   rintro⟨i1,vars2⟩ _ he
   refine Zg he (fun he=>?_) fun he=>?_
   ·refine And.intro (by kernel_rfl) ?_
    refine Zh he fun he=>?_
    refine Zh he fun he=>?_
    refine Zg he (fun he=>?_) fun he=>?_
    ·refine And.intro (by kernel_rfl) ?_
     obtain⟨hq1,he⟩:=ZD he
     obtain⟨r7_,hq2,he⟩:=ZS he
     obtain⟨hq3,he⟩:=ZD he
     refine Y5 ?_ ?_
     ·skip
      refine Y4 ?_
      refine And.intro hq1 ?_
      exact ZN8
     ·skip
      refine And.intro hq1 ?_
      refine Y4 ?_
      exact ZN8
    ·exact ZdC
   ·exact⟨_,(Zbn he :),(Za [(10004000,10003000),(10004001,10003001),(10004002,10003002),(10004003,10003003)])⟩
 ·exact Zv [(4,[])] (Zj he :) (Za [(900,10000002)])
def Ztg:Con:=fun
  |[.c (.imm (.int .i64) a),.c (.imm (.int .i64) b)],[]=>.opt _ (Zr9 a b) (fun r=>.ret (.c (.bool r)) [])
  |_,_=>.fail
def ZG8:Cfg:={ y:=tys,n:=26,h:=0,tab:=[] }
theorem ZEM {P:Prop} (h:P:=by
  refine Zg he (fun he=>?_) fun he=>?_
  ·exact Zbf
  ·exact ZdC):P:=h
theorem ZJP {P:Prop} (h:P:=by
  rintro i _ he
  refine Zg he (fun he=>?_) fun he=>?_
  ·refine And.intro (by kernel_rfl) ?_
   refine Zh he fun he=>?_
   refine Zh he fun he=>?_
   exact ZEM
  ·exact Zbf):P:=h
theorem ZHm:Zn Tryz.prog 251 Ztg:=by
 refine Zq (C:=ZG8) Tryz.f251 Zr fun _ a b k he=>?_
 unfold Ztg at he;split at he;rotate_left;exact he.elim
 rename_i a b
 refine Zs he fun he=>?_
 refine Zg he (fun he=>?_) fun he=>?_
 ·exact Zbf
 ·refine Zt (Zon a b) (fun i=>(Zm [(0,.c (.imm y0_ a)),(1,.c (.imm y0_ b)),(5,.c (.int .i64 i))],[])) he (Za []) ?_
  exact ZJP
def Zn6:Con:=fun
  |[.agg [.int .i64 a0_0,.imm (.int .i64) a0_1,.imm (.int .i64) a0_2,.int .i64 a0_3,.imm (.sl (.int .i64)) a0_4],.c (.imm (.int .i64) a1)],[]=>.opt _ (ZnZ (a0_0,(a0_1,(a0_2,(a0_3,a0_4)))) a1) (fun r=>.ret (.c (.bool r)) [])
  |_,_=>.fail
def ZE4:Cfg:={ y:=tys,n:=102,h:=0,tab:=[(251,Ztg)],cut:=[6] }
theorem ZN9 {P:Prop} (h:P:=by
  refine Zh he fun he=>?_
  refine Zi he fun r1_ he=>?_
  exact ZJH):P:=h
theorem ZOa {P:Prop} (h:P:=by
  refine Zg he (fun he=>?_) fun he=>?_
  ·exact ZN9
  ·exact Z3):P:=h
theorem ZxE:Zn Tryz.prog 205 Zn6:=by
 refine Zq (C:=ZE4) Tryz.f205 (Zk ZHm Zr) fun _ a b k he=>?_
 unfold Zn6 at he;split at he;rotate_left;exact he.elim
 rename_i a0_0 a0_1 a0_2 a0_3 a0_4 a1
 refine Zs he fun he=>?_
 refine ZK (Zm7 (a0_0,(a0_1,(a0_2,(a0_3,a0_4))))) (fun i2=>(Zm [(2,.c (.ptr 10001000 0)),(5,.c (.own 10001001 false))],[(10001000,.rc [.int .i64 (a0_0,(a0_1,(a0_2,(a0_3,a0_4)))).1,.imm y0_ (a0_0,(a0_1,(a0_2,(a0_3,a0_4)))).2.1,.imm y0_ (a0_0,(a0_1,(a0_2,(a0_3,a0_4)))).2.2.1,.int .i64 (a0_0,(a0_1,(a0_2,(a0_3,a0_4)))).2.2.2.1,.imm (.sl y0_) (a0_0,(a0_1,(a0_2,(a0_3,a0_4)))).2.2.2.2]),(10001001,.sl 3 y0_ i2 .shallow)])) he ?_ ?_
 ·rintro i2 he
  refine Zg he (fun he=>?_) fun he=>?_
  ·refine Zt (Zrg (a0_0,(a0_1,(a0_2,(a0_3,a0_4)))) i2) (fun (i3,i4)=>(Zm [(2,.c (.ptr 10002000 0)),(5,.c (.own 10002001 false)),(7,.c (.int .i64 i3)),(8,.c (.int .i64 i4))],[(10002000,.rc [.int .i64 (a0_0,(a0_1,(a0_2,(a0_3,a0_4)))).1,.imm y0_ (a0_0,(a0_1,(a0_2,(a0_3,a0_4)))).2.1,.imm y0_ (a0_0,(a0_1,(a0_2,(a0_3,a0_4)))).2.2.1,.int .i64 (a0_0,(a0_1,(a0_2,(a0_3,a0_4)))).2.2.2.1,.imm (.sl y0_) (a0_0,(a0_1,(a0_2,(a0_3,a0_4)))).2.2.2.2]),(10002001,.sl 3 y0_ i2 .shallow)])) he (Za [(10002000,10001000),(10002001,10001001)]) ?_
   rintro⟨i3,i4⟩ _ he
   refine Zg he (fun he=>?_) fun he=>?_
   ·refine And.intro (by kernel_rfl) ?_
    exact ZBs
   ·exact Z3
  ·refine Zg he (fun he=>?_) fun he=>?_
   ·refine Zt (ZjC i2) (fun i5=>(Zm [(5,.c (.own 10003000 false)),(9,.c (.int .i64 i5))],[(10003000,.sl 3 y0_ i2 .shallow)])) he (Za [(10003000,10001001)]) ?_
    rintro i5 _ he
    refine Zg he (fun he=>?_) fun he=>?_
    ·refine Zt (ZjD i2 i5) (fun i6=>(Zm [(5,.c (.own 10004000 false)),(9,.c (.int .i64 i5)),(10,.c (.int .i64 i6))],[(10004000,.sl 3 y0_ i2 .shallow)])) he (Za [(10004000,10003000)]) ?_
     rintro i6 _ he
     refine Zg he (fun he=>?_) fun he=>?_
     ·refine And.intro (by kernel_rfl) ?_
      exact ZJI
     ·refine Zh he fun he=>?_
      exact⟨_,(Zj he :),(Za [(10003000,10004000)])⟩
    ·exact Z3
   ·refine Zg he (fun he=>?_) fun he=>?_
    ·refine And.intro (by kernel_rfl) ?_
     exact ZHO
    ·refine Zt (Zm8 (a0_0,(a0_1,(a0_2,(a0_3,a0_4)))) i2) (fun i7=>(Zm [(2,.c (.ptr 10005000 0)),(5,.c (.own 10005001 false)),(11,.c (.int .i64 i7))],[(10005000,.rc [.int .i64 (a0_0,(a0_1,(a0_2,(a0_3,a0_4)))).1,.imm y0_ (a0_0,(a0_1,(a0_2,(a0_3,a0_4)))).2.1,.imm y0_ (a0_0,(a0_1,(a0_2,(a0_3,a0_4)))).2.2.1,.int .i64 (a0_0,(a0_1,(a0_2,(a0_3,a0_4)))).2.2.2.1,.imm (.sl y0_) (a0_0,(a0_1,(a0_2,(a0_3,a0_4)))).2.2.2.2]),(10005001,.sl 3 y0_ i2 .shallow)])) he (Za [(10005000,10001000),(10005001,10001001)]) ?_
     rintro i7 _ he
     exact ZOa
 ·skip
  refine Zt (Zm9 (a0_0,(a0_1,(a0_2,(a0_3,a0_4)))) a1) (fun (i,i1)=>(Zm [(1,.c (.imm y0_ a1)),(2,.c (.ptr 10000000 0)),(5,.c (.own 10000001 false)),(6,.c (.int .i64 i))],[(10000000,.rc [.int .i64 (a0_0,(a0_1,(a0_2,(a0_3,a0_4)))).1,.imm y0_ (a0_0,(a0_1,(a0_2,(a0_3,a0_4)))).2.1,.imm y0_ (a0_0,(a0_1,(a0_2,(a0_3,a0_4)))).2.2.1,.int .i64 (a0_0,(a0_1,(a0_2,(a0_3,a0_4)))).2.2.2.1,.imm (.sl y0_) (a0_0,(a0_1,(a0_2,(a0_3,a0_4)))).2.2.2.2]),(10000001,.sl 3 y0_ i1 .shallow)])) he (Za [(10000000,2),(10000001,12)]) ?_
  rintro⟨i,i1⟩ _ he
  refine Zg he (fun he=>?_) fun he=>?_
  ·refine Zh he fun he=>?_
   refine Zh he fun he=>?_
   refine Zh he fun he=>?_
   refine Zh he fun he=>?_
   exact⟨_,(Zj he :),(Za [(10000001,30)])⟩
  ·exact⟨_,(Zbn he :),(Za [(10001000,10000000),(10001001,10000001)])⟩
def Zth:Con:=fun
  |[.agg [.imm (.int .i64) m_0,.imm (.pair (.int .i64) (.pair (.sl (.int .i64)) (.pair (.sl (.int .i64)) (.pair (.int .i64) (.sl (.sl (.int .i64))))))) m_1],.c (.imm (.int .i64) cells)],[]=>.opt _ (Zpg (m_0,m_1) cells) (fun r=>.ret (.tup [.c (.own 900 false),.c (.bool r.1)]) [(900,.sl 3 y0_ r.2 .shallow)])
  |_,_=>.fail
def ZG9:Cfg:={ y:=tys,n:=41,h:=0,tab:=[] }
theorem ZEN {P:Prop} (h:P:=by
  exact Zv [(4,[]),(5,[])] (Zj he :) (Za [(900,10000001)])):P:=h
theorem ZHn:Zn Tryz.prog 247 Zth:=by
 refine Zq (C:=ZG9) Tryz.f247 Zr fun _ a b k he=>?_
 unfold Zth at he;split at he;rotate_left;exact he.elim
 rename_i m_0 m_1 cells
 refine Zs he fun he=>?_
 refine Zh he fun he=>?_
 refine Zh he fun he=>?_
 refine Zt (Zoo (m_0,m_1)) (fun (i,out)=>(Zm [(2,.c (.ptr 10000000 0)),(6,.c (.own 10000001 false)),(7,.c (.int .i64 i))],[(10000000,.rc [.imm y0_ (m_0,m_1).1,.imm y5_ (m_0,m_1).2]),(10000001,.sl 3 y0_ out .shallow)])) he (Za [(10000000,2),(10000001,10)]) ?_
 rintro⟨i,out⟩ _ he
 refine Zg he (fun he=>?_) fun he=>?_
 ·refine And.intro (by kernel_rfl) ?_
  refine Zh he fun he=>?_
  refine Zh he fun he=>?_
  refine Zg he (fun he=>?_) fun he=>?_
  ·refine Zh he fun he=>?_
   refine Zh he fun he=>?_
   refine Zh he fun he=>?_
   exact ZEN
  ·exact ZBo
 ·exact ZEN
def ZqN:Con:=fun
  |[.agg [.imm (.int .i64) a0_0,.imm (.pair (.int .i64) (.pair (.sl (.int .i64)) (.pair (.sl (.int .i64)) (.pair (.int .i64) (.sl (.sl (.int .i64))))))) a0_1],.agg [.int .i64 a1_0,.imm (.int .i64) a1_1,.imm (.int .i64) a1_2,.int .i64 a1_3,.imm (.sl (.int .i64)) a1_4]],[]=>.opt _ (Zpz (a0_0,a0_1) (a1_0,(a1_1,(a1_2,(a1_3,a1_4))))) (fun r=>.ret (.c (.own 900 false)) [(900,.sl 89 y7_ r (.deep true .no))])
  |_,_=>.fail
def ZsF:Sched:=.alt 12 (.first 13 (.alt 14 .done .stop)) .stop
def ZsG:Sched:=.alt 11 ZsF .stop
def ZsH:Sched:=Zy [9,10] ZsG
def ZsI:Sched:=.alt 5 (Zy [7,8] ZsH) .stop
def ZsJ:Sched:=.alt 3 ZsH .stop
def ZsK:Sched:=Zy [9,10] (.alt 1 ZsG (.alt 11 (.alt 1 ZsF .stop) .stop))
def ZsL:Sched:=.first 10 (.alt 11 .done .stop)
def Znj:Sched:=.alt 11 (.first 12 (.alt 13 (.alt 14 (.first 15 .done) .stop) .stop)) .stop
def ZsM:Sched:=.alt 10 Znj .stop
def Zrp:Sched:=.alt 3 (Zy [5,6] Znj) .stop
def Zrq:Sched:=.alt 1 Znj .stop
def ZDD:Cfg:={ y:=tys,n:=100,h:=0,tab:=[(133,Zgg),(189,Zjg),(205,Zn6),(247,Zth)],cut:=[6,16,17,20],deep:=[37,91],sched:=[(5,(Zy [0,2,4,6] (.alt 1 (.alt 3 ZsI (.alt 5 (Zy [7,8] ZsJ) .stop)) (.alt 3 (.alt 1 ZsI (.alt 5 (Zy [7,8] ZsK) .stop)) (.alt 5 (Zy [7,8] (.alt 1 ZsJ (.alt 3 ZsK .stop))) .stop))))),(15,(Zy [0,1,3,6,7,8] (.alt 2 (Zy [4,5] (.alt 9 ZsL .stop)) (.alt 9 (.alt 2 (Zy [4,5] ZsL) .stop) .stop)))),(16,(Zy [0,2,4,7,8,9] (.alt 1 (.alt 3 (Zy [5,6] ZsM) (.alt 10 Zrp .stop)) (.alt 3 (Zy [5,6] (.alt 1 ZsM (.alt 10 Zrq .stop))) (.alt 10 (.alt 1 Zrp (.alt 3 (Zy [5,6] Zrq) .stop)) .stop)))))] }
theorem ZEO {P:Prop} (h:P:=by
  refine Y4 ?_
  refine⟨r8_,hq2,?_⟩
  refine And.intro hq3 ?_
  refine Y4 ?_
  refine Y4 ?_
  refine And.intro hq4 ?_
  refine Zh he fun he=>?_
  exact⟨_,(Zj he :),(Za [(10008000,10010000),(10008001,10010001),(10008002,10010002),(10008003,10010003),(10008004,10010004),(10008005,10010005),(10008006,79),(10008007,10010007)])⟩):P:=h
theorem ZOb {P:Prop} (h:P:=by
  skip
  refine And.intro hq1 ?_
  refine Y4 ?_
  exact ZEO):P:=h
theorem ZOc {P:Prop} (h:P:=by
  skip
  refine Y4 ?_
  refine And.intro hq1 ?_
  exact ZEO):P:=h
theorem ZOd {P:Prop} (h:P:=by
  refine And.intro hq2 ?_
  refine Y4 ?_
  exact⟨_,he,(Za [(10010000,10008000),(10010001,10008001),(10010002,10008002),(10010003,10008003),(10010004,10008004),(10010005,10008005),(10010006,10008006),(10010007,10008007)])⟩):P:=h
theorem ZBt {P:Prop} (h:P:=by
  refine Y4 ?_
  refine Y4 ?_
  refine And.intro hq3 ?_
  refine Y4 ?_
  exact ZMO):P:=h
theorem ZOe {P:Prop} (h:P:=by
  skip
  refine Y4 ?_
  refine And.intro hq1 ?_
  refine And.intro hq2 ?_
  exact ZBt):P:=h
theorem ZOf {P:Prop} (h:P:=by
  refine And.intro hq2 ?_
  refine Y5 ?_ ?_
  ·skip
   exact ZBt
  ·skip
   exact ZBt):P:=h
theorem ZD1:Zn Tryz.prog 193 ZqN:=by
 refine Zq (C:=ZDD) Tryz.f193 (Zk ZkP (Zk Zq3 (Zk ZxE (Zk ZHn Zr)))) fun _ a b k he=>?_
 unfold ZqN at he;split at he;rotate_left;exact he.elim
 rename_i a0_0 a0_1 a1_0 a1_1 a1_2 a1_3 a1_4
 refine Zs he fun he=>?_
 refine ZK (Zih (a0_0,a0_1) (a1_0,(a1_1,(a1_2,(a1_3,a1_4))))) (fun i_01=>(Zm [(2,.c (.ptr 10001000 0)),(3,.c (.ptr 10001001 0)),(5,.c (.ptr 10001002 0))],[(10001000,.rc [.imm y0_ (a0_0,a0_1).1,.imm y5_ (a0_0,a0_1).2]),(10001001,.rc [.int .i64 (a1_0,(a1_1,(a1_2,(a1_3,a1_4)))).1,.imm y0_ (a1_0,(a1_1,(a1_2,(a1_3,a1_4)))).2.1,.imm y0_ (a1_0,(a1_1,(a1_2,(a1_3,a1_4)))).2.2.1,.int .i64 (a1_0,(a1_1,(a1_2,(a1_3,a1_4)))).2.2.2.1,.imm (.sl y0_) (a1_0,(a1_1,(a1_2,(a1_3,a1_4)))).2.2.2.2]),(10001002,.rc [.own 10001003 false,.nil]),(10001003,.sl 3 y0_ i_01 .shallow)])) he ?_ ?_
 ·rintro i_01 he
  refine Zh he fun he=>?_
  refine Zt (ZlP (a0_0,a0_1) (a1_0,(a1_1,(a1_2,(a1_3,a1_4)))) i_01) (fun (i1,i8,i9)=>(Zm [(2,.c (.ptr 10002000 0)),(3,.c (.ptr 10002001 0)),(5,.c (.ptr 10002002 0)),(7,.c (.own 10002003 false)),(8,.c (.own 10002004 false)),(9,.c (.bool i1))],[(10002000,.rc [.imm y0_ (a0_0,a0_1).1,.imm y5_ (a0_0,a0_1).2]),(10002001,.rc [.int .i64 (a1_0,(a1_1,(a1_2,(a1_3,a1_4)))).1,.imm y0_ (a1_0,(a1_1,(a1_2,(a1_3,a1_4)))).2.1,.imm y0_ (a1_0,(a1_1,(a1_2,(a1_3,a1_4)))).2.2.1,.int .i64 (a1_0,(a1_1,(a1_2,(a1_3,a1_4)))).2.2.2.1,.imm (.sl y0_) (a1_0,(a1_1,(a1_2,(a1_3,a1_4)))).2.2.2.2]),(10002002,.rc [.own 10002005 false,.nil]),(10002003,.sl 89 y7_ i8 (.deep true .no)),(10002004,.sl 3 y0_ i9 .shallow),(10002005,.sl 3 y0_ i_01 .shallow)])) he (Za [(10002000,10001000),(10002001,10001001),(10002002,10001002),(10002003,37),(10002004,41),(10002005,10001003)]) ?_
  rintro⟨i1,i8,i9⟩ _ he
  refine Zg he (fun he=>?_) fun he=>?_
  ·refine Zh he fun he=>?_
   refine ZK (Zii (a1_0,(a1_1,(a1_2,(a1_3,a1_4)))) i_01 i8 i9) (fun (i13,i14)=>(Zm [(2,.c (.ptr 10011000 0)),(3,.c (.ptr 10011001 0)),(5,.c (.ptr 10011002 0)),(7,.c (.own 10011003 false)),(8,.c (.own 10011004 false)),(10,.c (.own 10011005 false)),(11,.c (.own 10011006 false))],[(10011000,.rc [.imm y0_ (a0_0,a0_1).1,.imm y5_ (a0_0,a0_1).2]),(10011001,.rc [.int .i64 (a1_0,(a1_1,(a1_2,(a1_3,a1_4)))).1,.imm y0_ (a1_0,(a1_1,(a1_2,(a1_3,a1_4)))).2.1,.imm y0_ (a1_0,(a1_1,(a1_2,(a1_3,a1_4)))).2.2.1,.int .i64 (a1_0,(a1_1,(a1_2,(a1_3,a1_4)))).2.2.2.1,.imm (.sl y0_) (a1_0,(a1_1,(a1_2,(a1_3,a1_4)))).2.2.2.2]),(10011002,.rc [.own 10011007 false,.nil]),(10011003,.sl 89 y7_ i8 (.deep true .no)),(10011004,.sl 3 y0_ i9 .shallow),(10011005,.sl 3 y0_ i13 .shallow),(10011006,.sl 3 y0_ i14 .shallow),(10011007,.sl 3 y0_ i_01 .shallow)])) he ?_ ?_
   ·rintro⟨i13,i14⟩ he
    refine ZK (Zij i_01 i9) (fun i15=>(Zm [(2,.c (.ptr 10012000 0)),(3,.c (.ptr 10012001 0)),(5,.c (.ptr 10012002 0)),(7,.c (.own 10012003 false)),(8,.c (.own 10012004 false))],[(10012000,.rc [.imm y0_ (a0_0,a0_1).1,.imm y5_ (a0_0,a0_1).2]),(10012001,.rc [.int .i64 (a1_0,(a1_1,(a1_2,(a1_3,a1_4)))).1,.imm y0_ (a1_0,(a1_1,(a1_2,(a1_3,a1_4)))).2.1,.imm y0_ (a1_0,(a1_1,(a1_2,(a1_3,a1_4)))).2.2.1,.int .i64 (a1_0,(a1_1,(a1_2,(a1_3,a1_4)))).2.2.2.1,.imm (.sl y0_) (a1_0,(a1_1,(a1_2,(a1_3,a1_4)))).2.2.2.2]),(10012002,.rc [.own 10012005 false,.nil]),(10012003,.sl 89 y7_ i15 (.deep true .no)),(10012004,.sl 3 y0_ i9 .shallow),(10012005,.sl 3 y0_ i_01 .shallow)])) he ?_ ?_
    ·rintro i15 he
     refine Zi he fun r11_ he=>?_
     exact⟨_,(Zj he :),(Za [(10002000,10012000),(10002001,10012001),(10002002,10012002),(10002003,10012003),(10002004,97900),(10002005,10012005)])⟩
    ·skip
     refine Zi he fun r9_ he=>?_
     refine Zg he (fun he=>?_) fun he=>?_
     ·refine Zi he fun r10_ he=>?_
      refine Zh he fun he=>?_
      exact⟨_,he,(Za [(10012000,10011000),(10012001,10011001),(10012002,10011002),(10012003,92),(10012004,10011004),(10012005,10011007)])⟩
     ·exact⟨_,he,(Za [(10012000,10011000),(10012001,10011001),(10012002,10011002),(10012003,10011003),(10012004,10011004),(10012005,10011007)])⟩
   ·skip
    refine Zt (ZlQ (a0_0,a0_1) (a1_0,(a1_1,(a1_2,(a1_3,a1_4)))) i_01 i8 i9) (fun (i10,i11,i12)=>(Zm [(2,.c (.ptr 10008000 0)),(3,.c (.ptr 10008001 0)),(5,.c (.ptr 10008002 0)),(7,.c (.own 10008003 false)),(8,.c (.own 10008004 false)),(10,.c (.own 10008005 false)),(11,.c (.own 10008006 false)),(12,.c (.int .i64 i10))],[(10008000,.rc [.imm y0_ (a0_0,a0_1).1,.imm y5_ (a0_0,a0_1).2]),(10008001,.rc [.int .i64 (a1_0,(a1_1,(a1_2,(a1_3,a1_4)))).1,.imm y0_ (a1_0,(a1_1,(a1_2,(a1_3,a1_4)))).2.1,.imm y0_ (a1_0,(a1_1,(a1_2,(a1_3,a1_4)))).2.2.1,.int .i64 (a1_0,(a1_1,(a1_2,(a1_3,a1_4)))).2.2.2.1,.imm (.sl y0_) (a1_0,(a1_1,(a1_2,(a1_3,a1_4)))).2.2.2.2]),(10008002,.rc [.own 10008007 false,.nil]),(10008003,.sl 89 y7_ i8 (.deep true .no)),(10008004,.sl 3 y0_ i9 .shallow),(10008005,.sl 3 y0_ i11 .shallow),(10008006,.sl 3 y0_ i12 .shallow),(10008007,.sl 3 y0_ i_01 .shallow)])) he (Za [(10008000,10002000),(10008001,10002001),(10008002,10002002),(10008003,10002003),(10008004,10002004),(10008005,46),(10008006,47),(10008007,10002005)]) ?_
    rintro⟨i10,i11,i12⟩ _ he
    refine Zg he (fun he=>?_) fun he=>?_
    ·refine ZK (Zp2 (a0_0,a0_1) (a1_0,(a1_1,(a1_2,(a1_3,a1_4)))) i9 i10 i11 i12) (fun _=>(Zm [(2,.c (.ptr 10010000 0)),(3,.c (.ptr 10010001 0)),(5,.c (.ptr 10010002 0)),(7,.c (.own 10010003 false)),(8,.c (.own 10010004 false)),(10,.c (.own 10010005 false)),(11,.c (.own 10010006 false)),(12,.c (.int .i64 i10))],[(10010000,.rc [.imm y0_ (a0_0,a0_1).1,.imm y5_ (a0_0,a0_1).2]),(10010001,.rc [.int .i64 (a1_0,(a1_1,(a1_2,(a1_3,a1_4)))).1,.imm y0_ (a1_0,(a1_1,(a1_2,(a1_3,a1_4)))).2.1,.imm y0_ (a1_0,(a1_1,(a1_2,(a1_3,a1_4)))).2.2.1,.int .i64 (a1_0,(a1_1,(a1_2,(a1_3,a1_4)))).2.2.2.1,.imm (.sl y0_) (a1_0,(a1_1,(a1_2,(a1_3,a1_4)))).2.2.2.2]),(10010002,.rc [.own 10010007 false,.nil]),(10010003,.sl 89 y7_ i8 (.deep true .no)),(10010004,.sl 3 y0_ i9 .shallow),(10010005,.sl 3 y0_ (i11.set ((a1_0,(a1_1,(a1_2,(a1_3,a1_4)))).2.1.getD i10.toNat 0).toNat (i9.getD i10.toNat 0)) .shallow),(10010006,.sl 3 y0_ i12 .shallow),(10010007,.sl 3 y0_ i_01 .shallow)])) he ?_ ?_
     ·rintro⟨⟩ he
      refine And.intro (by kernel_rfl) ?_
      refine Zh he fun he=>?_
      obtain⟨hq1,he⟩:=ZD he
      obtain⟨r8_,hq2,he⟩:=ZS he
      obtain⟨hq3,he⟩:=ZD he
      obtain⟨hq4,he⟩:=ZD he
      refine And.intro ?_ (And.intro ?_ (And.intro ?_ (Y1)))
      ·skip
       refine Y5 ?_ ?_
       ·exact ZOb
       ·exact ZOc
      ·skip
       refine And.intro hq1 ?_
       refine Y5 ?_ ?_
       ·skip
        refine Y4 ?_
        exact ZEO
       ·skip
        refine Y4 ?_
        exact ZEO
      ·skip
       refine Y5 ?_ ?_
       ·exact ZOc
       ·exact ZOb
     ·skip
      refine And.intro (by kernel_rfl) ?_
      refine Zh he fun he=>?_
      obtain⟨hq1,he⟩:=ZD he
      obtain⟨hq2,he⟩:=ZD he
      refine Y5 ?_ ?_
      ·skip
       refine And.intro hq1 ?_
       refine Y4 ?_
       exact ZOd
      ·skip
       refine Y4 ?_
       refine And.intro hq1 ?_
       exact ZOd
    ·exact⟨_,(Zbn he :),(Za [(10011000,10008000),(10011001,10008001),(10011002,10008002),(10011003,10008003),(10011004,10008004),(10011005,10008005),(10011006,10008006),(10011007,10008007)])⟩
  ·exact Zv [(4,[])] (Zj he :) (Za [(900,10002003)])
 ·skip
  refine Zt (Zik (a0_0,a0_1) (a1_0,(a1_1,(a1_2,(a1_3,a1_4))))) (fun (i,i_0)=>(Zm [(2,.c (.ptr 10000000 0)),(3,.c (.ptr 10000001 0)),(5,.c (.ptr 10000002 0)),(6,.c (.int .i64 i))],[(10000000,.rc [.imm y0_ (a0_0,a0_1).1,.imm y5_ (a0_0,a0_1).2]),(10000001,.rc [.int .i64 (a1_0,(a1_1,(a1_2,(a1_3,a1_4)))).1,.imm y0_ (a1_0,(a1_1,(a1_2,(a1_3,a1_4)))).2.1,.imm y0_ (a1_0,(a1_1,(a1_2,(a1_3,a1_4)))).2.2.1,.int .i64 (a1_0,(a1_1,(a1_2,(a1_3,a1_4)))).2.2.2.1,.imm (.sl y0_) (a1_0,(a1_1,(a1_2,(a1_3,a1_4)))).2.2.2.2]),(10000002,.rc [.own 10000003 false,.nil]),(10000003,.sl 3 y0_ i_0 .shallow)])) he (Za [(10000000,2),(10000001,3),(10000002,5)]) ?_
  rintro⟨i,i_0⟩ _ he
  refine Zg he (fun he=>?_) fun he=>?_
  ·refine And.intro (by kernel_rfl) ?_
   obtain⟨hq1,he⟩:=ZD he
   obtain⟨hq2,he⟩:=ZD he
   obtain⟨hq3,he⟩:=ZD he
   refine And.intro ?_ (And.intro ?_ (And.intro ?_ (Y1)))
   ·skip
    refine Y5 ?_ ?_
    ·exact ZOe
    ·skip
     refine And.intro hq1 ?_
     refine Y4 ?_
     refine And.intro hq2 ?_
     exact ZBt
   ·skip
    refine Y5 ?_ ?_
    ·exact ZOe
    ·skip
     refine And.intro hq1 ?_
     exact ZOf
   ·skip
    refine And.intro hq1 ?_
    refine Y5 ?_ ?_
    ·skip
     refine Y4 ?_
     refine And.intro hq2 ?_
     exact ZBt
    ·skip
     exact ZOf
  ·exact⟨_,(Zbn he :),(Za [(10001000,10000000),(10001001,10000001),(10001002,10000002),(10001003,10000003)])⟩
def Ztl:Con:=fun
  |[.agg [.imm (.int .i64) m_0,.imm (.pair (.int .i64) (.pair (.sl (.int .i64)) (.pair (.sl (.int .i64)) (.pair (.int .i64) (.sl (.sl (.int .i64))))))) m_1],.agg [.int .i64 r__0,.imm (.int .i64) r__1,.imm (.int .i64) r__2,.int .i64 r__3,.imm (.sl (.int .i64)) r__4]],[]=>.opt _ (Zsd (m_0,m_1) (r__0,(r__1,(r__2,(r__3,r__4))))) (fun r=>.ret (.c (.own 900 false)) [(900,.sl 89 y7_ r (.deep true .no))])
  |_,_=>.fail
def ZHe:Cfg:={ y:=tys,n:=20,h:=0,tab:=[(191,ZqO),(192,Znz),(193,ZqN)] }
theorem ZHr:Zn Tryz.prog 132 Ztl:=by
 refine Zq (C:=ZHe) Tryz.f132 (Zk ZD2 (Zk ZAI (Zk ZD1 Zr))) fun _ a b k he=>?_
 unfold Ztl at he;split at he;rotate_left;exact he.elim
 rename_i m_0 m_1 r__0 r__1 r__2 r__3 r__4
 refine Zs he fun he=>?_
 refine Zg he (fun he=>?_) fun he=>?_
 ·refine Zi he fun r1_ he=>?_
  exact Zv [(4,[])] (Zj he :) (Za [(900,12900)])
 ·refine Zg he (fun he=>?_) fun he=>?_
  ·refine Zi he fun r2_ he=>?_
   exact Zv [(4,[])] (Zj he :) (Za [(900,17900)])
  ·refine Zi he fun r3_ he=>?_
   exact Zv [(4,[])] (Zj he :) (Za [(900,20900)])
def Zjh:Con:=fun
  |[.agg [.imm (.int .i64) m_0,.imm (.pair (.int .i64) (.pair (.sl (.int .i64)) (.pair (.sl (.int .i64)) (.pair (.int .i64) (.sl (.sl (.int .i64))))))) m_1]],[]=>.opt _ (Zh8 (m_0,m_1)) (fun r=>.ret (.tup [.c (.own 900 false),.c (.bool r.1)]) [(900,.sl 89 y7_ r.2 (.deep true .no))])
  |_,_=>.fail
def Zp6:Sched:=.alt 7 (.alt 8 (.first 9 .done) .stop) .stop
def Zz7:Cfg:={ y:=tys,n:=45,h:=0,tab:=[(130,Zfo),(131,Ztk),(132,Ztl)],cut:=[8,12],deep:=[10,11,43],sched:=[(11,(Zy [0,2,4] (.alt 1 (.alt 3 (Zy [5,6] Zp6) .stop) (.alt 3 (Zy [5,6] (.alt 1 Zp6 .stop)) .stop))))] }
theorem ZOg {P:Prop} (h:P:=by
  refine Y4 ?_
  refine⟨r6_,hq2,?_⟩
  refine Y4 ?_
  refine And.intro hq3 ?_
  refine Zh he fun he=>?_
  exact⟨_,(Zj he :),(Za [(10002001,39)])⟩):P:=h
theorem ZsY:Zn Tryz.prog 62 Zjh:=by
 refine Zq (C:=Zz7) Tryz.f62 (Zk Zka (Zk ZHq (Zk ZHr Zr))) fun _ a b k he=>?_
 unfold Zjh at he;split at he;rotate_left;exact he.elim
 rename_i m_0 m_1
 refine Zs he fun he=>?_
 refine Zi he fun r1_ he=>?_
 refine Zg he (fun he=>?_) fun he=>?_
 ·exact Zv [(2,[]),(3,[])] (Zj he :) (Za [(900,10)])
 ·refine ZK (Zix (m_0,m_1)) (fun out1=>(Zm [(1,.c (.ptr 10001000 0)),(4,.c (.own 10001001 false))],[(10001000,.rc [.imm y0_ (m_0,m_1).1,.imm y5_ (m_0,m_1).2]),(10001001,.sl 89 y7_ out1 (.deep true .no))])) he ?_ ?_
  ·rintro out1 he
   refine ZK (Ziy) (fun out3=>(Zm [(4,.c (.own 10003000 false))],[(10003000,.sl 89 y7_ out3 (.deep true .no))])) he ?_ ?_
   ·rintro out3 he
    refine Zg he (fun he=>?_) fun he=>?_
    ·exact Zv [(2,[]),(3,[])] (Zj he :) (Za [(900,43)])
    ·exact Zv [(2,[]),(3,[])] (Zj he :) (Za [(900,10003000)])
   ·skip
    refine Zt (Ziz (m_0,m_1)) (fun (i1,out2)=>(Zm [(1,.c (.ptr 10002000 0)),(4,.c (.own 10002001 false)),(6,.c (.int .i64 i1))],[(10002000,.rc [.imm y0_ (m_0,m_1).1,.imm y5_ (m_0,m_1).2]),(10002001,.sl 89 y7_ out2 (.deep true .no))])) he (Za [(10002000,10001000),(10002001,10001001)]) ?_
    rintro⟨i1,out2⟩ _ he
    refine Zg he (fun he=>?_) fun he=>?_
    ·refine And.intro (by kernel_rfl) ?_
     obtain⟨hq1,he⟩:=ZD he
     obtain⟨r6_,hq2,he⟩:=ZS he
     obtain⟨hq3,he⟩:=ZD he
     refine Y5 ?_ ?_
     ·skip
      refine Y4 ?_
      refine And.intro hq1 ?_
      exact ZOg
     ·skip
      refine And.intro hq1 ?_
      refine Y4 ?_
      exact ZOg
    ·exact⟨_,(Zbn he :),(Za [(10003000,10002001)])⟩
  ·skip
   refine Zt (ZiA (m_0,m_1)) (fun (i,out)=>(Zm [(1,.c (.ptr 10000000 0)),(4,.c (.own 10000001 false)),(5,.c (.int .i64 i))],[(10000000,.rc [.imm y0_ (m_0,m_1).1,.imm y5_ (m_0,m_1).2]),(10000001,.sl 89 y7_ out (.deep true .no))])) he (Za [(10000000,1),(10000001,11)]) ?_
   rintro⟨i,out⟩ _ he
   refine Zg he (fun he=>?_) fun he=>?_
   ·refine Zi he fun r3_ he=>?_
    refine Zh he fun he=>?_
    refine Zh he fun he=>?_
    exact⟨_,(Zj he :),(Za [(10000001,23)])⟩
   ·exact⟨_,(Zbn he :),(Za [(10001000,10000000),(10001001,10000001)])⟩
def ZkD:Con:=fun
  |[.agg [.imm (.int .i64) m_0,.imm (.pair (.int .i64) (.pair (.sl (.int .i64)) (.pair (.sl (.int .i64)) (.pair (.int .i64) (.sl (.sl (.int .i64))))))) m_1],.c (.imm (.int .i64) coefs)],[]=>.opt _ (ZkY (m_0,m_1) coefs) (fun r=>.ret (.c (.bool r)) [])
  |_,_=>.fail
def ZE7:Cfg:={ y:=tys,n:=35,h:=0,tab:=[(130,Zfo)] }
theorem ZrP:Zn Tryz.prog 63 ZkD:=by
 refine Zq (C:=ZE7) Tryz.f63 (Zk Zka Zr) fun _ a b k he=>?_
 unfold ZkD at he;split at he;rotate_left;exact he.elim
 rename_i m_0 m_1 coefs
 refine Zs he fun he=>?_
 refine Zi he fun r1_ he=>?_
 refine ZC he (fun he=>?_) fun he=>?_
 ·refine Zg he (fun he=>?_) fun he=>?_
  ·exact Z3
  ·refine Zt (Zng coefs) (fun i=>(Zm [(1,.c (.imm y0_ coefs)),(5,.c (.int .i64 i))],[])) he (Za []) ?_
   rintro i _ he
   refine Zg he (fun he=>?_) fun he=>?_
   ·refine Zh he fun he=>?_
    refine ZC he (fun he=>?_) fun he=>?_
    ·refine Zh he fun he=>?_
     exact ZEM
    ·exact Zbf
   ·exact Zbf
 ·exact Z3
def Zn7:Con:=fun
  |[.c (.imm (.int .i64) coefs),.c (.imm (.int .i64) cells)],[]=>.opt _ (Zn0 coefs cells) (fun r=>.ret (.c (.int .i64 r)) [])
  |_,_=>.fail
def ZE8:Cfg:={ y:=tys,n:=25,h:=0,tab:=[] }
theorem ZxF:Zn Tryz.prog 65 Zn7:=by
 refine Zq (C:=ZE8) Tryz.f65 Zr fun _ a b k he=>?_
 unfold Zn7 at he;split at he;rotate_left;exact he.elim
 rename_i coefs cells
 refine Zs he fun he=>?_
 refine Zt (Zrk coefs cells) (fun (n,i)=>(Zm [(0,.c (.imm y0_ coefs)),(1,.c (.imm y0_ cells)),(5,.c (.int .i64 n)),(6,.c (.int .i64 i))],[])) he (Za []) ?_
 rintro⟨n,i⟩ _ he
 refine Zg he (fun he=>?_) fun he=>?_
 ·refine And.intro (by kernel_rfl) ?_
  exact ZBs
 ·exact Zbf
def Zfy:Con:=fun
  |[.agg [.imm (.int .i64) m_0,.imm (.pair (.int .i64) (.pair (.sl (.int .i64)) (.pair (.sl (.int .i64)) (.pair (.int .i64) (.sl (.sl (.int .i64))))))) m_1],.c (.imm (.int .i64) coefs),.c (.int .i64 most)],[]=>.opt _ (ZeT (m_0,m_1) coefs most) (fun r=>.ret (.tup [.agg [.own 901 false,.int .i64 r.2.1],.c (.bool r.1)]) [(900,.rc [.own 901 false,.int .i64 r.2.1]),(901,.sl 155 y6_ r.2.2 .shallow)])
  |_,_=>.fail
def ZvJ:Cfg:={ y:=tys,n:=59,h:=0,tab:=[(63,ZkD),(133,Zgg),(134,Zji)],cut:=[11],sched:=[(10,(Zy [0,2,3,5,6,7,8,9,10,11] (.alt 1 (.alt 4 (.first 12 (.alt 13 .done .stop)) .stop) .stop)))] }
theorem Zx7 {P:Prop} (h:P:=by
  exact Zv [(6,[900]),(7,[])] (Zj he :) (Za [(900,6)])):P:=h
theorem ZoB:Zn Tryz.prog 64 Zfy:=by
 refine Zq (C:=ZvJ) Tryz.f64 (Zk ZrP (Zk ZkP (Zk Zq4 Zr))) fun _ a b k he=>?_
 unfold Zfy at he;split at he;rotate_left;exact he.elim
 rename_i m_0 m_1 coefs most
 refine Zs he fun he=>?_
 refine Zi he fun r1_ he=>?_
 refine ZC he (fun he=>?_) fun he=>?_
 ·refine ZC he (fun he=>?_) fun he=>?_
  ·refine Zg he (fun he=>?_) fun he=>?_
   ·exact Zx7
   ·refine Zh he fun he=>?_
    refine ZK (Zh5 most) (fun net3=>(Zm [(2,.c (.int .i64 most)),(6,.c (.ptr 10003000 0)),(8,.c (.own 10003001 false))],[(10003000,.rc [.nil,.int .i64 (0:Int)]),(10003001,.sl 3 y0_ net3 .shallow)])) he ?_ ?_
    ·rintro net3 he
     refine Zh he fun he=>?_
     refine Zi he fun r7_ he=>?_
     exact Zv [(6,[900]),(7,[])] (Zj he :) (Za [(900,10003000),(901,57901)])
    ·skip
     refine Zt (Zfg (m_0,m_1) coefs most) (fun (i,net1)=>(Zm [(1,.c (.imm y0_ coefs)),(2,.c (.int .i64 most)),(3,.c (.ptr 10000000 0)),(6,.c (.ptr 10000001 0)),(8,.c (.own 10000002 false)),(9,.c (.int .i64 i))],[(10000000,.rc [.imm y0_ (m_0,m_1).1,.imm y5_ (m_0,m_1).2]),(10000001,.rc [.nil,.int .i64 (0:Int)]),(10000002,.sl 3 y0_ net1 .shallow)])) he (Za [(10000000,3),(10000001,6),(10000002,24)]) ?_
     rintro⟨i,net1⟩ _ he
     refine Zg he (fun he=>?_) fun he=>?_
     ·refine Zt (Zfh (m_0,m_1) coefs i) (fun (k_1,net2)=>(Zm [(1,.c (.imm y0_ coefs)),(2,.c (.int .i64 most)),(3,.c (.ptr 10002000 0)),(6,.c (.ptr 10002001 0)),(8,.c (.own 10002002 false)),(9,.c (.int .i64 i)),(10,.c (.int .i64 k_1))],[(10002000,.rc [.imm y0_ (m_0,m_1).1,.imm y5_ (m_0,m_1).2]),(10002001,.rc [.nil,.int .i64 (0:Int)]),(10002002,.sl 3 y0_ net2 .shallow)])) he (Za [(10002000,10000000),(10002001,10000001),(10002002,10000002)]) ?_
      rintro⟨k_1,net2⟩ _ he
      refine Zh he fun he=>?_
      refine Zg he (fun he=>?_) fun he=>?_
      ·refine And.intro (by kernel_rfl) ?_
       refine Zh he fun he=>?_
       refine Zh he fun he=>?_
       refine Zh he fun he=>?_
       refine Y4 ?_
       refine Y4 ?_
       refine Zi he fun r6_ he=>?_
       refine Zh he fun he=>?_
       exact Zk0
      ·refine Zh he fun he=>?_
       exact⟨_,(Zj he :),(Za [(10000000,10002000),(10000001,10002001),(10000002,10002002)])⟩
     ·exact⟨_,(Zbn he :),(Za [(10003000,10000001),(10003001,10000002)])⟩
  ·exact Zx7
 ·exact Zx7
def Zin:Con:=fun
  |[.c (.imm (.pair (.sl (.pair (.int .i64) (.int .i64))) (.int .i64)) list_)],[]=>.opt _ (Zg5 list_) (fun r=>.ret (.c (.bool r)) [])
  |_,_=>.fail
def ZzD:Cfg:={ y:=tys,n:=19,h:=0,tab:=[(168,Zbd)] }
theorem ZBu {P:Prop} (h:P:=by
  rintro i _ he
  refine Zg he (fun he=>?_) fun he=>?_
  ·refine Zh he fun he=>?_
   refine Zi he fun r1_ he=>?_
   exact ZEM
  ·exact Zbf):P:=h
theorem Zrt:Zn Tryz.prog 109 Zin:=by
 refine Zq (C:=ZzD) Tryz.f109 (Zk ZbD Zr) fun _ a b k he=>?_
 unfold Zin at he;split at he;rotate_left;exact he.elim
 rename_i list_
 refine Zs he fun he=>?_
 refine Zt (Zhv list_) (fun i=>(Zm [(0,.c (.imm y7_ list_)),(3,.c (.int .i64 i))],[])) he (Za []) ?_
 exact ZBu
def Zjj:Con:=fun
  |[.c (.own 0 false),.c (.int .i64 lit)],[(0,.sl 3 (.int .i64) p .shallow)]=>.opt _ (ZgU lit p) (fun r=>.ret (.tup []) [(0,.sl 3 y0_ r .shallow)])
  |_,_=>.fail
def ZDy:Cfg:={ y:=tys,n:=15,h:=1,tab:=[] }
theorem Zq5:Zn Tryz.prog 194 Zjj:=by
 refine Zq (C:=ZDy) Tryz.f194 Zr fun _ a b k he=>?_
 unfold Zjj at he;split at he;rotate_left;exact he.elim
 rename_i lit p
 refine Zs he fun he=>?_
 refine Zg he (fun he=>?_) fun he=>?_
 ·refine Zh he fun he=>?_
  refine Zh he fun he=>?_
  exact Zv [] (Zj he :) (Za [] (l:=[]) (st':=[(0,.sl 3 y0_ (p.set (lit - (1:Int)).toNat (1:Int)) .shallow)]))
 ·refine Zh he fun he=>?_
  refine Zh he fun he=>?_
  refine Zh he fun he=>?_
  exact Zv [] (Zj he :) (Za [] (l:=[]) (st':=[(0,.sl 3 y0_ (p.set ((0 - lit) - (1:Int)).toNat (-1:Int)) .shallow)]))
def Zn5:Con:=fun
  |[.c (.imm (.int .i64) p),.c (.int .i64 lit)],[]=>.opt _ (ZnX p lit) (fun r=>.ret (.c (.int .i64 r)) [])
  |_,_=>.fail
def ZE0:Cfg:={ y:=tys,n:=19,h:=0,tab:=[] }
theorem ZEP {P:Prop} (h:P:=by
  refine Zh he fun he=>?_
  exact ZEJ):P:=h
theorem ZOh {P:Prop} (h:P:=by
  refine Zh he fun he=>?_
  refine Zh he fun he=>?_
  exact ZEP):P:=h
theorem ZxD:Zn Tryz.prog 288 Zn5:=by
 refine Zq (C:=ZE0) Tryz.f288 Zr fun _ a b k he=>?_
 unfold Zn5 at he;split at he;rotate_left;exact he.elim
 rename_i p lit
 refine Zs he fun he=>?_
 refine Zg he (fun he=>?_) fun he=>?_
 ·exact ZEP
 ·exact ZOh
def Zn4:Con:=fun
  |[.agg [.imm (.pair (.int .i64) (.int .i64)) c__0,.int .i64 c__1],.c (.imm (.int .i64) p)],[]=>.opt _ (ZnW (c__0,c__1) p) (fun r=>.ret (.c (.int .i64 r)) [])
  |_,_=>.fail
def ZEZ:Cfg:={ y:=tys,n:=35,h:=0,tab:=[(288,Zn5)] }
theorem ZxC:Zn Tryz.prog 248 Zn4:=by
 refine Zq (C:=ZEZ) Tryz.f248 (Zk ZxD Zr) fun _ a b k he=>?_
 unfold Zn4 at he;split at he;rotate_left;exact he.elim
 rename_i c__0 c__1 p
 refine Zs he fun he=>?_
 refine Zh he fun he=>?_
 refine Zt (Zm4 (c__0,c__1) p) (fun (n,i)=>(Zm [(1,.c (.imm y0_ p)),(2,.c (.ptr 10000000 0)),(5,.c (.int .i64 n)),(6,.c (.int .i64 i))],[(10000000,.rc [.imm y6_ (c__0,c__1).1,.int .i64 (c__0,c__1).2])])) he (Za [(10000000,2)]) ?_
 rintro⟨n,i⟩ _ he
 refine Zg he (fun he=>?_) fun he=>?_
 ·refine Zh he fun he=>?_
  refine Zi he fun r1_ he=>?_
  refine Zg he (fun he=>?_) fun he=>?_
  ·exact Zvu
  ·exact ZdC
 ·exact Z3
def ZpN:Con:=fun
  |[.agg [.imm (.pair (.int .i64) (.int .i64)) c__0,.int .i64 c__1],.c (.imm (.int .i64) p)],[]=>.opt _ (ZhN (c__0,c__1) p) (fun r=>.ret (.c (.own 900 false)) [(900,.sl 3 y0_ r .shallow)])
  |_,_=>.fail
def ZCG:Cfg:={ y:=tys,n:=52,h:=0,tab:=[(248,Zn4),(288,Zn5)] }
theorem ZCY:Zn Tryz.prog 249 ZpN:=by
 refine Zq (C:=ZCG) Tryz.f249 (Zk ZxC (Zk ZxD Zr)) fun _ a b k he=>?_
 unfold ZpN at he;split at he;rotate_left;exact he.elim
 rename_i c__0 c__1 p
 refine Zs he fun he=>?_
 refine Zi he fun r1_ he=>?_
 refine Zt (Zg7 (c__0,c__1) p r1_) (fun (i,out)=>(Zm [(1,.c (.imm y0_ p)),(2,.c (.ptr 10000000 0)),(5,.c (.own 10000001 false)),(6,.c (.int .i64 r1_)),(7,.c (.int .i64 i))],[(10000000,.rc [.imm y6_ (c__0,c__1).1,.int .i64 (c__0,c__1).2]),(10000001,.sl 3 y0_ out .shallow)])) he (Za [(10000000,2),(10000001,8)]) ?_
 rintro⟨i,out⟩ _ he
 refine Zg he (fun he=>?_) fun he=>?_
 ·refine Zg he (fun he=>?_) fun he=>?_
  ·refine Zh he fun he=>?_
   refine Zi he fun r3_ he=>?_
   refine Zg he (fun he=>?_) fun he=>?_
   ·refine Zh he fun he=>?_
    refine Zg he (fun he=>?_) fun he=>?_
    ·refine Zh he fun he=>?_
     refine Zh he fun he=>?_
     refine Zh he fun he=>?_
     exact⟨_,(Zj he :),(Za [(10000001,50)])⟩
    ·exact ZdC
   ·exact ZdC
  ·exact Zv [(4,[])] (Zj he :) (Za [(900,10000001)])
 ·exact Zv [(4,[])] (Zj he :) (Za [(900,10000001)])
def Zgf:Con:=fun
  |[.c (.imm (.pair (.sl (.pair (.int .i64) (.int .i64))) (.int .i64)) list_),.c (.own 0 false)],[(0,.sl 3 (.int .i64) p .shallow)]=>.opt _ (Zdy list_ p) (fun r=>.ret (.c (.int .i64 r.1)) [(0,.sl 3 y0_ r.2 .shallow)])
  |_,_=>.fail
def Zz9:Cfg:={ y:=tys,n:=42,h:=1,tab:=[(194,Zjj),(248,Zn4),(249,ZpN)],hand:=[(194,[0])] }
theorem ZnL:Zn Tryz.prog 195 Zgf:=by
 refine Zq (C:=Zz9) Tryz.f195 (Zk Zq5 (Zk ZxC (Zk ZCY Zr))) fun _ a b k he=>?_
 unfold Zgf at he;split at he;rotate_left;exact he.elim
 rename_i list_ p
 refine Zs he fun he=>?_
 refine Zt (ZfL list_) (fun (changed,p4)=>(Zm [(0,.c (.imm y7_ list_)),(1,.c (.own 0 false)),(5,.c (.bool changed))],[(0,.sl 3 y0_ p4 .shallow)])) he (Za []) ?_
 rintro⟨changed,p4⟩ _ he
 refine Zg he (fun he=>?_) fun he=>?_
 ·refine Zt (ZdR list_) (fun (changed4,i1,p6)=>(Zm [(0,.c (.imm y7_ list_)),(1,.c (.own 0 false)),(5,.c (.bool changed4)),(6,.c (.int .i64 i1))],[(0,.sl 3 y0_ p6 .shallow)])) he (Za []) ?_
  rintro⟨changed4,i1,p6⟩ _ he
  refine Zg he (fun he=>?_) fun he=>?_
  ·refine Zh he fun he=>?_
   refine Zi he fun r13_ he=>?_
   refine Zg he (fun he=>?_) fun he=>?_
   ·exact Z3
   ·refine Zh he fun he=>?_
    refine Zi he fun r14_ he=>?_
    refine Zt (ZdS i1 r14_) (fun (changed6,k_3,p7)=>(Zm [(0,.c (.imm y7_ list_)),(1,.c (.own 0 false)),(5,.c (.bool changed6)),(6,.c (.int .i64 i1)),(7,.c (.own 10006000 false)),(8,.c (.int .i64 k_3))],[(0,.sl 3 y0_ p7 .shallow),(10006000,.sl 3 y0_ r14_ .shallow)])) he (Za [(10006000,30900)]) ?_
    rintro⟨changed6,k_3,p7⟩ _ he
    refine Zg he (fun he=>?_) fun he=>?_
    ·refine Zh he fun he=>?_
     refine Zi he fun r16_ he=>?_
     exact ZdC
    ·exact ZdC
  ·exact⟨_,(Zj he :),(Za [])⟩
 ·exact Z3
def Zjk:Con:=fun
  |[.agg [.own 0 false,.own 1 false,.int .i64 s_2],.c (.imm (.int .i64) decisions)],[(0,.sl 89 (.pair (.sl (.pair (.int .i64) (.int .i64))) (.int .i64)) o0 .shallow),(1,.sl 96 (.pair (.int .i64) (.pair (.int .i64) (.pair (.int .i64) (.pair (.sl (.pair (.int .i64) (.int .i64))) (.int .i64))))) o1 .shallow)]=>.opt _ (Zdz s_2 decisions o0 o1) (fun r=>.ret (.agg [.own 901 false,.own 902 false,.int .i64 r.1]) [(0,.dead),(1,.dead),(900,.rc [.own 901 false,.own 902 false,.int .i64 r.1]),(901,.sl 89 y7_ r.2.1 .shallow),(902,.sl 96 Zdg r.2.2 .shallow)])
  |_,_=>.fail
def ZAa:Cfg:={ y:=tys,n:=43,h:=2,tab:=[(189,Zjg)],cut:=[6] }
theorem ZsZ:Zn Tryz.prog 196 Zjk:=by
 refine Zq (C:=ZAa) Tryz.f196 (Zk Zq3 Zr) fun _ a b k he=>?_
 unfold Zjk at he;split at he;rotate_left;exact he.elim
 rename_i s_2 decisions o0 o1
 refine Zs he fun he=>?_
 refine ZK (ZiB s_2 o0 o1) (fun lits1=>(Zm [(2,.c (.ptr 10001000 0)),(4,.c (.ptr 10001001 0)),(5,.c (.own 10001002 false))],[(0,.sl 89 y7_ o0 .shallow),(1,.sl 96 Zdg o1 .shallow),(10001000,.rc [.own 0 false,.own 1 false,.int .i64 s_2]),(10001001,.rc [.nil,.nil,.int .i64 (0:Int)]),(10001002,.sl 3 y0_ lits1 .shallow)])) he ?_ ?_
 ·rintro lits1 he
  refine Zi he fun r1_ he=>?_
  refine Zh he fun he=>?_
  refine Zh he fun he=>?_
  exact Zv [(4,[900])] (Zj he :) (Za [(900,10001001),(901,33),(902,40)])
 ·skip
  refine Zt (ZcZ s_2 decisions o0 o1) (fun (i,lits)=>(Zm [(1,.c (.imm y0_ decisions)),(2,.c (.ptr 10000000 0)),(4,.c (.ptr 10000001 0)),(5,.c (.own 10000002 false)),(6,.c (.int .i64 i))],[(0,.sl 89 y7_ o0 .shallow),(1,.sl 96 Zdg o1 .shallow),(10000000,.rc [.own 0 false,.own 1 false,.int .i64 s_2]),(10000001,.rc [.nil,.nil,.int .i64 (0:Int)]),(10000002,.sl 3 y0_ lits .shallow)])) he (Za [(10000000,2),(10000001,4),(10000002,9)]) ?_
  rintro⟨i,lits⟩ _ he
  refine Zg he (fun he=>?_) fun he=>?_
  ·refine Zh he fun he=>?_
   refine Zh he fun he=>?_
   refine Zh he fun he=>?_
   refine Zh he fun he=>?_
   exact⟨_,(Zj he :),(Za [(10000002,23)])⟩
  ·exact⟨_,(Zbn he :),(Za [(10001000,10000000),(10001001,10000001),(10001002,10000002)])⟩
end
end Go.AE.Y
