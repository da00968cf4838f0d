/-
  Walks: each function keeps the contract that its model gives. No conditions.
-/
import Derived.Test.YtaeeiddjpigemaaGreatR8Tab
import Derived.Test.YtaeeiddjpigemaaGreatR8W4
import Derived.Test.YtaeeiddjpigemaaGreatR8S
namespace Go.AE.Y
open Go Go.AE Go.Proofs
set_option linter.unusedVariables false
set_option maxHeartbeats 2000000
set_option maxRecDepth 100000
noncomputable section
def Zrn:Con:=fun
  |[.agg [.imm (.int .i64) m_0,.imm (.pair (.int .i64) (.pair (.sl (.int .i64)) (.pair (.sl (.int .i64)) (.pair (.int .i64) (.sl (.sl (.int .i64))))))) m_1],.agg [.int .i64 r__0,.imm (.int .i64) r__1,.imm (.int .i64) r__2,.int .i64 r__3,.imm (.sl (.int .i64)) r__4]],[]=>.opt _ (Zqo (m_0,m_1) (r__0,(r__1,(r__2,(r__3,r__4))))) (fun r=>.ret (.c (.bool r)) [])
  |_,_=>.fail
def ZDz:Cfg:={ y:=tys,n:=55,h:=0,tab:=[(243,Zro),(244,Zo2),(245,ZpT)],cut:=[3] }
theorem ZKy {P:Prop} (h:P:=by
  refine Zh he (fun he=>?_) fun he=>?_
  ·refine Zh he (fun he=>?_) fun he=>?_
   ·exact Zbg
   ·exact⟨_,he,(Za [(10000000,3)])⟩
  ·exact⟨_,he,(Za [(10000000,3)])⟩):P:=h
theorem ZDN:Zn Tryz.prog 188 Zrn:=by
 refine Zp (C:=ZDz) Tryz.f188 (Zk ZDO (Zk ZAJ (Zk ZB9 Zq))) fun _ a b k he=>?_
 unfold Zrn at he;split at he;rotate_left;exact he.elim
 rename_i m_0 m_1 r__0 r__1 r__2 r__3 r__4
 refine Zs he fun he=>?_
 refine ZL (ZfE (r__0,(r__1,(r__2,(r__3,r__4))))) (fun _=>(Zm [(3,.c (.ptr 10000000 0))],[(10000000,.rc [.int .i64 (r__0,(r__1,(r__2,(r__3,r__4)))).1,.imm y0_ (r__0,(r__1,(r__2,(r__3,r__4)))).2.1,.imm y0_ (r__0,(r__1,(r__2,(r__3,r__4)))).2.2.1,.int .i64 (r__0,(r__1,(r__2,(r__3,r__4)))).2.2.2.1,.imm (.sl y0_) (r__0,(r__1,(r__2,(r__3,r__4)))).2.2.2.2])])) he ?_ ?_
 ·rintro⟨⟩ he
  refine Zh he (fun he=>?_) fun he=>?_
  ·refine Zi he fun r2_ he=>?_
   exact Zbg
  ·refine Zh he (fun he=>?_) fun he=>?_
   ·exact Zbg
   ·refine Zh he (fun he=>?_) fun he=>?_
    ·refine Zi he fun r3_ he=>?_
     exact Zbg
    ·refine Zh he (fun he=>?_) fun he=>?_
     ·exact Zbg
     ·exact Zbg
 ·skip
  refine Zi he fun r1_ he=>?_
  refine ZI he (fun he=>?_) fun he=>?_
  ·refine Zh he (fun he=>?_) fun he=>?_
   ·refine ZI he (fun he=>?_) fun he=>?_
    ·refine ZI he (fun he=>?_) fun he=>?_
     ·exact ZKy
     ·exact Zbg
    ·exact Zbg
   ·exact ZKy
  ·exact Zbg
def Zgu:Con:=fun
  |[.agg [.imm (.int .i64) a0_0,.imm (.pair (.int .i64) (.pair (.sl (.int .i64)) (.pair (.sl (.int .i64)) (.pair (.int .i64) (.sl (.sl (.int .i64))))))) a0_1]],[]=>.opt _ (Zgh (a0_0,a0_1)) (fun r=>.ret (.c (.bool r)) [])
  |_,_=>.fail
def ZoS:Sched:=.alt 6 (.first 7 .done) .stop
def ZyY:Cfg:={ y:=tys,n:=74,h:=0,tab:=[(188,Zrn)],cut:=[8],sched:=[(13,(ZF [1,3] (.alt 0 (.alt 2 (ZF [4,5] ZoS) .stop) (.alt 2 (ZF [4,5] (.alt 0 ZoS .stop)) .stop))))] }
theorem Znb:Zn Tryz.prog 130 Zgu:=by
 refine Zp (C:=ZyY) Tryz.f130 (Zk ZDN Zq) fun _ a b k he=>?_
 unfold Zgu at he;split at he;rotate_left;exact he.elim
 rename_i a0_0 a0_1
 refine Zs he fun he=>?_
 refine ZL (Zf4 (a0_0,a0_1)) (fun i2=>(Zm [(1,.c (.ptr 10001000 0)),(3,.c (.int .i64 i2))],[(10001000,.rc [.imm y0_ (a0_0,a0_1).1,.imm y5_ (a0_0,a0_1).2])])) he ?_ ?_
 ·rintro i2 he
  refine ZI he (fun he=>?_) fun he=>?_
  ·refine ZI he (fun he=>?_) fun he=>?_
   ·refine ZI he (fun he=>?_) fun he=>?_
    ·refine Zh he (fun he=>?_) fun he=>?_
     ·exact ZN
     ·refine Zo (ZiO (a0_0,a0_1)) (fun i3=>(Zm [(1,.c (.ptr 10002000 0)),(5,.c (.int .i64 i3))],[(10002000,.rc [.imm y0_ (a0_0,a0_1).1,.imm y5_ (a0_0,a0_1).2])])) he (Za [(10002000,10001000)]) ?_
      rintro i3 _ he
      refine Zh he (fun he=>?_) fun he=>?_
      ·refine And.intro (by kernel_rfl) ?_
       obtain⟨hq1,he⟩:=ZO he
       obtain⟨r2_,hq2,he⟩:=Z6 he
       refine Y5 ?_ ?_
       ·skip
        refine Y4 ?_
        refine And.intro hq1 ?_
        refine Y4 ?_
        refine⟨r2_,hq2,?_⟩
        exact Zu3
       ·skip
        refine And.intro hq1 ?_
        refine Y4 ?_
        refine Y4 ?_
        refine⟨r2_,hq2,?_⟩
        exact Zu3
      ·exact ZN
    ·exact ZN
   ·exact ZN
  ·exact ZN
 ·skip
  refine Zo (Zmw (a0_0,a0_1)) (fun (i,i1)=>(Zm [(1,.c (.ptr 10000000 0)),(3,.c (.int .i64 i)),(4,.c (.int .i64 i1))],[(10000000,.rc [.imm y0_ (a0_0,a0_1).1,.imm y5_ (a0_0,a0_1).2])])) he (Za [(10000000,1)]) ?_
  rintro⟨i,i1⟩ _ he
  refine Zh he (fun he=>?_) fun he=>?_
  ·refine Zh he (fun he=>?_) fun he=>?_
   ·refine Zg he fun he=>?_
    refine ZI he (fun he=>?_) fun he=>?_
    ·refine Zg he fun he=>?_
     refine Zh he (fun he=>?_) fun he=>?_
     ·exact ZN
     ·exact Ztb
    ·exact ZN
   ·exact⟨_,(Zbh he :),(Za [(10001000,10000000)])⟩
  ·exact⟨_,(Zbh he :),(Za [(10001000,10000000)])⟩
def ZfV:Con:=fun
  |[.agg [.imm (.int .i64) m_0,.imm (.pair (.int .i64) (.pair (.sl (.int .i64)) (.pair (.sl (.int .i64)) (.pair (.int .i64) (.sl (.sl (.int .i64))))))) m_1],.c (.int .i64 cell),.c (.int .i64 value)],[]=>.opt _ (Zg5 (m_0,m_1) cell value) (fun r=>.ret (.c (.int .i64 r)) [])
  |_,_=>.fail
def ZEh:Cfg:={ y:=tys,n:=25,h:=0,tab:=[] }
theorem ZjP:Zn Tryz.prog 133 ZfV:=by
 refine Zp (C:=ZEh) Tryz.f133 Zq fun _ a b k he=>?_
 unfold ZfV at he;split at he;rotate_left;exact he.elim
 rename_i m_0 m_1 cell value
 refine Zs he fun he=>?_
 refine Zg he fun he=>?_
 refine Zo (Zry (m_0,m_1) cell) (fun (n,i)=>(Zm [(1,.c (.int .i64 cell)),(3,.c (.ptr 10000000 0)),(7,.c (.int .i64 n)),(8,.c (.int .i64 i))],[(10000000,.rc [.imm y0_ (m_0,m_1).1,.imm y5_ (m_0,m_1).2])])) he (Za [(10000000,3)]) ?_
 rintro⟨n,i⟩ _ he
 refine Zh he (fun he=>?_) fun he=>?_
 ·exact Ztb
 ·exact Zv [(6,[])] (Zj he :) (Za [])
def Zo1:Con:=fun
  |[.c (.int .i64 n)],[]=>.opt _ (Zpo n) (fun r=>.ret (.c (.bool r)) [])
  |_,_=>.fail
def ZEg:Cfg:={ y:=tys,n:=13,h:=0,tab:=[] }
theorem ZKz {P:Prop} (h:P:=by
  refine Zh he (fun he=>?_) fun he=>?_
  ·exact Z5
  ·exact Z5):P:=h
theorem ZxB:Zn Tryz.prog 228 Zo1:=by
 refine Zp (C:=ZEg) Tryz.f228 Zq fun _ a b k he=>?_
 unfold Zo1 at he;split at he;rotate_left;exact he.elim
 rename_i n
 refine Zs he fun he=>?_
 refine Zh he (fun he=>?_) fun he=>?_
 ·exact ZKz
 ·exact Z5
def Zo0:Con:=fun
  |[.c (.int .i64 n)],[]=>.opt _ (ZmT n) (fun r=>.ret (.c (.int .i64 r)) [])
  |_,_=>.fail
def ZEf:Cfg:={ y:=tys,n:=8,h:=0,tab:=[] }
theorem ZxA:Zn Tryz.prog 229 Zo0:=by
 refine Zp (C:=ZEf) Tryz.f229 Zq fun _ a b k he=>?_
 unfold Zo0 at he;split at he;rotate_left;exact he.elim
 rename_i n
 refine Zs he fun he=>?_
 refine Zh he (fun he=>?_) fun he=>?_
 ·exact ZBu
 ·exact Z5
def ZiA:Con:=fun
  |[.c (.imm (.int .i64) a0)],[]=>.opt _ (Ziq a0) (fun r=>.ret (.tup [.agg [.own 901 false,.int .i64 r.2.1],.c (.bool r.1)]) [(900,.rc [.own 901 false,.int .i64 r.2.1]),(901,.sl 155 y6_ r.2.2 .shallow)])
  |_,_=>.fail
def Zqw:Sched:=.alt 8 (.first 9 (.alt 10 .done .stop)) .stop
def Zqx:Sched:=.alt 7 Zqw .stop
def Zqy:Sched:=.alt 6 Zqx .stop
def ZAg:Cfg:={ y:=tys,n:=71,h:=0,tab:=[(228,Zo1),(229,Zo0)],cut:=[13],sched:=[(18,(ZF [0,2,3,4] (.alt 1 (.alt 5 Zqy .stop) (.alt 5 (.alt 1 Zqy (.alt 6 (.alt 1 Zqx (.alt 7 (.alt 1 Zqw .stop) .stop)) .stop)) .stop))))] }
theorem ZBB {P:Prop} (h:P:=by
  refine Y4 ?_
  refine Y4 ?_
  refine And.intro hq1 ?_
  refine Y4 ?_
  refine Zg he fun he=>?_
  exact⟨_,(Zj he :),(Za [(10002003,68)])⟩):P:=h
theorem Zpi:Zn Tryz.prog 189 ZiA:=by
 refine Zp (C:=ZAg) Tryz.f189 (Zk ZxB (Zk ZxA Zq)) fun _ a b k he=>?_
 unfold ZiA at he;split at he;rotate_left;exact he.elim
 rename_i a0
 refine Zs he fun he=>?_
 refine Zg he fun he=>?_
 refine Zh he (fun he=>?_) fun he=>?_
 ·exact Ztf
 ·refine ZL (Zoi) (fun i2=>(Zm [(2,.c (.ptr 10001000 0)),(4,.c (.own 10001001 false))],[(10001000,.rc [.nil,.int .i64 (0:Int)]),(10001001,.sl 3 y0_ i2 .shallow)])) he ?_ ?_
  ·rintro i2 he
   refine Zo (ZhC i2) (fun (i3,i_0)=>(Zm [(2,.c (.ptr 10002000 0)),(4,.c (.own 10002001 false)),(7,.c (.ptr 10002002 0)),(8,.c (.int .i64 i3))],[(10002000,.rc [.nil,.int .i64 (0:Int)]),(10002001,.sl 3 y0_ i2 .shallow),(10002002,.rc [.own 10002003 false,.int .i64 (1:Int)]),(10002003,.sl 155 y6_ i_0 .shallow)])) he (Za [(10002000,10001000),(10002001,10001001),(10002002,7)]) ?_
   rintro⟨i3,i_0⟩ _ he
   refine Zh he (fun he=>?_) fun he=>?_
   ·refine Zg he fun he=>?_
    refine Zh he (fun he=>?_) fun he=>?_
    ·refine And.intro (by kernel_rfl) ?_
     refine Zg he fun he=>?_
     obtain⟨hq1,he⟩:=ZO he
     refine Y5 ?_ ?_
     ·skip
      refine Y4 ?_
      refine Y4 ?_
      exact ZBB
     ·skip
      refine Y5 ?_ ?_
      ·skip
       refine Y4 ?_
       exact ZBB
      ·skip
       refine Y5 ?_ ?_
       ·skip
        exact ZBB
       ·skip
        exact ZBB
    ·exact Zdy
   ·exact Zv [(2,[900]),(3,[])] (Zj he :) (Za [(900,10002000),(901,10002003)])
  ·skip
   refine Zo (ZkD a0) (fun (i,i1)=>(Zm [(0,.c (.imm y0_ a0)),(2,.c (.ptr 10000000 0)),(4,.c (.own 10000001 false)),(5,.c (.int .i64 i))],[(10000000,.rc [.nil,.int .i64 (0:Int)]),(10000001,.sl 3 y0_ i1 .shallow)])) he (Za [(10000000,2),(10000001,9)]) ?_
   rintro⟨i,i1⟩ _ he
   refine Zh he (fun he=>?_) fun he=>?_
   ·refine Zg he fun he=>?_
    refine Zi he fun r3_ he=>?_
    refine Zh he (fun he=>?_) fun he=>?_
    ·exact ZBv
    ·refine Zg he fun he=>?_
     refine Zi he fun r4_ he=>?_
     refine And.intro (by kernel_rfl) ?_
     refine Zg he fun he=>?_
     refine Zg he fun he=>?_
     refine Zg he fun he=>?_
     refine Zh he (fun he=>?_) fun he=>?_
     ·exact ZBv
     ·exact ZuU
   ·exact⟨_,(Zbh he :),(Za [(10001000,10000000),(10001001,10000001)])⟩
def ZnJ:Con:=fun
  |[.c (.imm (.int .i64) vars)],[]=>.opt _ (ZnC vars) (fun r=>.ret (.agg [.own 901 false,.int .i64 r.1]) [(900,.rc [.own 901 false,.int .i64 r.1]),(901,.sl 155 y6_ r.2 .shallow)])
  |_,_=>.fail
def ZsE:Sched:=.alt 9 (.first 10 (.alt 11 .done .stop)) .stop
def ZsF:Sched:=.alt 8 ZsE .stop
def ZDC:Cfg:={ y:=tys,n:=27,h:=0,tab:=[],sched:=[(5,(ZF [0,2,3,4,5,6] (.alt 1 (.alt 7 ZsF .stop) (.alt 7 (.alt 1 ZsF (.alt 8 (.alt 1 ZsE .stop) .stop)) .stop))))] }
theorem ZGi {P:Prop} (h:P:=by
  refine Y4 ?_
  refine Y4 ?_
  refine And.intro hq1 ?_
  refine Y4 ?_
  refine Zg he fun he=>?_
  exact⟨_,(Zj he :),(Za [(10000002,24)])⟩):P:=h
theorem Zwi:Zn Tryz.prog 190 ZnJ:=by
 refine Zp (C:=ZDC) Tryz.f190 Zq fun _ a b k he=>?_
 unfold ZnJ at he;split at he;rotate_left;exact he.elim
 rename_i vars
 refine Zs he fun he=>?_
 refine Zg he fun he=>?_
 refine Zo (ZjX vars) (fun (i,c_0)=>(Zm [(0,.c (.imm y0_ vars)),(2,.c (.ptr 10000000 0)),(3,.c (.ptr 10000001 0)),(4,.c (.int .i64 i))],[(10000000,.rc [.nil,.int .i64 (0:Int)]),(10000001,.rc [.own 10000002 false,.int .i64 ((vars.length:Int) - (1:Int))]),(10000002,.sl 155 y6_ c_0 .shallow)])) he (Za [(10000000,2),(10000001,3)]) ?_
 rintro⟨i,c_0⟩ _ he
 refine Zh he (fun he=>?_) fun he=>?_
 ·refine And.intro (by kernel_rfl) ?_
  refine Zg he fun he=>?_
  refine Zg he fun he=>?_
  obtain⟨hq1,he⟩:=ZO he
  refine Y5 ?_ ?_
  ·skip
   refine Y4 ?_
   exact ZGi
  ·skip
   refine Y5 ?_ ?_
   ·skip
    exact ZGi
   ·skip
    exact ZGi
 ·exact Zv [(2,[900])] (Zj he :) (Za [(900,10000000),(901,10000002)])
def Zrp:Con:=fun
  |[.agg [.imm (.int .i64) m_0,.imm (.pair (.int .i64) (.pair (.sl (.int .i64)) (.pair (.sl (.int .i64)) (.pair (.int .i64) (.sl (.sl (.int .i64))))))) m_1],.c (.int .i64 cell)],[]=>.opt _ (Zqq (m_0,m_1) cell) (fun r=>.ret (.c (.own 900 false)) [(900,.sl 89 y7_ r (.deep true .no))])
  |_,_=>.fail
def ZsD:Sched:=.alt 3 (.first 4 .done) .stop
def ZDB:Cfg:={ y:=tys,n:=35,h:=0,tab:=[(133,ZfV),(189,ZiA),(190,ZnJ)],cut:=[6],deep:=[34],sched:=[(7,(.first 1 (.alt 0 (.alt 2 ZsD .stop) (.alt 2 (.alt 0 ZsD .stop) .stop))))] }
theorem ZKA {P:Prop} (h:P:=by
  refine Y4 ?_
  exact Zv [(4,[])] (Zj he :) (Za [(900,34)])):P:=h
theorem ZDP:Zn Tryz.prog 131 Zrp:=by
 refine Zp (C:=ZDB) Tryz.f131 (Zk ZjP (Zk Zpi (Zk Zwi Zq))) fun _ a b k he=>?_
 unfold Zrp at he;split at he;rotate_left;exact he.elim
 rename_i m_0 m_1 cell
 refine Zs he fun he=>?_
 refine ZL (ZjV) (fun vars1=>(Zm [(5,.c (.own 10001000 false))],[(10001000,.sl 3 y0_ vars1 .shallow)])) he ?_ ?_
 ·rintro vars1 he
  refine Zi he fun r3_ he=>?_
  refine And.intro (by kernel_rfl) ?_
  obtain⟨r5_,hq1,he⟩:=Z6 he
  refine Y5 ?_ ?_
  ·skip
   refine Y4 ?_
   refine⟨r5_,hq1,?_⟩
   exact ZKA
  ·skip
   refine⟨r5_,hq1,?_⟩
   refine Y4 ?_
   exact ZKA
 ·skip
  refine Zo (ZjW (m_0,m_1) cell) (fun (k_,vars)=>(Zm [(1,.c (.int .i64 cell)),(2,.c (.ptr 10000000 0)),(5,.c (.own 10000001 false)),(6,.c (.int .i64 k_))],[(10000000,.rc [.imm y0_ (m_0,m_1).1,.imm y5_ (m_0,m_1).2]),(10000001,.sl 3 y0_ vars .shallow)])) he (Za [(10000000,2),(10000001,9)]) ?_
  rintro⟨k_,vars⟩ _ he
  refine Zg he fun he=>?_
  refine Zh he (fun he=>?_) fun he=>?_
  ·refine Zi he fun r2_ he=>?_
   refine Zg he fun he=>?_
   refine Zg he fun he=>?_
   exact⟨_,(Zj he :),(Za [(10000001,25)])⟩
  ·exact⟨_,(Zbh he :),(Za [(10001000,10000001)])⟩
def ZfH:Con:=fun
  |[.agg [.imm (.pair (.int .i64) (.int .i64)) c__0,.int .i64 c__1]],[]=>.opt _ (Ze6 (c__0,c__1)) (fun r=>.ret (.c (.bool r)) [])
  |_,_=>.fail
def ZlC:Sched:=.alt 28 (ZF [29,30,31] .done) .stop
def ZlD:Sched:=.alt 25 ZlC .stop
def Zt5:Cfg:={ y:=tys,n:=57,h:=0,tab:=[(228,Zo1),(229,Zo0)],sched:=[(5,(.first 0 (.alt 1 (.alt 2 (ZF [3,4,5] (.alt 6 (ZF [7,8,9,10] (.alt 11 (ZF [12,13,14,15,16,17,18,20,21,26] (.alt 19 (ZF [22,23,24] (.alt 25 (.alt 27 ZlC .stop) (.alt 27 ZlD .stop))) (.alt 27 (.alt 19 (ZF [22,23,24] ZlD) .stop) .stop))) .stop)) .stop)) .stop) .stop)))] }
theorem ZKB {P:Prop} (h:P:=by
  refine Y4 ?_
  refine⟨r5_,hq2,?_⟩
  refine Y4 ?_
  refine⟨r6_,hq3,?_⟩
  exact Zu3):P:=h
theorem Zyp {P:Prop} (h:P:=by
  refine Y4 ?_
  exact ZN):P:=h
theorem ZGj {P:Prop} (h:P:=by
  skip
  refine Y4 ?_
  exact Zyp):P:=h
theorem ZGk {P:Prop} (h:P:=by
  refine Y5 ?_ ?_
  ·skip
   refine Y5 ?_ ?_
   ·exact ZGj
   ·exact ZGj
  ·skip
   refine Y4 ?_
   refine Y4 ?_
   exact Zyp):P:=h
theorem Znz:Zn Tryz.prog 168 ZfH:=by
 refine Zp (C:=Zt5) Tryz.f168 (Zk ZxB (Zk ZxA Zq)) fun _ a b k he=>?_
 unfold ZfH at he;split at he;rotate_left;exact he.elim
 rename_i c__0 c__1
 refine Zs he fun he=>?_
 refine Zo (Zfj (c__0,c__1)) (fun i=>(Zm [(1,.c (.ptr 10000000 0)),(3,.c (.int .i64 i))],[(10000000,.rc [.imm y6_ (c__0,c__1).1,.int .i64 (c__0,c__1).2])])) he (Za [(10000000,1)]) ?_
 rintro i _ he
 refine Zh he (fun he=>?_) fun he=>?_
 ·refine Zg he fun he=>?_
  refine And.intro (by kernel_rfl) ?_
  refine Y4 ?_
  refine Y4 ?_
  refine Zi he fun r4_ he=>?_
  refine ZI he (fun he=>?_) fun he=>?_
  ·refine Y4 ?_
   refine ZI he (fun he=>?_) fun he=>?_
   ·refine Y4 ?_
    refine ZI he (fun he=>?_) fun he=>?_
    ·refine Zh he (fun he=>?_) fun he=>?_
     ·refine Zg he fun he=>?_
      obtain⟨hq1,he⟩:=ZO he
      obtain⟨r5_,hq2,he⟩:=Z6 he
      obtain⟨r6_,hq3,he⟩:=Z6 he
      refine Y5 ?_ ?_
      ·skip
       refine And.intro hq1 ?_
       refine Y5 ?_ ?_
       ·skip
        refine⟨r5_,hq2,?_⟩
        refine Y4 ?_
        refine Y4 ?_
        refine⟨r6_,hq3,?_⟩
        exact Zu3
       ·skip
        exact ZKB
      ·skip
       refine Y4 ?_
       refine And.intro hq1 ?_
       exact ZKB
     ·refine Y5 ?_ ?_
      ·skip
       refine Y5 ?_ ?_
       ·skip
        refine Y4 ?_
        exact ZnE
       ·skip
        refine Y4 ?_
        exact ZnE
      ·skip
       refine Y4 ?_
       refine Y4 ?_
       exact ZnE
    ·exact ZGk
   ·refine Y4 ?_
    exact ZGk
  ·refine Y4 ?_
   refine Y4 ?_
   exact ZGk
 ·exact ZKx
def ZlF:Con:=fun
  |[.c (.imm (.int .i64) net),.c (.int .i64 bound_)],[]=>.opt _ (Zk9 net bound_) (fun r=>.ret (.tup [.agg [.own 901 false,.int .i64 r.2.1],.c (.bool r.1)]) [(900,.rc [.own 901 false,.int .i64 r.2.1]),(901,.sl 155 y6_ r.2.2 .shallow)])
  |_,_=>.fail
def Zqz:Sched:=.alt 9 (.first 10 (.alt 11 .done .stop)) .stop
def ZqA:Sched:=.alt 8 Zqz .stop
def ZqB:Sched:=.alt 11 (.first 12 (.alt 13 .done .stop)) .stop
def ZqC:Sched:=.alt 10 ZqB .stop
def ZAh:Cfg:={ y:=tys,n:=62,h:=0,tab:=[(168,ZfH)],cut:=[7,9,10,12],sched:=[(6,(ZF [0,2,3,4,5,6] (.alt 1 (.alt 7 ZqA .stop) (.alt 7 (.alt 1 ZqA (.alt 8 (.alt 1 Zqz .stop) .stop)) .stop)))),(8,(ZF [0,2,3,4,5,6,7,8] (.alt 1 (.alt 9 ZqC .stop) (.alt 9 (.alt 1 ZqC (.alt 10 (.alt 1 ZqB .stop) .stop)) .stop))))] }
theorem ZKC {P:Prop} (h:P:=by
  exact⟨_,he,(Za [(10006000,10005000),(10006001,10005001),(10006002,10005002)])⟩):P:=h
theorem ZKD {P:Prop} (h:P:=by
  refine Zg he fun he=>?_
  exact⟨_,(Zj he :),(Za [(10000000,10004000),(10000001,10004001),(10000002,10004002)])⟩):P:=h
theorem ZGl {P:Prop} (h:P:=by
  refine Y4 ?_
  refine Y4 ?_
  refine And.intro hq1 ?_
  refine Y4 ?_
  exact⟨_,he,(Za [(10004000,10003000),(10004001,10003001),(10004002,45)])⟩):P:=h
theorem ZGm {P:Prop} (h:P:=by
  refine Y4 ?_
  refine Y4 ?_
  refine And.intro hq1 ?_
  refine Y4 ?_
  exact⟨_,he,(Za [(10003000,10000000),(10003001,10000001),(10003002,27)])⟩):P:=h
theorem ZtS:Zn Tryz.prog 134 ZlF:=by
 refine Zp (C:=ZAh) Tryz.f134 (Zk Znz Zq) fun _ a b k he=>?_
 unfold ZlF at he;split at he;rotate_left;exact he.elim
 rename_i net bound_
 refine Zs he fun he=>?_
 refine ZL (Zoj) (fun (bound_2,c_03)=>(Zm [(1,.c (.int .i64 bound_2)),(4,.c (.ptr 10005000 0)),(6,.c (.ptr 10005001 0))],[(10005000,.rc [.nil,.int .i64 (0:Int)]),(10005001,.rc [.own 10005002 false,.int .i64 (0:Int)]),(10005002,.sl 155 y6_ c_03 .shallow)])) he ?_ ?_
 ·rintro⟨bound_2,c_03⟩ he
  refine ZL (ZhD c_03) (fun bound_3=>(Zm [(1,.c (.int .i64 bound_3)),(4,.c (.ptr 10006000 0)),(6,.c (.ptr 10006001 0))],[(10006000,.rc [.nil,.int .i64 (0:Int)]),(10006001,.rc [.own 10006002 false,.int .i64 (0:Int)]),(10006002,.sl 155 y6_ c_03 .shallow)])) he ?_ ?_
  ·rintro bound_3 he
   refine Zi he fun r1_ he=>?_
   refine Zh he (fun he=>?_) fun he=>?_
   ·exact Zv [(4,[900]),(5,[])] (Zj he :) (Za [(900,10006000)])
   ·exact Zv [(4,[900]),(5,[])] (Zj he :) (Za [(900,10006000),(901,10006002)])
  ·skip
   refine Zh he (fun he=>?_) fun he=>?_
   ·exact ZKC
   ·exact ZKC
 ·skip
  refine Zo (ZkI net) (fun (bound_1,v,c_01)=>(Zm [(0,.c (.imm y0_ net)),(1,.c (.int .i64 bound_1)),(4,.c (.ptr 10000000 0)),(6,.c (.ptr 10000001 0)),(7,.c (.int .i64 v))],[(10000000,.rc [.nil,.int .i64 (0:Int)]),(10000001,.rc [.own 10000002 false,.int .i64 (0:Int)]),(10000002,.sl 155 y6_ c_01 .shallow)])) he (Za [(10000000,4),(10000001,6)]) ?_
  rintro⟨bound_1,v,c_01⟩ _ he
  refine Zh he (fun he=>?_) fun he=>?_
  ·refine ZL (ZkH net bound_1 v) (fun c_02=>(Zm [(0,.c (.imm y0_ net)),(1,.c (.int .i64 bound_1)),(4,.c (.ptr 10003000 0)),(6,.c (.ptr 10003001 0)),(7,.c (.int .i64 v))],[(10003000,.rc [.nil,.int .i64 (0:Int)]),(10003001,.rc [.own 10003002 false,.int .i64 (0:Int)]),(10003002,.sl 155 y6_ c_02 .shallow)])) he ?_ ?_
   ·rintro c_02 he
    refine Zg he fun he=>?_
    refine Zh he (fun he=>?_) fun he=>?_
    ·refine ZL (Zok net bound_1 v c_02) (fun _=>(Zm [(0,.c (.imm y0_ net)),(1,.c (.int .i64 bound_1)),(4,.c (.ptr 10004000 0)),(6,.c (.ptr 10004001 0)),(7,.c (.int .i64 v))],[(10004000,.rc [.nil,.int .i64 (0:Int)]),(10004001,.rc [.own 10004002 false,.int .i64 (0:Int)]),(10004002,.sl 155 y6_ (c_02++[((0 - (net.getD v.toNat 0)),(0 - v))]) .shallow)])) he ?_ ?_
     ·rintro⟨⟩ he
      refine Zg he fun he=>?_
      refine Zg he fun he=>?_
      exact ZKD
     ·skip
      refine And.intro (by kernel_rfl) ?_
      refine Zg he fun he=>?_
      refine Zg he fun he=>?_
      refine Zg he fun he=>?_
      obtain⟨hq1,he⟩:=ZO he
      refine Y5 ?_ ?_
      ·skip
       refine Y4 ?_
       exact ZGl
      ·skip
       refine Y5 ?_ ?_
       ·skip
        exact ZGl
       ·skip
        exact ZGl
    ·refine Zg he fun he=>?_
     exact⟨_,(Zj he :),(Za [(10000000,10003000),(10000001,10003001),(10000002,10003002)])⟩
   ·skip
    refine Zg he fun he=>?_
    refine Zh he (fun he=>?_) fun he=>?_
    ·refine And.intro (by kernel_rfl) ?_
     refine Zg he fun he=>?_
     obtain⟨hq1,he⟩:=ZO he
     refine Y5 ?_ ?_
     ·skip
      refine Y4 ?_
      exact ZGm
     ·skip
      refine Y5 ?_ ?_
      ·skip
       exact ZGm
      ·skip
       exact ZGm
    ·exact⟨_,he,(Za [(10003000,10000000),(10003001,10000001),(10003002,10000002)])⟩
  ·exact⟨_,(Zbh he :),(Za [(10005000,10000000),(10005001,10000001),(10005002,10000002)])⟩
def Zo5:Con:=fun
  |[.agg [.imm (.int .i64) m_0,.imm (.pair (.int .i64) (.pair (.sl (.int .i64)) (.pair (.sl (.int .i64)) (.pair (.int .i64) (.sl (.sl (.int .i64))))))) m_1],.agg [.int .i64 r__0,.imm (.int .i64) r__1,.imm (.int .i64) r__2,.int .i64 r__3,.imm (.sl (.int .i64)) r__4]],[]=>.opt _ (ZnS (m_0,m_1) (r__0,(r__1,(r__2,(r__3,r__4))))) (fun r=>.ret (.c (.own 900 false)) [(900,.sl 89 y7_ r (.deep true .no))])
  |_,_=>.fail
def ZqU:Sched:=.first 16 (.alt 17 .done .stop)
def ZlZ:Sched:=.alt 8 ZqU .stop
def ZqV:Sched:=.alt 8 (.alt 10 (ZF [12,13,15] ZqU) .stop) (.alt 10 (ZF [12,13,15] ZlZ) .stop)
def ZqW:Sched:=.alt 3 (ZF [5,6] ZlZ) .stop
def ZqX:Sched:=.alt 1 ZlZ .stop
def ZAm:Cfg:={ y:=tys,n:=57,h:=0,tab:=[(133,ZfV),(134,ZlF)],cut:=[9],deep:=[56],sched:=[(8,(ZF [0,2,4,7,9,11,14] (.alt 1 (.alt 3 (ZF [5,6] ZqV) (.alt 10 (ZF [12,13,15] ZqW) .stop)) (.alt 3 (ZF [5,6] (.alt 1 ZqV (.alt 10 (ZF [12,13,15] ZqX) .stop))) (.alt 10 (ZF [12,13,15] (.alt 1 ZqW (.alt 3 (ZF [5,6] ZqX) .stop))) .stop)))))] }
theorem Zyq {P:Prop} (h:P:=by
  refine Y4 ?_
  refine⟨r5_,hq2,?_⟩
  refine And.intro hq5 ?_
  exact ZnE):P:=h
theorem ZHC {P:Prop} (h:P:=by
  refine Y5 ?_ ?_
  ·skip
   refine⟨r5_,hq2,?_⟩
   refine Y4 ?_
   refine And.intro hq3 ?_
   refine And.intro hq4 ?_
   refine And.intro hq5 ?_
   exact ZnE
  ·skip
   refine And.intro hq3 ?_
   refine And.intro hq4 ?_
   exact Zyq):P:=h
theorem ZAM:Zn Tryz.prog 191 Zo5:=by
 refine Zp (C:=ZAm) Tryz.f191 (Zk ZjP (Zk ZtS Zq)) fun _ a b k he=>?_
 unfold Zo5 at he;split at he;rotate_left;exact he.elim
 rename_i m_0 m_1 r__0 r__1 r__2 r__3 r__4
 refine Zs he fun he=>?_
 refine Zg he fun he=>?_
 refine ZL (ZkR (r__0,(r__1,(r__2,(r__3,r__4))))) (fun net3=>(Zm [(3,.c (.ptr 10003000 0)),(5,.c (.own 10003001 false))],[(10003000,.rc [.int .i64 (r__0,(r__1,(r__2,(r__3,r__4)))).1,.imm y0_ (r__0,(r__1,(r__2,(r__3,r__4)))).2.1,.imm y0_ (r__0,(r__1,(r__2,(r__3,r__4)))).2.2.1,.int .i64 (r__0,(r__1,(r__2,(r__3,r__4)))).2.2.2.1,.imm (.sl y0_) (r__0,(r__1,(r__2,(r__3,r__4)))).2.2.2.2]),(10003001,.sl 3 y0_ net3 .shallow)])) he ?_ ?_
 ·rintro net3 he
  refine Zi he fun r6_ he=>?_
  exact Zv [(4,[])] (Zj he :) (Za [(900,56)])
 ·skip
  refine Zo (Zon (m_0,m_1) (r__0,(r__1,(r__2,(r__3,r__4))))) (fun (i,net1)=>(Zm [(2,.c (.ptr 10000000 0)),(3,.c (.ptr 10000001 0)),(5,.c (.own 10000002 false)),(6,.c (.int .i64 i))],[(10000000,.rc [.imm y0_ (m_0,m_1).1,.imm y5_ (m_0,m_1).2]),(10000001,.rc [.int .i64 (r__0,(r__1,(r__2,(r__3,r__4)))).1,.imm y0_ (r__0,(r__1,(r__2,(r__3,r__4)))).2.1,.imm y0_ (r__0,(r__1,(r__2,(r__3,r__4)))).2.2.1,.int .i64 (r__0,(r__1,(r__2,(r__3,r__4)))).2.2.2.1,.imm (.sl y0_) (r__0,(r__1,(r__2,(r__3,r__4)))).2.2.2.2]),(10000002,.sl 3 y0_ net1 .shallow)])) he (Za [(10000000,2),(10000001,3),(10000002,10)]) ?_
  rintro⟨i,net1⟩ _ he
  refine Zh he (fun he=>?_) fun he=>?_
  ·refine Zo (ZkS (m_0,m_1) (r__0,(r__1,(r__2,(r__3,r__4)))) i) (fun (k_1,net2)=>(Zm [(2,.c (.ptr 10002000 0)),(3,.c (.ptr 10002001 0)),(5,.c (.own 10002002 false)),(6,.c (.int .i64 i)),(7,.c (.int .i64 k_1))],[(10002000,.rc [.imm y0_ (m_0,m_1).1,.imm y5_ (m_0,m_1).2]),(10002001,.rc [.int .i64 (r__0,(r__1,(r__2,(r__3,r__4)))).1,.imm y0_ (r__0,(r__1,(r__2,(r__3,r__4)))).2.1,.imm y0_ (r__0,(r__1,(r__2,(r__3,r__4)))).2.2.1,.int .i64 (r__0,(r__1,(r__2,(r__3,r__4)))).2.2.2.1,.imm (.sl y0_) (r__0,(r__1,(r__2,(r__3,r__4)))).2.2.2.2]),(10002002,.sl 3 y0_ net2 .shallow)])) he (Za [(10002000,10000000),(10002001,10000001),(10002002,10000002)]) ?_
   rintro⟨k_1,net2⟩ _ he
   refine And.intro (by kernel_rfl) ?_
   refine Zg he fun he=>?_
   refine Zg he fun he=>?_
   refine Zh he (fun he=>?_) fun he=>?_
   ·refine And.intro (by kernel_rfl) ?_
    obtain⟨hq1,he⟩:=ZO he
    obtain⟨r5_,hq2,he⟩:=Z6 he
    obtain⟨hq3,he⟩:=ZO he
    obtain⟨hq4,he⟩:=ZO he
    obtain⟨hq5,he⟩:=ZO he
    refine And.intro ?_ (And.intro ?_ (And.intro ?_ (Y1)))
    ·skip
     refine Y5 ?_ ?_
     ·skip
      refine And.intro hq1 ?_
      exact ZHC
     ·skip
      refine And.intro hq3 ?_
      refine And.intro hq4 ?_
      refine Y4 ?_
      refine And.intro hq1 ?_
      exact Zyq
    ·skip
     refine And.intro hq1 ?_
     refine Y5 ?_ ?_
     ·skip
      exact ZHC
     ·skip
      refine And.intro hq3 ?_
      refine And.intro hq4 ?_
      refine Y4 ?_
      exact Zyq
    ·skip
     refine And.intro hq3 ?_
     refine And.intro hq4 ?_
     refine Y5 ?_ ?_
     ·skip
      refine Y4 ?_
      refine And.intro hq1 ?_
      exact Zyq
     ·skip
      refine And.intro hq1 ?_
      refine Y4 ?_
      exact Zyq
   ·refine Zg he fun he=>?_
    exact⟨_,(Zj he :),(Za [(10000000,10002000),(10000001,10002001),(10000002,10002002)])⟩
  ·exact⟨_,(Zbh he :),(Za [(10003000,10000001),(10003001,10000002)])⟩
def Zo6:Con:=fun
  |[.c (.imm (.int .i64) list_)],[]=>.opt _ (ZnT list_) (fun r=>.ret (.c (.own 900 false)) [(900,.sl 3 y0_ r .shallow)])
  |_,_=>.fail
def ZAn:Cfg:={ y:=tys,n:=51,h:=0,tab:=[] }
theorem ZAN:Zn Tryz.prog 246 Zo6:=by
 refine Zp (C:=ZAn) Tryz.f246 Zq fun _ a b k he=>?_
 unfold Zo6 at he;split at he;rotate_left;exact he.elim
 rename_i list_
 refine Zs he fun he=>?_
 refine Zg he fun he=>?_
 refine Zo (ZkT) (fun (i,out1)=>(Zm [(3,.c (.own 10000000 false)),(4,.c (.int .i64 i))],[(10000000,.sl 3 y0_ out1 .shallow)])) he (Za [(10000000,9)]) ?_
 rintro⟨i,out1⟩ _ he
 refine Zh he (fun he=>?_) fun he=>?_
 ·refine Zo (ZkU i) (fun (k_1,out2)=>(Zm [(3,.c (.own 10002000 false)),(4,.c (.int .i64 i)),(5,.c (.int .i64 k_1))],[(10002000,.sl 3 y0_ out2 .shallow)])) he (Za [(10002000,10000000)]) ?_
  rintro⟨k_1,out2⟩ _ he
  refine And.intro (by kernel_rfl) ?_
  refine Zh he (fun he=>?_) fun he=>?_
  ·refine Zg he fun he=>?_
   refine Zg he fun he=>?_
   refine Zg he fun he=>?_
   refine Zh he (fun he=>?_) fun he=>?_
   ·refine Zg he fun he=>?_
    refine Zg he fun he=>?_
    exact Zyo
   ·refine Zg he fun he=>?_
    exact⟨_,(Zj he :),(Za [(10000000,10002000)])⟩
  ·refine Zg he fun he=>?_
   exact⟨_,(Zj he :),(Za [(10000000,10002000)])⟩
 ·exact Zv [(2,[])] (Zj he :) (Za [(900,10000000)])
def Zmd:Con:=fun
  |[.agg [.imm (.int .i64) m_0,.imm (.pair (.int .i64) (.pair (.sl (.int .i64)) (.pair (.sl (.int .i64)) (.pair (.int .i64) (.sl (.sl (.int .i64))))))) m_1],.agg [.int .i64 r__0,.imm (.int .i64) r__1,.imm (.int .i64) r__2,.int .i64 r__3,.imm (.sl (.int .i64)) r__4]],[]=>.opt _ (ZkO (m_0,m_1) (r__0,(r__1,(r__2,(r__3,r__4))))) (fun r=>.ret (.c (.own 900 false)) [(900,.sl 89 y7_ r (.deep true .no))])
  |_,_=>.fail
def ZoA:Sched:=.alt 8 (.alt 9 (.alt 10 (.first 11 .done) .stop) .stop) .stop
def Zw7:Cfg:={ y:=tys,n:=54,h:=0,tab:=[(133,ZfV),(190,ZnJ),(246,Zo6)],cut:=[11],deep:=[9,51],sched:=[(10,(ZF [0,2,4,7] (.alt 1 (.alt 3 (ZF [5,6] ZoA) .stop) (.alt 3 (ZF [5,6] (.alt 1 ZoA .stop)) .stop))))] }
theorem ZHD {P:Prop} (h:P:=by
  refine Y4 ?_
  refine⟨r7_,hq2,?_⟩
  refine Y4 ?_
  refine Y4 ?_
  refine And.intro hq3 ?_
  refine Zg he fun he=>?_
  exact⟨_,(Zj he :),(Za [(10003003,43)])⟩):P:=h
theorem ZxF:Zn Tryz.prog 192 Zmd:=by
 refine Zp (C:=Zw7) Tryz.f192 (Zk ZjP (Zk Zwi (Zk ZAN Zq))) fun _ a b k he=>?_
 unfold Zmd at he;split at he;rotate_left;exact he.elim
 rename_i m_0 m_1 r__0 r__1 r__2 r__3 r__4
 refine Zs he fun he=>?_
 refine Zo (Zly (m_0,m_1) (r__0,(r__1,(r__2,(r__3,r__4))))) (fun (k_,out)=>(Zm [(2,.c (.ptr 10000000 0)),(3,.c (.ptr 10000001 0)),(5,.c (.own 10000002 false)),(6,.c (.int .i64 k_))],[(10000000,.rc [.imm y0_ (m_0,m_1).1,.imm y5_ (m_0,m_1).2]),(10000001,.rc [.int .i64 (r__0,(r__1,(r__2,(r__3,r__4)))).1,.imm y0_ (r__0,(r__1,(r__2,(r__3,r__4)))).2.1,.imm y0_ (r__0,(r__1,(r__2,(r__3,r__4)))).2.2.1,.int .i64 (r__0,(r__1,(r__2,(r__3,r__4)))).2.2.2.1,.imm (.sl y0_) (r__0,(r__1,(r__2,(r__3,r__4)))).2.2.2.2]),(10000002,.sl 89 y7_ out (.deep true .no))])) he (Za [(10000000,2),(10000001,3),(10000002,9)]) ?_
 rintro⟨k_,out⟩ _ he
 refine Zh he (fun he=>?_) fun he=>?_
 ·refine ZL (Zfr k_ out) (fun vars3=>(Zm [(2,.c (.ptr 10004000 0)),(3,.c (.ptr 10004001 0)),(5,.c (.own 10004002 false)),(6,.c (.int .i64 k_)),(7,.c (.own 10004003 false))],[(10004000,.rc [.imm y0_ (m_0,m_1).1,.imm y5_ (m_0,m_1).2]),(10004001,.rc [.int .i64 (r__0,(r__1,(r__2,(r__3,r__4)))).1,.imm y0_ (r__0,(r__1,(r__2,(r__3,r__4)))).2.1,.imm y0_ (r__0,(r__1,(r__2,(r__3,r__4)))).2.2.1,.int .i64 (r__0,(r__1,(r__2,(r__3,r__4)))).2.2.2.1,.imm (.sl y0_) (r__0,(r__1,(r__2,(r__3,r__4)))).2.2.2.2]),(10004002,.sl 89 y7_ out (.deep true .no)),(10004003,.sl 3 y0_ vars3 .shallow)])) he ?_ ?_
  ·rintro vars3 he
   refine Zh he (fun he=>?_) fun he=>?_
   ·refine Zi he fun r8_ he=>?_
    refine Zi he fun r9_ he=>?_
    refine Zg he fun he=>?_
    refine Zg he fun he=>?_
    exact⟨_,(Zj he :),(Za [(10000000,10004000),(10000001,10004001),(10000002,52)])⟩
   ·exact ZKD
  ·skip
   refine Zo (Zfs (m_0,m_1) (r__0,(r__1,(r__2,(r__3,r__4)))) k_ out) (fun (i1,vars2)=>(Zm [(2,.c (.ptr 10003000 0)),(3,.c (.ptr 10003001 0)),(5,.c (.own 10003002 false)),(6,.c (.int .i64 k_)),(7,.c (.own 10003003 false)),(8,.c (.int .i64 i1))],[(10003000,.rc [.imm y0_ (m_0,m_1).1,.imm y5_ (m_0,m_1).2]),(10003001,.rc [.int .i64 (r__0,(r__1,(r__2,(r__3,r__4)))).1,.imm y0_ (r__0,(r__1,(r__2,(r__3,r__4)))).2.1,.imm y0_ (r__0,(r__1,(r__2,(r__3,r__4)))).2.2.1,.int .i64 (r__0,(r__1,(r__2,(r__3,r__4)))).2.2.2.1,.imm (.sl y0_) (r__0,(r__1,(r__2,(r__3,r__4)))).2.2.2.2]),(10003002,.sl 89 y7_ out (.deep true .no)),(10003003,.sl 3 y0_ vars2 .shallow)])) he (Za [(10003000,10000000),(10003001,10000001),(10003002,10000002),(10003003,14)]) ?_
   rintro⟨i1,vars2⟩ _ he
   refine Zh he (fun he=>?_) fun he=>?_
   ·refine And.intro (by kernel_rfl) ?_
    refine Zg he fun he=>?_
    refine Zg he fun he=>?_
    refine Zh he (fun he=>?_) fun he=>?_
    ·refine And.intro (by kernel_rfl) ?_
     obtain⟨hq1,he⟩:=ZO he
     obtain⟨r7_,hq2,he⟩:=Z6 he
     obtain⟨hq3,he⟩:=ZO he
     refine Y5 ?_ ?_
     ·skip
      refine Y4 ?_
      refine And.intro hq1 ?_
      exact ZHD
     ·skip
      refine And.intro hq1 ?_
      refine Y4 ?_
      exact ZHD
    ·exact Zdy
   ·exact⟨_,(Zbh he :),(Za [(10004000,10003000),(10004001,10003001),(10004002,10003002),(10004003,10003003)])⟩
 ·exact Zv [(4,[])] (Zj he :) (Za [(900,10000002)])
def Zrl:Con:=fun
  |[.c (.imm (.int .i64) a),.c (.imm (.int .i64) b)],[]=>.opt _ (Zqn a b) (fun r=>.ret (.c (.bool r)) [])
  |_,_=>.fail
def ZDx:Cfg:={ y:=tys,n:=26,h:=0,tab:=[] }
theorem ZDL:Zn Tryz.prog 251 Zrl:=by
 refine Zp (C:=ZDx) Tryz.f251 Zq fun _ a b k he=>?_
 unfold Zrl at he;split at he;rotate_left;exact he.elim
 rename_i a b
 refine Zs he fun he=>?_
 refine Zh he (fun he=>?_) fun he=>?_
 ·exact Z5
 ·refine Zo (ZmU a b) (fun i=>(Zm [(0,.c (.imm y0_ a)),(1,.c (.imm y0_ b)),(5,.c (.int .i64 i))],[])) he (Za []) ?_
  exact ZF9
def ZpR:Con:=fun
  |[.agg [.int .i64 a0_0,.imm (.int .i64) a0_1,.imm (.int .i64) a0_2,.int .i64 a0_3,.imm (.sl (.int .i64)) a0_4],.c (.imm (.int .i64) a1)],[]=>.opt _ (Zpp (a0_0,(a0_1,(a0_2,(a0_3,a0_4)))) a1) (fun r=>.ret (.c (.bool r)) [])
  |_,_=>.fail
def ZBK:Cfg:={ y:=tys,n:=102,h:=0,tab:=[(251,Zrl)],cut:=[6] }
theorem ZB7:Zn Tryz.prog 205 ZpR:=by
 refine Zp (C:=ZBK) Tryz.f205 (Zk ZDL Zq) fun _ a b k he=>?_
 unfold ZpR at he;split at he;rotate_left;exact he.elim
 rename_i a0_0 a0_1 a0_2 a0_3 a0_4 a1
 refine Zs he fun he=>?_
 refine ZL (ZlM (a0_0,(a0_1,(a0_2,(a0_3,a0_4))))) (fun i2=>(Zm [(2,.c (.ptr 10001000 0)),(5,.c (.own 10001001 false))],[(10001000,.rc [.int .i64 (a0_0,(a0_1,(a0_2,(a0_3,a0_4)))).1,.imm y0_ (a0_0,(a0_1,(a0_2,(a0_3,a0_4)))).2.1,.imm y0_ (a0_0,(a0_1,(a0_2,(a0_3,a0_4)))).2.2.1,.int .i64 (a0_0,(a0_1,(a0_2,(a0_3,a0_4)))).2.2.2.1,.imm (.sl y0_) (a0_0,(a0_1,(a0_2,(a0_3,a0_4)))).2.2.2.2]),(10001001,.sl 3 y0_ i2 .shallow)])) he ?_ ?_
 ·rintro i2 he
  refine Zh he (fun he=>?_) fun he=>?_
  ·refine Zo (Zpq (a0_0,(a0_1,(a0_2,(a0_3,a0_4)))) i2) (fun (i3,i4)=>(Zm [(2,.c (.ptr 10002000 0)),(5,.c (.own 10002001 false)),(7,.c (.int .i64 i3)),(8,.c (.int .i64 i4))],[(10002000,.rc [.int .i64 (a0_0,(a0_1,(a0_2,(a0_3,a0_4)))).1,.imm y0_ (a0_0,(a0_1,(a0_2,(a0_3,a0_4)))).2.1,.imm y0_ (a0_0,(a0_1,(a0_2,(a0_3,a0_4)))).2.2.1,.int .i64 (a0_0,(a0_1,(a0_2,(a0_3,a0_4)))).2.2.2.1,.imm (.sl y0_) (a0_0,(a0_1,(a0_2,(a0_3,a0_4)))).2.2.2.2]),(10002001,.sl 3 y0_ i2 .shallow)])) he (Za [(10002000,10001000),(10002001,10001001)]) ?_
   rintro⟨i3,i4⟩ _ he
   refine Zh he (fun he=>?_) fun he=>?_
   ·refine And.intro (by kernel_rfl) ?_
    exact Zyo
   ·exact Zbg
  ·refine Zh he (fun he=>?_) fun he=>?_
   ·refine Zo (ZiP i2) (fun i5=>(Zm [(5,.c (.own 10003000 false)),(9,.c (.int .i64 i5))],[(10003000,.sl 3 y0_ i2 .shallow)])) he (Za [(10003000,10001001)]) ?_
    rintro i5 _ he
    refine Zh he (fun he=>?_) fun he=>?_
    ·refine Zo (ZiQ i2 i5) (fun i6=>(Zm [(5,.c (.own 10004000 false)),(9,.c (.int .i64 i5)),(10,.c (.int .i64 i6))],[(10004000,.sl 3 y0_ i2 .shallow)])) he (Za [(10004000,10003000)]) ?_
     rintro i6 _ he
     refine Zh he (fun he=>?_) fun he=>?_
     ·exact ZKw
     ·refine Zg he fun he=>?_
      exact⟨_,(Zj he :),(Za [(10003000,10004000)])⟩
    ·exact Zbg
   ·refine Zh he (fun he=>?_) fun he=>?_
    ·refine And.intro (by kernel_rfl) ?_
     exact ZEb
    ·refine Zo (ZlN (a0_0,(a0_1,(a0_2,(a0_3,a0_4)))) i2) (fun i7=>(Zm [(2,.c (.ptr 10005000 0)),(5,.c (.own 10005001 false)),(11,.c (.int .i64 i7))],[(10005000,.rc [.int .i64 (a0_0,(a0_1,(a0_2,(a0_3,a0_4)))).1,.imm y0_ (a0_0,(a0_1,(a0_2,(a0_3,a0_4)))).2.1,.imm y0_ (a0_0,(a0_1,(a0_2,(a0_3,a0_4)))).2.2.1,.int .i64 (a0_0,(a0_1,(a0_2,(a0_3,a0_4)))).2.2.2.1,.imm (.sl y0_) (a0_0,(a0_1,(a0_2,(a0_3,a0_4)))).2.2.2.2]),(10005001,.sl 3 y0_ i2 .shallow)])) he (Za [(10005000,10001000),(10005001,10001001)]) ?_
     rintro i7 _ he
     exact Zyn
 ·skip
  refine Zo (ZlO (a0_0,(a0_1,(a0_2,(a0_3,a0_4)))) a1) (fun (i,i1)=>(Zm [(1,.c (.imm y0_ a1)),(2,.c (.ptr 10000000 0)),(5,.c (.own 10000001 false)),(6,.c (.int .i64 i))],[(10000000,.rc [.int .i64 (a0_0,(a0_1,(a0_2,(a0_3,a0_4)))).1,.imm y0_ (a0_0,(a0_1,(a0_2,(a0_3,a0_4)))).2.1,.imm y0_ (a0_0,(a0_1,(a0_2,(a0_3,a0_4)))).2.2.1,.int .i64 (a0_0,(a0_1,(a0_2,(a0_3,a0_4)))).2.2.2.1,.imm (.sl y0_) (a0_0,(a0_1,(a0_2,(a0_3,a0_4)))).2.2.2.2]),(10000001,.sl 3 y0_ i1 .shallow)])) he (Za [(10000000,2),(10000001,12)]) ?_
  rintro⟨i,i1⟩ _ he
  refine Zh he (fun he=>?_) fun he=>?_
  ·refine Zg he fun he=>?_
   refine Zg he fun he=>?_
   refine Zg he fun he=>?_
   refine Zg he fun he=>?_
   exact⟨_,(Zj he :),(Za [(10000001,30)])⟩
  ·exact⟨_,(Zbh he :),(Za [(10001000,10000000),(10001001,10000001)])⟩
def Zrm:Con:=fun
  |[.agg [.imm (.int .i64) m_0,.imm (.pair (.int .i64) (.pair (.sl (.int .i64)) (.pair (.sl (.int .i64)) (.pair (.int .i64) (.sl (.sl (.int .i64))))))) m_1],.c (.imm (.int .i64) cells)],[]=>.opt _ (ZnB (m_0,m_1) cells) (fun r=>.ret (.tup [.c (.own 900 false),.c (.bool r.1)]) [(900,.sl 3 y0_ r.2 .shallow)])
  |_,_=>.fail
def ZDy:Cfg:={ y:=tys,n:=41,h:=0,tab:=[] }
theorem ZDM:Zn Tryz.prog 247 Zrm:=by
 refine Zp (C:=ZDy) Tryz.f247 Zq fun _ a b k he=>?_
 unfold Zrm at he;split at he;rotate_left;exact he.elim
 rename_i m_0 m_1 cells
 refine Zs he fun he=>?_
 refine Zg he fun he=>?_
 refine Zg he fun he=>?_
 refine Zo (ZmV (m_0,m_1)) (fun (i,out)=>(Zm [(2,.c (.ptr 10000000 0)),(6,.c (.own 10000001 false)),(7,.c (.int .i64 i))],[(10000000,.rc [.imm y0_ (m_0,m_1).1,.imm y5_ (m_0,m_1).2]),(10000001,.sl 3 y0_ out .shallow)])) he (Za [(10000000,2),(10000001,10)]) ?_
 rintro⟨i,out⟩ _ he
 refine Zh he (fun he=>?_) fun he=>?_
 ·refine And.intro (by kernel_rfl) ?_
  refine Zg he fun he=>?_
  refine Zg he fun he=>?_
  refine Zh he (fun he=>?_) fun he=>?_
  ·refine Zg he fun he=>?_
   refine Zg he fun he=>?_
   refine Zg he fun he=>?_
   exact ZBy
  ·exact ZyQ
 ·exact ZBy
def Zo4:Con:=fun
  |[.agg [.imm (.int .i64) a0_0,.imm (.pair (.int .i64) (.pair (.sl (.int .i64)) (.pair (.sl (.int .i64)) (.pair (.int .i64) (.sl (.sl (.int .i64))))))) a0_1],.agg [.int .i64 a1_0,.imm (.int .i64) a1_1,.imm (.int .i64) a1_2,.int .i64 a1_3,.imm (.sl (.int .i64)) a1_4]],[]=>.opt _ (ZnR (a0_0,a0_1) (a1_0,(a1_1,(a1_2,(a1_3,a1_4))))) (fun r=>.ret (.c (.own 900 false)) [(900,.sl 89 y7_ r (.deep true .no))])
  |_,_=>.fail
def ZqM:Sched:=.alt 12 (.first 13 (.alt 14 .done .stop)) .stop
def ZqN:Sched:=.alt 11 ZqM .stop
def ZqO:Sched:=ZF [9,10] ZqN
def ZqP:Sched:=.alt 5 (ZF [7,8] ZqO) .stop
def ZqQ:Sched:=.alt 3 ZqO .stop
def ZqR:Sched:=ZF [9,10] (.alt 1 ZqN (.alt 11 (.alt 1 ZqM .stop) .stop))
def ZqS:Sched:=.first 10 (.alt 11 .done .stop)
def ZlY:Sched:=.alt 11 (.first 12 (.alt 13 (.alt 14 (.first 15 .done) .stop) .stop)) .stop
def ZqT:Sched:=.alt 10 ZlY .stop
def ZpA:Sched:=.alt 3 (ZF [5,6] ZlY) .stop
def ZpB:Sched:=.alt 1 ZlY .stop
def ZAl:Cfg:={ y:=tys,n:=100,h:=0,tab:=[(133,ZfV),(189,ZiA),(205,ZpR),(247,Zrm)],cut:=[6,16,17,20],deep:=[37,91],sched:=[(5,(ZF [0,2,4,6] (.alt 1 (.alt 3 ZqP (.alt 5 (ZF [7,8] ZqQ) .stop)) (.alt 3 (.alt 1 ZqP (.alt 5 (ZF [7,8] ZqR) .stop)) (.alt 5 (ZF [7,8] (.alt 1 ZqQ (.alt 3 ZqR .stop))) .stop))))),(15,(ZF [0,1,3,6,7,8] (.alt 2 (ZF [4,5] (.alt 9 ZqS .stop)) (.alt 9 (.alt 2 (ZF [4,5] ZqS) .stop) .stop)))),(16,(ZF [0,2,4,7,8,9] (.alt 1 (.alt 3 (ZF [5,6] ZqT) (.alt 10 ZpA .stop)) (.alt 3 (ZF [5,6] (.alt 1 ZqT (.alt 10 ZpB .stop))) (.alt 10 (.alt 1 ZpA (.alt 3 (ZF [5,6] ZpB) .stop)) .stop)))))] }
theorem ZyG {P:Prop} (h:P:=by
  refine Y4 ?_
  refine⟨r8_,hq2,?_⟩
  refine And.intro hq3 ?_
  refine Y4 ?_
  refine Y4 ?_
  refine And.intro hq4 ?_
  refine Zg he fun he=>?_
  exact⟨_,(Zj he :),(Za [(10008000,10010000),(10008001,10010001),(10008002,10010002),(10008003,10010003),(10008004,10010004),(10008005,10010005),(10008006,79),(10008007,10010007)])⟩):P:=h
theorem ZHE {P:Prop} (h:P:=by
  skip
  refine And.intro hq1 ?_
  refine Y4 ?_
  exact ZyG):P:=h
theorem ZHF {P:Prop} (h:P:=by
  skip
  refine Y4 ?_
  refine And.intro hq1 ?_
  exact ZyG):P:=h
theorem ZHG {P:Prop} (h:P:=by
  refine And.intro hq2 ?_
  refine Y4 ?_
  exact⟨_,he,(Za [(10010000,10008000),(10010001,10008001),(10010002,10008002),(10010003,10008003),(10010004,10008004),(10010005,10008005),(10010006,10008006),(10010007,10008007)])⟩):P:=h
theorem ZuV {P:Prop} (h:P:=by
  refine Y4 ?_
  refine Y4 ?_
  refine And.intro hq3 ?_
  refine Y4 ?_
  exact ZIV):P:=h
theorem ZHH {P:Prop} (h:P:=by
  skip
  refine Y4 ?_
  refine And.intro hq1 ?_
  refine And.intro hq2 ?_
  exact ZuV):P:=h
theorem ZHI {P:Prop} (h:P:=by
  refine And.intro hq2 ?_
  refine Y5 ?_ ?_
  ·skip
   exact ZuV
  ·skip
   exact ZuV):P:=h
theorem ZAL:Zn Tryz.prog 193 Zo4:=by
 refine Zp (C:=ZAl) Tryz.f193 (Zk ZjP (Zk Zpi (Zk ZB7 (Zk ZDM Zq)))) fun _ a b k he=>?_
 unfold Zo4 at he;split at he;rotate_left;exact he.elim
 rename_i a0_0 a0_1 a1_0 a1_1 a1_2 a1_3 a1_4
 refine Zs he fun he=>?_
 refine ZL (ZhF (a0_0,a0_1) (a1_0,(a1_1,(a1_2,(a1_3,a1_4))))) (fun i_01=>(Zm [(2,.c (.ptr 10001000 0)),(3,.c (.ptr 10001001 0)),(5,.c (.ptr 10001002 0))],[(10001000,.rc [.imm y0_ (a0_0,a0_1).1,.imm y5_ (a0_0,a0_1).2]),(10001001,.rc [.int .i64 (a1_0,(a1_1,(a1_2,(a1_3,a1_4)))).1,.imm y0_ (a1_0,(a1_1,(a1_2,(a1_3,a1_4)))).2.1,.imm y0_ (a1_0,(a1_1,(a1_2,(a1_3,a1_4)))).2.2.1,.int .i64 (a1_0,(a1_1,(a1_2,(a1_3,a1_4)))).2.2.2.1,.imm (.sl y0_) (a1_0,(a1_1,(a1_2,(a1_3,a1_4)))).2.2.2.2]),(10001002,.rc [.own 10001003 false,.nil]),(10001003,.sl 3 y0_ i_01 .shallow)])) he ?_ ?_
 ·rintro i_01 he
  refine Zg he fun he=>?_
  refine Zo (ZkP (a0_0,a0_1) (a1_0,(a1_1,(a1_2,(a1_3,a1_4)))) i_01) (fun (i1,i8,i9)=>(Zm [(2,.c (.ptr 10002000 0)),(3,.c (.ptr 10002001 0)),(5,.c (.ptr 10002002 0)),(7,.c (.own 10002003 false)),(8,.c (.own 10002004 false)),(9,.c (.bool i1))],[(10002000,.rc [.imm y0_ (a0_0,a0_1).1,.imm y5_ (a0_0,a0_1).2]),(10002001,.rc [.int .i64 (a1_0,(a1_1,(a1_2,(a1_3,a1_4)))).1,.imm y0_ (a1_0,(a1_1,(a1_2,(a1_3,a1_4)))).2.1,.imm y0_ (a1_0,(a1_1,(a1_2,(a1_3,a1_4)))).2.2.1,.int .i64 (a1_0,(a1_1,(a1_2,(a1_3,a1_4)))).2.2.2.1,.imm (.sl y0_) (a1_0,(a1_1,(a1_2,(a1_3,a1_4)))).2.2.2.2]),(10002002,.rc [.own 10002005 false,.nil]),(10002003,.sl 89 y7_ i8 (.deep true .no)),(10002004,.sl 3 y0_ i9 .shallow),(10002005,.sl 3 y0_ i_01 .shallow)])) he (Za [(10002000,10001000),(10002001,10001001),(10002002,10001002),(10002003,37),(10002004,41),(10002005,10001003)]) ?_
  rintro⟨i1,i8,i9⟩ _ he
  refine Zh he (fun he=>?_) fun he=>?_
  ·refine Zg he fun he=>?_
   refine ZL (ZhG (a1_0,(a1_1,(a1_2,(a1_3,a1_4)))) i_01 i8 i9) (fun (i13,i14)=>(Zm [(2,.c (.ptr 10011000 0)),(3,.c (.ptr 10011001 0)),(5,.c (.ptr 10011002 0)),(7,.c (.own 10011003 false)),(8,.c (.own 10011004 false)),(10,.c (.own 10011005 false)),(11,.c (.own 10011006 false))],[(10011000,.rc [.imm y0_ (a0_0,a0_1).1,.imm y5_ (a0_0,a0_1).2]),(10011001,.rc [.int .i64 (a1_0,(a1_1,(a1_2,(a1_3,a1_4)))).1,.imm y0_ (a1_0,(a1_1,(a1_2,(a1_3,a1_4)))).2.1,.imm y0_ (a1_0,(a1_1,(a1_2,(a1_3,a1_4)))).2.2.1,.int .i64 (a1_0,(a1_1,(a1_2,(a1_3,a1_4)))).2.2.2.1,.imm (.sl y0_) (a1_0,(a1_1,(a1_2,(a1_3,a1_4)))).2.2.2.2]),(10011002,.rc [.own 10011007 false,.nil]),(10011003,.sl 89 y7_ i8 (.deep true .no)),(10011004,.sl 3 y0_ i9 .shallow),(10011005,.sl 3 y0_ i13 .shallow),(10011006,.sl 3 y0_ i14 .shallow),(10011007,.sl 3 y0_ i_01 .shallow)])) he ?_ ?_
   ·rintro⟨i13,i14⟩ he
    refine ZL (ZhH i_01 i9) (fun i15=>(Zm [(2,.c (.ptr 10012000 0)),(3,.c (.ptr 10012001 0)),(5,.c (.ptr 10012002 0)),(7,.c (.own 10012003 false)),(8,.c (.own 10012004 false))],[(10012000,.rc [.imm y0_ (a0_0,a0_1).1,.imm y5_ (a0_0,a0_1).2]),(10012001,.rc [.int .i64 (a1_0,(a1_1,(a1_2,(a1_3,a1_4)))).1,.imm y0_ (a1_0,(a1_1,(a1_2,(a1_3,a1_4)))).2.1,.imm y0_ (a1_0,(a1_1,(a1_2,(a1_3,a1_4)))).2.2.1,.int .i64 (a1_0,(a1_1,(a1_2,(a1_3,a1_4)))).2.2.2.1,.imm (.sl y0_) (a1_0,(a1_1,(a1_2,(a1_3,a1_4)))).2.2.2.2]),(10012002,.rc [.own 10012005 false,.nil]),(10012003,.sl 89 y7_ i15 (.deep true .no)),(10012004,.sl 3 y0_ i9 .shallow),(10012005,.sl 3 y0_ i_01 .shallow)])) he ?_ ?_
    ·rintro i15 he
     refine Zi he fun r11_ he=>?_
     exact⟨_,(Zj he :),(Za [(10002000,10012000),(10002001,10012001),(10002002,10012002),(10002003,10012003),(10002004,97900),(10002005,10012005)])⟩
    ·skip
     refine Zi he fun r9_ he=>?_
     refine Zh he (fun he=>?_) fun he=>?_
     ·refine Zi he fun r10_ he=>?_
      refine Zg he fun he=>?_
      exact⟨_,he,(Za [(10012000,10011000),(10012001,10011001),(10012002,10011002),(10012003,92),(10012004,10011004),(10012005,10011007)])⟩
     ·exact⟨_,he,(Za [(10012000,10011000),(10012001,10011001),(10012002,10011002),(10012003,10011003),(10012004,10011004),(10012005,10011007)])⟩
   ·skip
    refine Zo (ZkQ (a0_0,a0_1) (a1_0,(a1_1,(a1_2,(a1_3,a1_4)))) i_01 i8 i9) (fun (i10,i11,i12)=>(Zm [(2,.c (.ptr 10008000 0)),(3,.c (.ptr 10008001 0)),(5,.c (.ptr 10008002 0)),(7,.c (.own 10008003 false)),(8,.c (.own 10008004 false)),(10,.c (.own 10008005 false)),(11,.c (.own 10008006 false)),(12,.c (.int .i64 i10))],[(10008000,.rc [.imm y0_ (a0_0,a0_1).1,.imm y5_ (a0_0,a0_1).2]),(10008001,.rc [.int .i64 (a1_0,(a1_1,(a1_2,(a1_3,a1_4)))).1,.imm y0_ (a1_0,(a1_1,(a1_2,(a1_3,a1_4)))).2.1,.imm y0_ (a1_0,(a1_1,(a1_2,(a1_3,a1_4)))).2.2.1,.int .i64 (a1_0,(a1_1,(a1_2,(a1_3,a1_4)))).2.2.2.1,.imm (.sl y0_) (a1_0,(a1_1,(a1_2,(a1_3,a1_4)))).2.2.2.2]),(10008002,.rc [.own 10008007 false,.nil]),(10008003,.sl 89 y7_ i8 (.deep true .no)),(10008004,.sl 3 y0_ i9 .shallow),(10008005,.sl 3 y0_ i11 .shallow),(10008006,.sl 3 y0_ i12 .shallow),(10008007,.sl 3 y0_ i_01 .shallow)])) he (Za [(10008000,10002000),(10008001,10002001),(10008002,10002002),(10008003,10002003),(10008004,10002004),(10008005,46),(10008006,47),(10008007,10002005)]) ?_
    rintro⟨i10,i11,i12⟩ _ he
    refine Zh he (fun he=>?_) fun he=>?_
    ·refine ZL (Zom (a0_0,a0_1) (a1_0,(a1_1,(a1_2,(a1_3,a1_4)))) i9 i10 i11 i12) (fun _=>(Zm [(2,.c (.ptr 10010000 0)),(3,.c (.ptr 10010001 0)),(5,.c (.ptr 10010002 0)),(7,.c (.own 10010003 false)),(8,.c (.own 10010004 false)),(10,.c (.own 10010005 false)),(11,.c (.own 10010006 false)),(12,.c (.int .i64 i10))],[(10010000,.rc [.imm y0_ (a0_0,a0_1).1,.imm y5_ (a0_0,a0_1).2]),(10010001,.rc [.int .i64 (a1_0,(a1_1,(a1_2,(a1_3,a1_4)))).1,.imm y0_ (a1_0,(a1_1,(a1_2,(a1_3,a1_4)))).2.1,.imm y0_ (a1_0,(a1_1,(a1_2,(a1_3,a1_4)))).2.2.1,.int .i64 (a1_0,(a1_1,(a1_2,(a1_3,a1_4)))).2.2.2.1,.imm (.sl y0_) (a1_0,(a1_1,(a1_2,(a1_3,a1_4)))).2.2.2.2]),(10010002,.rc [.own 10010007 false,.nil]),(10010003,.sl 89 y7_ i8 (.deep true .no)),(10010004,.sl 3 y0_ i9 .shallow),(10010005,.sl 3 y0_ (i11.set ((a1_0,(a1_1,(a1_2,(a1_3,a1_4)))).2.1.getD i10.toNat 0).toNat (i9.getD i10.toNat 0)) .shallow),(10010006,.sl 3 y0_ i12 .shallow),(10010007,.sl 3 y0_ i_01 .shallow)])) he ?_ ?_
     ·rintro⟨⟩ he
      refine And.intro (by kernel_rfl) ?_
      refine Zg he fun he=>?_
      obtain⟨hq1,he⟩:=ZO he
      obtain⟨r8_,hq2,he⟩:=Z6 he
      obtain⟨hq3,he⟩:=ZO he
      obtain⟨hq4,he⟩:=ZO he
      refine And.intro ?_ (And.intro ?_ (And.intro ?_ (Y1)))
      ·skip
       refine Y5 ?_ ?_
       ·exact ZHE
       ·exact ZHF
      ·skip
       refine And.intro hq1 ?_
       refine Y5 ?_ ?_
       ·skip
        refine Y4 ?_
        exact ZyG
       ·skip
        refine Y4 ?_
        exact ZyG
      ·skip
       refine Y5 ?_ ?_
       ·exact ZHF
       ·exact ZHE
     ·skip
      refine And.intro (by kernel_rfl) ?_
      refine Zg he fun he=>?_
      obtain⟨hq1,he⟩:=ZO he
      obtain⟨hq2,he⟩:=ZO he
      refine Y5 ?_ ?_
      ·skip
       refine And.intro hq1 ?_
       refine Y4 ?_
       exact ZHG
      ·skip
       refine Y4 ?_
       refine And.intro hq1 ?_
       exact ZHG
    ·exact⟨_,(Zbh he :),(Za [(10011000,10008000),(10011001,10008001),(10011002,10008002),(10011003,10008003),(10011004,10008004),(10011005,10008005),(10011006,10008006),(10011007,10008007)])⟩
  ·exact Zv [(4,[])] (Zj he :) (Za [(900,10002003)])
 ·skip
  refine Zo (ZhI (a0_0,a0_1) (a1_0,(a1_1,(a1_2,(a1_3,a1_4))))) (fun (i,i_0)=>(Zm [(2,.c (.ptr 10000000 0)),(3,.c (.ptr 10000001 0)),(5,.c (.ptr 10000002 0)),(6,.c (.int .i64 i))],[(10000000,.rc [.imm y0_ (a0_0,a0_1).1,.imm y5_ (a0_0,a0_1).2]),(10000001,.rc [.int .i64 (a1_0,(a1_1,(a1_2,(a1_3,a1_4)))).1,.imm y0_ (a1_0,(a1_1,(a1_2,(a1_3,a1_4)))).2.1,.imm y0_ (a1_0,(a1_1,(a1_2,(a1_3,a1_4)))).2.2.1,.int .i64 (a1_0,(a1_1,(a1_2,(a1_3,a1_4)))).2.2.2.1,.imm (.sl y0_) (a1_0,(a1_1,(a1_2,(a1_3,a1_4)))).2.2.2.2]),(10000002,.rc [.own 10000003 false,.nil]),(10000003,.sl 3 y0_ i_0 .shallow)])) he (Za [(10000000,2),(10000001,3),(10000002,5)]) ?_
  rintro⟨i,i_0⟩ _ he
  refine Zh he (fun he=>?_) fun he=>?_
  ·refine And.intro (by kernel_rfl) ?_
   obtain⟨hq1,he⟩:=ZO he
   obtain⟨hq2,he⟩:=ZO he
   obtain⟨hq3,he⟩:=ZO he
   refine And.intro ?_ (And.intro ?_ (And.intro ?_ (Y1)))
   ·skip
    refine Y5 ?_ ?_
    ·exact ZHH
    ·skip
     refine And.intro hq1 ?_
     refine Y4 ?_
     refine And.intro hq2 ?_
     exact ZuV
   ·skip
    refine Y5 ?_ ?_
    ·exact ZHH
    ·skip
     refine And.intro hq1 ?_
     exact ZHI
   ·skip
    refine And.intro hq1 ?_
    refine Y5 ?_ ?_
    ·skip
     refine Y4 ?_
     refine And.intro hq2 ?_
     exact ZuV
    ·skip
     exact ZHI
  ·exact⟨_,(Zbh he :),(Za [(10001000,10000000),(10001001,10000001),(10001002,10000002),(10001003,10000003)])⟩
def Zrq:Con:=fun
  |[.agg [.imm (.int .i64) m_0,.imm (.pair (.int .i64) (.pair (.sl (.int .i64)) (.pair (.sl (.int .i64)) (.pair (.int .i64) (.sl (.sl (.int .i64))))))) m_1],.agg [.int .i64 r__0,.imm (.int .i64) r__1,.imm (.int .i64) r__2,.int .i64 r__3,.imm (.sl (.int .i64)) r__4]],[]=>.opt _ (Zqr (m_0,m_1) (r__0,(r__1,(r__2,(r__3,r__4))))) (fun r=>.ret (.c (.own 900 false)) [(900,.sl 89 y7_ r (.deep true .no))])
  |_,_=>.fail
def ZDD:Cfg:={ y:=tys,n:=20,h:=0,tab:=[(191,Zo5),(192,Zmd),(193,Zo4)] }
theorem ZDQ:Zn Tryz.prog 132 Zrq:=by
 refine Zp (C:=ZDD) Tryz.f132 (Zk ZAM (Zk ZxF (Zk ZAL Zq))) fun _ a b k he=>?_
 unfold Zrq at he;split at he;rotate_left;exact he.elim
 rename_i m_0 m_1 r__0 r__1 r__2 r__3 r__4
 refine Zs he fun he=>?_
 refine Zh he (fun he=>?_) fun he=>?_
 ·refine Zi he fun r1_ he=>?_
  exact Zv [(4,[])] (Zj he :) (Za [(900,12900)])
 ·refine Zh he (fun he=>?_) fun he=>?_
  ·refine Zi he fun r2_ he=>?_
   exact Zv [(4,[])] (Zj he :) (Za [(900,17900)])
  ·refine Zi he fun r3_ he=>?_
   exact Zv [(4,[])] (Zj he :) (Za [(900,20900)])
def Zl9:Con:=fun
  |[.agg [.imm (.int .i64) m_0,.imm (.pair (.int .i64) (.pair (.sl (.int .i64)) (.pair (.sl (.int .i64)) (.pair (.int .i64) (.sl (.sl (.int .i64))))))) m_1]],[]=>.opt _ (ZkE (m_0,m_1)) (fun r=>.ret (.tup [.c (.own 900 false),.c (.bool r.1)]) [(900,.sl 89 y7_ r.2 (.deep true .no))])
  |_,_=>.fail
def Zoq:Sched:=.alt 7 (.alt 8 (.first 9 .done) .stop) .stop
def Zw1:Cfg:={ y:=tys,n:=45,h:=0,tab:=[(130,Zgu),(131,Zrp),(132,Zrq)],cut:=[8,12],deep:=[10,11,43],sched:=[(11,(ZF [0,2,4] (.alt 1 (.alt 3 (ZF [5,6] Zoq) .stop) (.alt 3 (ZF [5,6] (.alt 1 Zoq .stop)) .stop))))] }
theorem ZHJ {P:Prop} (h:P:=by
  refine Y4 ?_
  refine⟨r6_,hq2,?_⟩
  refine Y4 ?_
  refine And.intro hq3 ?_
  refine Zg he fun he=>?_
  exact⟨_,(Zj he :),(Za [(10002001,39)])⟩):P:=h
theorem Zxz:Zn Tryz.prog 62 Zl9:=by
 refine Zp (C:=Zw1) Tryz.f62 (Zk Znb (Zk ZDP (Zk ZDQ Zq))) fun _ a b k he=>?_
 unfold Zl9 at he;split at he;rotate_left;exact he.elim
 rename_i m_0 m_1
 refine Zs he fun he=>?_
 refine Zi he fun r1_ he=>?_
 refine Zh he (fun he=>?_) fun he=>?_
 ·exact Zv [(2,[]),(3,[])] (Zj he :) (Za [(900,10)])
 ·refine ZL (ZhU (m_0,m_1)) (fun out1=>(Zm [(1,.c (.ptr 10001000 0)),(4,.c (.own 10001001 false))],[(10001000,.rc [.imm y0_ (m_0,m_1).1,.imm y5_ (m_0,m_1).2]),(10001001,.sl 89 y7_ out1 (.deep true .no))])) he ?_ ?_
  ·rintro out1 he
   refine ZL (ZhV) (fun out3=>(Zm [(4,.c (.own 10003000 false))],[(10003000,.sl 89 y7_ out3 (.deep true .no))])) he ?_ ?_
   ·rintro out3 he
    refine Zh he (fun he=>?_) fun he=>?_
    ·exact Zv [(2,[]),(3,[])] (Zj he :) (Za [(900,43)])
    ·exact Zv [(2,[]),(3,[])] (Zj he :) (Za [(900,10003000)])
   ·skip
    refine Zo (ZhW (m_0,m_1)) (fun (i1,out2)=>(Zm [(1,.c (.ptr 10002000 0)),(4,.c (.own 10002001 false)),(6,.c (.int .i64 i1))],[(10002000,.rc [.imm y0_ (m_0,m_1).1,.imm y5_ (m_0,m_1).2]),(10002001,.sl 89 y7_ out2 (.deep true .no))])) he (Za [(10002000,10001000),(10002001,10001001)]) ?_
    rintro⟨i1,out2⟩ _ he
    refine Zh he (fun he=>?_) fun he=>?_
    ·refine And.intro (by kernel_rfl) ?_
     obtain⟨hq1,he⟩:=ZO he
     obtain⟨r6_,hq2,he⟩:=Z6 he
     obtain⟨hq3,he⟩:=ZO he
     refine Y5 ?_ ?_
     ·skip
      refine Y4 ?_
      refine And.intro hq1 ?_
      exact ZHJ
     ·skip
      refine And.intro hq1 ?_
      refine Y4 ?_
      exact ZHJ
    ·exact⟨_,(Zbh he :),(Za [(10003000,10002001)])⟩
  ·skip
   refine Zo (ZhX (m_0,m_1)) (fun (i,out)=>(Zm [(1,.c (.ptr 10000000 0)),(4,.c (.own 10000001 false)),(5,.c (.int .i64 i))],[(10000000,.rc [.imm y0_ (m_0,m_1).1,.imm y5_ (m_0,m_1).2]),(10000001,.sl 89 y7_ out (.deep true .no))])) he (Za [(10000000,1),(10000001,11)]) ?_
   rintro⟨i,out⟩ _ he
   refine Zh he (fun he=>?_) fun he=>?_
   ·refine Zi he fun r3_ he=>?_
    refine Zg he fun he=>?_
    refine Zg he fun he=>?_
    exact⟨_,(Zj he :),(Za [(10000001,23)])⟩
   ·exact⟨_,(Zbh he :),(Za [(10001000,10000000),(10001001,10000001)])⟩
def ZmE:Con:=fun
  |[.agg [.imm (.int .i64) m_0,.imm (.pair (.int .i64) (.pair (.sl (.int .i64)) (.pair (.sl (.int .i64)) (.pair (.int .i64) (.sl (.sl (.int .i64))))))) m_1],.c (.imm (.int .i64) coefs)],[]=>.opt _ (Zmz (m_0,m_1) coefs) (fun r=>.ret (.c (.bool r)) [])
  |_,_=>.fail
def ZBN:Cfg:={ y:=tys,n:=35,h:=0,tab:=[(130,Zgu)] }
theorem ZuC:Zn Tryz.prog 63 ZmE:=by
 refine Zp (C:=ZBN) Tryz.f63 (Zk Znb Zq) fun _ a b k he=>?_
 unfold ZmE at he;split at he;rotate_left;exact he.elim
 rename_i m_0 m_1 coefs
 refine Zs he fun he=>?_
 refine Zi he fun r1_ he=>?_
 refine ZI he (fun he=>?_) fun he=>?_
 ·refine Zh he (fun he=>?_) fun he=>?_
  ·exact Zbg
  ·refine Zo (ZlV coefs) (fun i=>(Zm [(1,.c (.imm y0_ coefs)),(5,.c (.int .i64 i))],[])) he (Za []) ?_
   rintro i _ he
   refine Zh he (fun he=>?_) fun he=>?_
   ·refine Zg he fun he=>?_
    refine ZI he (fun he=>?_) fun he=>?_
    ·refine Zg he fun he=>?_
     exact ZBt
    ·exact Z5
   ·exact Z5
 ·exact Zbg
end
end Go.AE.Y
