/-
  Walks: each function keeps the contract that its model gives. No conditions.
-/
import Derived.Test.YtaeeiddjpigemaaGreatR8Tab
import Derived.Test.YtaeeiddjpigemaaGreatR8W7
import Derived.Test.YtaeeiddjpigemaaGreatR8S
namespace Go.AE.Y
open Go Go.AE Go.Proofs
set_option linter.unusedVariables false
set_option maxHeartbeats 2000000
set_option maxRecDepth 100000
noncomputable section
def Zfs:Con:=fun
  |[.agg [.imm (.pair (.int .i64) (.int .i64)) c__0,.int .i64 c__1]],[]=>.opt _ (Zdi (c__0,c__1)) (fun r=>.ret (.tup [.agg [.imm y6_ r.2.1,.int .i64 r.2.2],.c (.bool r.1)]) [(900,.rc [.imm y6_ r.2.1,.int .i64 r.2.2])])
  |_,_=>.fail
def ZtV:Cfg:={ y:=tys,n:=9,h:=0,tab:=[(223,Zbb)] }
theorem ZnL:Zn Tryz.prog 187 Zfs:=by
 refine Zq (C:=ZtV) Tryz.f187 (Zk ZbH Zr) fun _ a b k he=>?_
 unfold Zfs at he;split at he;rotate_left;exact he.elim
 rename_i c__0 c__1
 refine Zs he fun he=>?_
 refine Zi he fun r1_ he=>?_
 refine Zh he (fun he=>?_) fun he=>?_
 ·exact Zt [(2,[900]),(3,[])] (Zj he :) (Zc9 [(900,2)] rfl rfl ⟨⟨.inr (.inl Y2),rfl,Y1⟩,Y1⟩ ⟨⟨Y2,rfl⟩,.inr rfl,Y1⟩)
 ·exact ZtR
def Zcb:Con:=fun
  |[.agg [.imm (.pair (.int .i64) (.int .i64)) c__0,.int .i64 c__1],.c (.fn 292 [0])],[(0,.rc [.int .i64 o0])]=>.opt _ (ZbC (c__0,c__1) o0) (fun r=>.ret (.tup [.agg [.imm y6_ r.2.1,.int .i64 r.2.2],.c (.bool r.1)]) [(0,.rc [.int .i64 o0]),(900,.rc [.imm y6_ r.2.1,.int .i64 r.2.2])])
  |_,_=>.fail
def Zdo:Sched:=ZB [11,12] (.alt 13 .done .stop)
def Zdp:Sched:=.alt 10 Zdo .stop
def Zdq:Sched:=.alt 9 Zdp .stop
def Zgy:Cfg:={ y:=tys,n:=39,h:=1,tab:=[(160,ZeT),(187,Zfs),(292,Zf4)],cut:=[8],good:=[187],sched:=[(6,(ZB [0,2,3,4,6] (.alt 1 (.alt 5 (ZB [7,8] Zdq) .stop) (.alt 5 (ZB [7,8] (.alt 1 Zdq (.alt 9 (.alt 1 Zdp (.alt 10 (.alt 1 Zdo .stop) .stop)) .stop))) .stop))))] }
theorem ZI5 {P:Prop} (h:P:=by
  rintro out_01 he
  refine Zi he fun r6_ he=>?_
  exact Zt [(4,[900]),(5,[])] (Zj he :) (Za [(900,10001000)])):P:=h
theorem ZDE {P:Prop} (h:P:=by
  refine Y4 ?_
  refine⟨r5_,hq2,?_⟩
  refine And.intro hq1 ?_
  exact Zos):P:=h
theorem ZI6 {P:Prop} (h:P:=by
  rintro⟨i,out_0⟩ _ he
  refine Zh he (fun he=>?_) fun he=>?_
  ·refine And.intro (by kernel_rfl) ?_
   obtain⟨hq1,he⟩:=ZP he
   obtain⟨r5_,hq2,he⟩:=ZX he
   obtain⟨hq3,he⟩:=ZP he
   refine Y5 ?_ ?_
   ·skip
    refine Y4 ?_
    refine And.intro hq1 ?_
    refine Y4 ?_
    exact ZDE
   ·skip
    refine And.intro hq1 ?_
    refine Y5 ?_ ?_
    ·skip
     refine Y4 ?_
     exact ZDE
    ·skip
     refine Y5 ?_ ?_
     ·skip
      exact ZDE
     ·skip
      refine⟨r5_,hq2,?_⟩
      refine Y4 ?_
      refine And.intro hq1 ?_
      exact Zos
  ·exact⟨_,(Zbp he :),(Za [(10001000,10000000),(10001001,10000001),(10001002,10000002)])⟩):P:=h
theorem ZgF:Zn Tryz.prog 291 Zcb:=by
 refine Zq (C:=Zgy) Tryz.f291 (Zk Zka (Zk ZnL (Zk ZrL Zr))) fun _ a b k he=>?_
 unfold Zcb at he;split at he;rotate_left;exact he.elim
 rename_i c__0 c__1 o0
 refine Zs he fun he=>?_
 refine Zi he fun r1_ he=>?_
 refine Zi he fun r2_ he=>?_
 refine ZN (Zb6 r2_) (fun out_01=>(Zm [(4,.c (.ptr 10001000 0)),(6,.c (.ptr 10001001 0))],[(0,.rc [.int .i64 o0]),(10001000,.rc [.nil,.int .i64 (0:Int)]),(10001001,.rc [.own 10001002 false,.int .i64 r2_]),(10001002,.sl 155 y6_ out_01 .shallow)])) he ?_ ?_
 ·exact ZI5
 ·skip
  refine Zp (Zbm o0 r1_ r2_) (fun (i,out_0)=>(Zm [(1,.c (.fn 292 [0])),(4,.c (.ptr 10000000 0)),(6,.c (.ptr 10000001 0)),(17,.c (.int .i64 (r1_.2.length:Int))),(18,.c (.int .i64 i))],[(0,.rc [.int .i64 o0]),(10000000,.rc [.nil,.int .i64 (0:Int)]),(10000001,.rc [.own 10000002 false,.int .i64 r2_]),(10000002,.sl 155 y6_ out_0 .shallow)])) he (Za [(10000000,4),(10000001,6),(10000002,10901)]) ?_
  exact ZI6
def Zg4:Con:=fun
  |[.agg [.imm (.pair (.int .i64) (.int .i64)) c__0,.int .i64 c__1],.c (.int .i64 k_)],[]=>.opt _ (Zft (c__0,c__1) k_) (fun r=>.ret (.tup [.agg [.imm y6_ r.2.1,.int .i64 r.2.2],.c (.bool r.1)]) [(900,.rc [.imm y6_ r.2.1,.int .i64 r.2.2])])
  |_,_=>.fail
def Zsy:Cfg:={ y:=tys,n:=20,h:=0,tab:=[(127,ZbY),(223,Zbb),(291,Zcb)] }
theorem ZzE {P:Prop} (h:P:=by
  exact Zt [(4,[900]),(5,[])] (Zj he :) (Zc9 [(900,4)] rfl rfl ⟨⟨.inr (.inl Y2),rfl,Y1⟩,Y1⟩ ⟨⟨Y2,rfl⟩,.inr rfl,Y1⟩)):P:=h
theorem ZzF {P:Prop} (h:P:=by
  exact Zt [(4,[900]),(5,[])] (Zj he :) (Za [(900,4)])):P:=h
theorem ZsJ:Zn Tryz.prog 262 Zg4:=by
 refine Zq (C:=Zsy) Tryz.f262 (Zk Zcz (Zk ZbH (Zk ZgF Zr))) fun _ a b k he=>?_
 unfold Zg4 at he;split at he;rotate_left;exact he.elim
 rename_i c__0 c__1 k_
 refine Zs he fun he=>?_
 refine Zi he fun r1_ he=>?_
 refine ZD he (fun he=>?_) fun he=>?_
 ·refine Zi he fun r2_ he=>?_
  refine Zh he (fun he=>?_) fun he=>?_
  ·exact ZzE
  ·refine Zi he fun r3_ he=>?_
   exact ZzF
 ·exact ZzE
def Zg3:Con:=fun
  |[.c (.int .i64 n),.c (.ptr 0 0)],[(0,.rc [.int .i64 o0])]=>.opt _ (Zeu n o0) (fun r=>.ret (.c (.int .i64 r)) [(0,.rc [.int .i64 o0])])
  |_,_=>.fail
def Zsx:Cfg:={ y:=tys,n:=10,h:=1,tab:=[] }
theorem ZsI:Zn Tryz.prog 293 Zg3:=by
 refine Zq (C:=Zsx) Tryz.f293 Zr fun _ a b k he=>?_
 unfold Zg3 at he;split at he;rotate_left;exact he.elim
 rename_i n o0
 refine Zs he fun he=>?_
 refine Zg he fun he=>?_
 refine Zg he fun he=>?_
 refine Zg he fun he=>?_
 exact ZtQ
def Zcl:Con:=fun
  |[.agg [.imm (.pair (.int .i64) (.int .i64)) c__0,.int .i64 c__1],.c (.fn 293 [0])],[(0,.rc [.int .i64 o0])]=>.opt _ (ZbJ (c__0,c__1) o0) (fun r=>.ret (.tup [.agg [.imm y6_ r.2.1,.int .i64 r.2.2],.c (.bool r.1)]) [(0,.rc [.int .i64 o0]),(900,.rc [.imm y6_ r.2.1,.int .i64 r.2.2])])
  |_,_=>.fail
def ZdI:Sched:=ZB [11,12] (.alt 13 .done .stop)
def ZdJ:Sched:=.alt 10 ZdI .stop
def ZdK:Sched:=.alt 9 ZdJ .stop
def ZgZ:Cfg:={ y:=tys,n:=39,h:=1,tab:=[(160,ZeT),(187,Zfs),(293,Zg3)],cut:=[8],good:=[187],sched:=[(6,(ZB [0,2,3,4,6] (.alt 1 (.alt 5 (ZB [7,8] ZdK) .stop) (.alt 5 (ZB [7,8] (.alt 1 ZdK (.alt 9 (.alt 1 ZdJ (.alt 10 (.alt 1 ZdI .stop) .stop)) .stop))) .stop))))] }
theorem Zhd:Zn Tryz.prog 291 Zcl:=by
 refine Zq (C:=ZgZ) Tryz.f291 (Zk Zka (Zk ZnL (Zk ZsI Zr))) fun _ a b k he=>?_
 unfold Zcl at he;split at he;rotate_left;exact he.elim
 rename_i c__0 c__1 o0
 refine Zs he fun he=>?_
 refine Zi he fun r1_ he=>?_
 refine Zi he fun r2_ he=>?_
 refine ZN (Zcj r2_) (fun out_01=>(Zm [(4,.c (.ptr 10001000 0)),(6,.c (.ptr 10001001 0))],[(0,.rc [.int .i64 o0]),(10001000,.rc [.nil,.int .i64 (0:Int)]),(10001001,.rc [.own 10001002 false,.int .i64 r2_]),(10001002,.sl 155 y6_ out_01 .shallow)])) he ?_ ?_
 ·exact ZI5
 ·skip
  refine Zp (Zbw o0 r1_ r2_) (fun (i,out_0)=>(Zm [(1,.c (.fn 293 [0])),(4,.c (.ptr 10000000 0)),(6,.c (.ptr 10000001 0)),(17,.c (.int .i64 (r1_.2.length:Int))),(18,.c (.int .i64 i))],[(0,.rc [.int .i64 o0]),(10000000,.rc [.nil,.int .i64 (0:Int)]),(10000001,.rc [.own 10000002 false,.int .i64 r2_]),(10000002,.sl 155 y6_ out_0 .shallow)])) he (Za [(10000000,4),(10000001,6),(10000002,10901)]) ?_
  exact ZI6
def ZiD:Con:=fun
  |[.agg [.imm (.pair (.int .i64) (.int .i64)) c__0,.int .i64 c__1],.c (.int .i64 k_)],[]=>.opt _ (Zgo (c__0,c__1) k_) (fun r=>.ret (.tup [.agg [.imm y6_ r.2.1,.int .i64 r.2.2],.c (.bool r.1)]) [(900,.rc [.imm y6_ r.2.1,.int .i64 r.2.2])])
  |_,_=>.fail
def ZtW:Cfg:={ y:=tys,n:=20,h:=0,tab:=[(127,ZbY),(223,Zbb),(291,Zcl)] }
theorem Zt4:Zn Tryz.prog 263 ZiD:=by
 refine Zq (C:=ZtW) Tryz.f263 (Zk Zcz (Zk ZbH (Zk Zhd Zr))) fun _ a b k he=>?_
 unfold ZiD at he;split at he;rotate_left;exact he.elim
 rename_i c__0 c__1 k_
 refine Zs he fun he=>?_
 refine Zi he fun r1_ he=>?_
 refine ZD he (fun he=>?_) fun he=>?_
 ·refine Zi he fun r2_ he=>?_
  refine Zh he (fun he=>?_) fun he=>?_
  ·exact ZzE
  ·refine Zi he fun r3_ he=>?_
   exact ZzF
 ·exact ZzE
def Zg5:Con:=fun
  |[.agg [.imm (.pair (.int .i64) (.int .i64)) c__0,.int .i64 c__1]],[]=>.opt _ (Zfu (c__0,c__1)) (fun r=>.ret (.tup [.agg [.own 901 false,.int .i64 r.2.1],.c (.bool r.1)]) [(900,.rc [.own 901 false,.int .i64 r.2.1]),(901,.sl 155 y6_ r.2.2 .shallow)])
  |_,_=>.fail
def Zsz:Cfg:={ y:=tys,n:=39,h:=0,tab:=[(223,Zbb)] }
theorem ZsK:Zn Tryz.prog 264 Zg5:=by
 refine Zq (C:=Zsz) Tryz.f264 (Zk ZbH Zr) fun _ a b k he=>?_
 unfold Zg5 at he;split at he;rotate_left;exact he.elim
 rename_i c__0 c__1
 refine Zs he fun he=>?_
 refine Zi he fun r1_ he=>?_
 refine Zh he (fun he=>?_) fun he=>?_
 ·exact ZtR
 ·refine Zh he (fun he=>?_) fun he=>?_
  ·refine Zp (ZdN (c__0,c__1)) (fun (i,out_0)=>(Zm [(1,.c (.ptr 10000000 0)),(2,.c (.ptr 10000001 0)),(4,.c (.ptr 10000002 0)),(18,.c (.imm y6_ (c__0,c__1).1)),(19,.c (.int .i64 ((c__0,c__1).1.length:Int))),(20,.c (.int .i64 i))],[(10000000,.rc [.imm y6_ (c__0,c__1).1,.int .i64 (c__0,c__1).2]),(10000001,.rc [.nil,.int .i64 (0:Int)]),(10000002,.rc [.own 10000003 false,.int .i64 (c__0,c__1).2]),(10000003,.sl 155 y6_ out_0 .shallow)])) he (Za [(10000000,1),(10000001,2),(10000002,4)]) ?_
   rintro⟨i,out_0⟩ _ he
   refine Zh he (fun he=>?_) fun he=>?_
   ·refine Zg he fun he=>?_
    refine Zg he fun he=>?_
    exact ZJ5
   ·exact Zt [(2,[900]),(3,[])] (Zj he :) (Za [(900,10000001),(901,10000003)])
  ·exact ZtR
def ZiF:Con:=fun
  |[.agg [.imm (.pair (.int .i64) (.int .i64)) c__0,.int .i64 c__1],.c (.int .i64 variable_)],[]=>.opt _ (Zgp (c__0,c__1) variable_) (fun r=>.ret (.tup [.agg [.own 901 false,.int .i64 r.2.1],.c (.bool r.1)]) [(900,.rc [.own 901 false,.int .i64 r.2.1]),(901,.sl 155 y6_ r.2.2 .shallow)])
  |_,_=>.fail
def ZtY:Cfg:={ y:=tys,n:=48,h:=0,tab:=[(127,ZbY),(170,Zew),(223,Zbb)] }
theorem Zt6:Zn Tryz.prog 265 ZiF:=by
 refine Zq (C:=ZtY) Tryz.f265 (Zk Zcz (Zk ZgS (Zk ZbH Zr))) fun _ a b k he=>?_
 unfold ZiF at he;split at he;rotate_left;exact he.elim
 rename_i c__0 c__1 variable_
 refine Zs he fun he=>?_
 refine Zi he fun r1_ he=>?_
 refine ZD he (fun he=>?_) fun he=>?_
 ·refine Zi he fun r2_ he=>?_
  refine Zh he (fun he=>?_) fun he=>?_
  ·exact ZzF
  ·refine Zp (Zff (c__0,c__1) variable_) (fun (i,out_1,out_0)=>(Zm [(1,.c (.int .i64 variable_)),(2,.c (.ptr 10000000 0)),(4,.c (.ptr 10000001 0)),(6,.c (.ptr 10000002 0)),(22,.c (.imm y6_ (c__0,c__1).1)),(23,.c (.int .i64 ((c__0,c__1).1.length:Int))),(24,.c (.int .i64 i))],[(10000000,.rc [.imm y6_ (c__0,c__1).1,.int .i64 (c__0,c__1).2]),(10000001,.rc [.nil,.int .i64 (0:Int)]),(10000002,.rc [.own 10000003 false,.int .i64 out_1]),(10000003,.sl 155 y6_ out_0 .shallow)])) he (Za [(10000000,2),(10000001,4),(10000002,6)]) ?_
   rintro⟨i,out_1,out_0⟩ _ he
   refine Zh he (fun he=>?_) fun he=>?_
   ·refine Zg he fun he=>?_
    refine Zi he fun r4_ he=>?_
    refine Zh he (fun he=>?_) fun he=>?_
    ·exact ZCy
    ·refine Zg he fun he=>?_
     refine Zg he fun he=>?_
     exact⟨_,(Zj he :),(Za [(10000003,44)])⟩
   ·exact Zt [(4,[900]),(5,[])] (Zj he :) (Za [(900,10000001),(901,10000003)])
 ·exact ZzF
def ZlM:Con:=fun
  |[.c (.int .i64 lit)],[]=>.opt _ (ZjI lit) (fun r=>.ret (.tup [.agg [.own 901 false,.int .i64 r.2.1],.c (.bool r.1)]) [(900,.rc [.own 901 false,.int .i64 r.2.1]),(901,.sl 155 y6_ r.2.2 .shallow)])
  |_,_=>.fail
def Zxg:Cfg:={ y:=tys,n:=12,h:=0,tab:=[(177,ZhI)] }
theorem Zxy:Zn Tryz.prog 266 ZlM:=by
 refine Zq (C:=Zxg) Tryz.f266 (Zk ZoX Zr) fun _ a b k he=>?_
 unfold ZlM at he;split at he;rotate_left;exact he.elim
 rename_i lit
 refine Zs he fun he=>?_
 refine Zi he fun r1_ he=>?_
 refine Zh he (fun he=>?_) fun he=>?_
 ·exact ZtR
 ·exact Zt [(2,[900]),(3,[])] (Zj he :) (Za [(900,2),(901,10)])
def ZhK:Con:=fun
  |[.c (.ptr 0 0)],[(0,.rc [.own 1 false,.own 2 false]),(1,.sl 89 (.pair (.sl (.pair (.int .i64) (.int .i64))) (.int .i64)) o1 .shallow),(2,.sl 4 .bool o2 .shallow)]=>.opt _ (ZfU o1 o2) (fun r=>.ret (.c (.own 900 false)) [(0,.rc [.own 1 false,.own 2 false]),(1,.sl 89 y7_ o1 .shallow),(2,.sl 4 .bool o2 .shallow),(900,.sl 89 y7_ r .shallow)])
  |_,_=>.fail
def Zs5:Cfg:={ y:=tys,n:=30,h:=3,tab:=[] }
theorem Ztu:Zn Tryz.prog 268 ZhK:=by
 refine Zq (C:=Zs5) Tryz.f268 Zr fun _ a b k he=>?_
 unfold ZhK at he;split at he;rotate_left;exact he.elim
 rename_i o1 o2
 refine Zs he fun he=>?_
 refine Zp (Ze0 o1 o2) (fun (i,out)=>(Zm [(0,.c (.ptr 0 0)),(3,.c (.own 10000000 false)),(9,.c (.own 1 false)),(10,.c (.int .i64 (o1.length:Int))),(11,.c (.int .i64 i))],[(0,.rc [.own 1 false,.own 2 false]),(1,.sl 89 y7_ o1 .shallow),(2,.sl 4 .bool o2 .shallow),(10000000,.sl 89 y7_ out .shallow)])) he (Za []) ?_
 rintro⟨i,out⟩ _ he
 refine Zh he (fun he=>?_) fun he=>?_
 ·refine Zg he fun he=>?_
  refine Zg he fun he=>?_
  refine Zh he (fun he=>?_) fun he=>?_
  ·refine Zg he fun he=>?_
   refine Zg he fun he=>?_
   exact⟨_,(Zj he :),(Za [(10000000,27)])⟩
  ·exact ZdH
 ·exact Zt [(2,[])] (Zj he :) (Za [(900,10000000)])
def Zfr:Con:=fun
  |[.agg [.imm (.pair (.int .i64) (.int .i64)) c__0,.int .i64 c__1]],[]=>.opt _ (ZeW (c__0,c__1)) (fun r=>.ret (.c (.int .i64 r)) [])
  |_,_=>.fail
def ZtU:Cfg:={ y:=tys,n:=19,h:=0,tab:=[] }
theorem ZnK:Zn Tryz.prog 236 Zfr:=by
 refine Zq (C:=ZtU) Tryz.f236 Zr fun _ a b k he=>?_
 unfold Zfr at he;split at he;rotate_left;exact he.elim
 rename_i c__0 c__1
 refine Zs he fun he=>?_
 refine Zp (Zfc (c__0,c__1)) (fun (sum,i)=>(Zm [(3,.c (.int .i64 sum)),(7,.c (.imm y6_ (c__0,c__1).1)),(8,.c (.int .i64 ((c__0,c__1).1.length:Int))),(9,.c (.int .i64 i))],[])) he (Za []) ?_
 rintro⟨sum,i⟩ _ he
 refine Zh he (fun he=>?_) fun he=>?_
 ·exact ZvF
 ·exact Z5
def ZgB:Con:=fun
  |[.agg [.imm (.pair (.int .i64) (.int .i64)) c__0,.int .i64 c__1]],[]=>.opt _ (Zfa (c__0,c__1)) (fun r=>.ret (.agg [.own 901 false,.int .i64 r.1]) [(900,.rc [.own 901 false,.int .i64 r.1]),(901,.sl 155 y6_ r.2 .shallow)])
  |_,_=>.fail
def Zjs:Sched:=.alt 9 .done .stop
def Zjt:Sched:=.alt 7 Zjs .stop
def Zju:Sched:=.alt 6 Zjt .stop
def ZrU:Cfg:={ y:=tys,n:=34,h:=0,tab:=[(236,Zfr)],cut:=[1,2,5],sched:=[(1,(ZB [0,2,3] (.alt 1 (ZB [4,5] (.alt 6 (.alt 7 (.alt 8 Zjs .stop) (.alt 8 Zjt .stop)) (.alt 8 Zju .stop))) (.alt 8 (.alt 1 (ZB [4,5] Zju) .stop) .stop))))] }
theorem ZzG {P:Prop} (h:P:=by
  refine Y4 ?_
  refine Y4 ?_
  exact⟨_,he,(Za [(10001000,10000000),(10001001,3)])⟩):P:=h
theorem Zsc:Zn Tryz.prog 294 ZgB:=by
 refine Zq (C:=ZrU) Tryz.f294 (Zk ZnK Zr) fun _ a b k he=>?_
 unfold ZgB at he;split at he;rotate_left;exact he.elim
 rename_i c__0 c__1
 refine Zs he fun he=>?_
 refine ZN (Zf7 (c__0,c__1)) (fun _=>(Zm [(1,.c (.iptr y7_ (c__0,c__1) 0)),(2,.c (.ptr 10000000 0))],[(10000000,.rc [.nil,.int .i64 (0:Int)])])) he ?_ ?_
 ·rintro⟨⟩ he
  refine ZN (Zf8 (c__0,c__1)) (fun out_1=>(Zm [(1,.c (.iptr y7_ (c__0,c__1) 0)),(2,.c (.ptr 10001000 0)),(3,.c (.ptr 10001001 0))],[(10001000,.rc [.nil,.int .i64 (0:Int)]),(10001001,.rc [.nil,.int .i64 out_1])])) he ?_ ?_
  ·rintro out_1 he
   refine Zp (Zdx (c__0,c__1) out_1) (fun (i,out_0)=>(Zm [(2,.c (.ptr 10002000 0)),(3,.c (.ptr 10002001 0)),(15,.c (.imm y6_ (c__0,c__1).1)),(16,.c (.int .i64 ((c__0,c__1).1.length:Int))),(17,.c (.int .i64 i))],[(10002000,.rc [.nil,.int .i64 (0:Int)]),(10002001,.rc [.own 10002002 false,.int .i64 out_1]),(10002002,.sl 155 y6_ out_0 .shallow)])) he (Za [(10002000,10001000),(10002001,10001001)]) ?_
   rintro⟨i,out_0⟩ _ he
   refine Zh he (fun he=>?_) fun he=>?_
   ·refine ZN (Zf9 (c__0,c__1) i out_0) (fun _=>(Zm [(2,.c (.ptr 10004000 0)),(3,.c (.ptr 10004001 0)),(5,.c (.iptr y6_ ((c__0,c__1).1.getD i.toNat (0,0)) 0)),(15,.c (.imm y6_ (c__0,c__1).1)),(16,.c (.int .i64 ((c__0,c__1).1.length:Int))),(17,.c (.int .i64 i))],[(10004000,.rc [.nil,.int .i64 (0:Int)]),(10004001,.rc [.own 10004002 false,.int .i64 out_1]),(10004002,.sl 155 y6_ out_0 .shallow)])) he ?_ ?_
    ·rintro⟨⟩ he
     refine Zg he fun he=>?_
     refine Zg he fun he=>?_
     refine Zg he fun he=>?_
     exact⟨_,(Zj he :),(Za [(10002000,10004000),(10002001,10004001),(10002002,30)])⟩
    ·skip
     refine Zg he fun he=>?_
     exact⟨_,he,(Zc9 [(10004000,10002000),(10004001,10002001),(10004002,10002002)] rfl rfl ⟨⟨rfl,rfl,Y1⟩,⟨Y3,rfl,Y1⟩,Y2,Y1⟩ ⟨⟨Y2,rfl⟩,⟨Y2,rfl⟩,.inr ⟨5,rfl,⟨rfl,by repeat (first|exact trivial|refine And.intro trivial ?_)⟩,rfl⟩,.inl rfl,rfl,rfl,Y1⟩)⟩
   ·exact Zt [(2,[900])] (Zj he :) (Za [(900,10002000),(901,10002002)])
  ·skip
   refine And.intro (by kernel_rfl) ?_
   obtain⟨r2_,hq1,he⟩:=ZX he
   obtain⟨hq2,he⟩:=ZP he
   obtain⟨hq3,he⟩:=ZP he
   refine Y5 ?_ ?_
   ·skip
    refine⟨r2_,hq1,?_⟩
    refine And.intro hq2 ?_
    refine And.intro hq3 ?_
    refine Y5 ?_ ?_
    ·skip
     refine Y5 ?_ ?_
     ·skip
      exact ZzG
     ·skip
      exact ZzG
    ·skip
     refine Y4 ?_
     exact ZzG
   ·skip
    refine Y4 ?_
    refine⟨r2_,hq1,?_⟩
    refine And.intro hq2 ?_
    refine And.intro hq3 ?_
    refine Y4 ?_
    exact ZzG
 ·skip
  exact⟨_,he,(Zc9 [(10000000,2)] rfl rfl ⟨⟨rfl,rfl,Y1⟩,Y1⟩ ⟨.inr ⟨1,rfl,⟨rfl,by repeat (first|exact trivial|refine And.intro trivial ?_)⟩,rfl⟩,⟨Y2,rfl⟩,Y1⟩)⟩
def Zv4:Con:=fun
  |[.c (.imm (.pair (.sl (.pair (.int .i64) (.int .i64))) (.int .i64)) list_),.agg [.imm (.pair (.int .i64) (.int .i64)) c__0,.int .i64 c__1]],[]=>.opt _ (Zwm list_ (c__0,c__1)) (fun r=>.ret (.c (.bool r)) [])
  |_,_=>.fail
def ZwY:Sched:=.alt 7 (ZB [8,9,10,11,12] .done) .stop
def ZwZ:Sched:=.alt 5 ZwY .stop
def Zw0:Sched:=.alt 4 ZwZ .stop
def ZrW:Sched:=.alt 3 Zw0 .stop
def Zw1:Sched:=.alt 3 (.alt 4 (.alt 5 (.alt 6 ZwY .stop) (.alt 6 ZwZ .stop)) (.alt 6 Zw0 .stop)) (.alt 6 ZrW .stop)
def Zw2:Sched:=.alt 2 ZrW .stop
def Zw3:Sched:=.alt 1 ZrW .stop
def ZJk:Cfg:={ y:=tys,n:=20,h:=0,tab:=[(61,ZbI),(171,ZhJ),(294,ZgB)],cut:=[2],sched:=[(1,(.first 0 (.alt 1 (.alt 2 Zw1 (.alt 6 Zw2 .stop)) (.alt 2 (.alt 1 Zw1 (.alt 6 Zw3 .stop)) (.alt 6 (.alt 1 Zw2 (.alt 2 Zw3 .stop)) .stop)))))] }
theorem ZDF {P:Prop} (h:P:=by
  refine Y4 ?_
  refine⟨r6_,hq5,?_⟩
  exact⟨_,he,(Za [])⟩):P:=h
theorem ZI7 {P:Prop} (h:P:=by
  refine Y4 ?_
  refine Y4 ?_
  refine And.intro hq3 ?_
  exact ZDF):P:=h
theorem ZvL {P:Prop} (h:P:=by
  refine Y4 ?_
  refine⟨r5_,hq2,?_⟩
  exact ZI7):P:=h
theorem ZI8 {P:Prop} (h:P:=by
  refine Y5 ?_ ?_
  ·skip
   refine⟨r5_,hq2,?_⟩
   refine Y5 ?_ ?_
   ·skip
    refine Y5 ?_ ?_
    ·skip
     refine And.intro hq3 ?_
     refine Y4 ?_
     refine And.intro hq4 ?_
     exact ZDF
    ·skip
     refine And.intro hq4 ?_
     refine Y4 ?_
     refine And.intro hq3 ?_
     exact ZDF
   ·skip
    refine And.intro hq4 ?_
    exact ZI7
  ·skip
   refine And.intro hq4 ?_
   exact ZvL):P:=h
theorem ZJB:Zn Tryz.prog 267 Zv4:=by
 refine Zq (C:=ZJk) Tryz.f267 (Zk ZcU (Zk ZoY (Zk Zsc Zr))) fun _ a b k he=>?_
 unfold Zv4 at he;split at he;rotate_left;exact he.elim
 rename_i list_ c__0 c__1
 refine Zs he fun he=>?_
 refine ZN (ZuO) (fun i=>(Zm [(6,.c (.int .i64 i))],[])) he ?_ ?_
 ·rintro i he
  exact Z5
 ·skip
  refine And.intro (by kernel_rfl) ?_
  obtain⟨r4_,hq1,he⟩:=ZX he
  obtain⟨r5_,hq2,he⟩:=ZX he
  obtain⟨hq3,he⟩:=ZP he
  obtain⟨hq4,he⟩:=ZP he
  obtain⟨r6_,hq5,he⟩:=ZX he
  refine And.intro ?_ (And.intro ?_ (And.intro ?_ (Y1)))
  ·skip
   refine⟨r4_,hq1,?_⟩
   refine Y5 ?_ ?_
   ·skip
    exact ZI8
   ·skip
    refine And.intro hq4 ?_
    refine Y4 ?_
    exact ZvL
  ·skip
   refine Y5 ?_ ?_
   ·skip
    refine⟨r4_,hq1,?_⟩
    exact ZI8
   ·skip
    refine And.intro hq4 ?_
    refine Y4 ?_
    refine⟨r4_,hq1,?_⟩
    exact ZvL
  ·skip
   refine And.intro hq4 ?_
   refine Y5 ?_ ?_
   ·skip
    refine⟨r4_,hq1,?_⟩
    refine Y4 ?_
    exact ZvL
   ·skip
    refine Y4 ?_
    refine⟨r4_,hq1,?_⟩
    exact ZvL
def ZlR:Con:=fun
  |[.c (.ptr 0 0),.agg [.int .i64 a1_0,.int .i64 a1_1,.int .i64 a1_2,.imm (.pair (.int .i64) (.int .i64)) a1_3,.int .i64 a1_4]],[(0,.rc [.own 1 false,.own 2 false]),(1,.sl 89 (.pair (.sl (.pair (.int .i64) (.int .i64))) (.int .i64)) o1 .shallow),(2,.sl 4 .bool o2 .shallow)]=>.opt _ (ZeK (a1_0,(a1_1,(a1_2,(a1_3,a1_4)))) o1 o2) (fun r=>.ret (.c (.bool r.1)) [(0,.rc [.own 900 false,.own 901 false]),(1,.dead),(2,.dead),(900,.sl 89 y7_ r.2.1 .shallow),(901,.sl 4 .bool r.2.2 .shallow)])
  |_,_=>.fail
def Zkr:Sched:=.alt 16 (ZB [17,18,19] (.alt 20 (.first 21 .done) .stop)) .stop
def Zks:Sched:=.alt 15 Zkr .stop
def Zkt:Sched:=.alt 7 Zkr .stop
def Zku:Sched:=.alt 7 Zks (.alt 15 Zkt .stop)
def Zf0:Sched:=ZB [0,1,2,4,5,8,9] (.alt 3 (.first 6 (.alt 7 (.alt 10 (ZB [11,12,13] (.alt 14 (.first 15 .done) .stop)) .stop) .stop)) .stop)
def Zkv:Sched:=.first 11 (.alt 12 (.first 13 .done) .stop)
def Zf1:Sched:=.alt 14 (ZB [15,16] (.alt 17 (ZB [18,19] (.alt 20 .done .stop)) .stop)) .stop
def Zkw:Sched:=.alt 13 Zf1 .stop
def Zkx:Sched:=.alt 12 Zf1 .stop
def Zel:Sched:=.alt 8 Zf1 .stop
def ZfI:Sched:=.alt 8 Zkw (.alt 13 Zel .stop)
def ZfJ:Sched:=.alt 8 Zkx (.alt 12 Zel .stop)
def ZjP:Sched:=.alt 8 (.alt 12 Zkw (.alt 13 Zkx .stop)) (.alt 12 ZfI (.alt 13 ZfJ .stop))
def ZfK:Sched:=.alt 7 Zel .stop
def ZjQ:Sched:=.alt 7 ZfI (.alt 13 ZfK .stop)
def ZjR:Sched:=.alt 7 ZfJ (.alt 12 ZfK .stop)
def ZfL:Sched:=.alt 5 Zel .stop
def ZjS:Sched:=.alt 5 ZfI (.alt 13 ZfL .stop)
def ZjT:Sched:=.alt 5 ZfJ (.alt 12 ZfL .stop)
def ZjU:Sched:=.alt 5 ZfK (.alt 7 ZfL .stop)
def Zxo:Cfg:={ y:=tys,n:=177,h:=3,tab:=[(155,Zov),(223,Zbb),(259,ZmD),(260,ZiG),(261,Zj1),(262,Zg4),(263,ZiD),(264,Zg5),(265,ZiF),(266,ZlM),(267,Zv4),(268,ZhK)],cut:=[1,4,24,25],sched:=[(8,(ZB [0,1,2,4,5] (.alt 3 (.first 6 (.alt 7 .done .stop)) .stop))),(11,(ZB [0,1,2,4,5,8,9,10,12,13] (.alt 3 (.first 6 (.alt 7 (.alt 11 (.first 14 Zks) .stop) (.alt 11 (.first 14 Zku) .stop))) (.alt 11 (.first 14 (.alt 3 (.first 6 Zku) (.alt 15 (.alt 3 (.first 6 Zkt) .stop) .stop))) .stop)))),(13,Zf0),(15,Zf0),(17,(ZB [0,1,2,4,5] (.alt 3 (.first 6 (.alt 7 (.alt 8 (ZB [9,10] Zkv) .stop) .stop)) .stop))),(19,Zf0),(23,(ZB [0,1,2,3] (.alt 4 (ZB [5,6,8,9] (.alt 7 (.alt 10 Zkv .stop) .stop)) .stop))),(24,(ZB [0,1,2,3,4,6,9,10,11] (.alt 5 (.alt 7 ZjP (.alt 12 ZjQ (.alt 13 ZjR .stop))) (.alt 7 (.alt 5 ZjP (.alt 12 ZjS (.alt 13 ZjT .stop))) (.alt 12 (.alt 5 ZjQ (.alt 7 ZjS (.alt 13 ZjU .stop))) (.alt 13 (.alt 5 ZjR (.alt 7 ZjT (.alt 12 ZjU .stop))) .stop))))))] }
theorem ZvM {P:Prop} (h:P:=by
  refine Y4 ?_
  refine And.intro hq2 ?_
  refine Y4 ?_
  refine Y4 ?_
  exact⟨_,he,(Za [(10003000,165),(10003001,171)])⟩):P:=h
theorem ZDG {P:Prop} (h:P:=by
  skip
  refine Y5 ?_ ?_
  ·skip
   refine And.intro hq1 ?_
   refine Y4 ?_
   exact ZvM
  ·skip
   refine Y4 ?_
   refine And.intro hq1 ?_
   exact ZvM):P:=h
theorem ZDH {P:Prop} (h:P:=by
  skip
  refine Y4 ?_
  refine Y4 ?_
  refine And.intro hq1 ?_
  exact ZvM):P:=h
theorem ZzH {P:Prop} (h:P:=by
  skip
  refine Y5 ?_ ?_
  ·exact ZDG
  ·exact ZDH):P:=h
theorem ZI9 {P:Prop} (h:P:=by
  skip
  refine And.intro ?_ (And.intro ?_ (And.intro ?_ (Y1)))
  ·skip
   refine And.intro ?_ (And.intro ?_ (And.intro ?_ (Y1)))
   ·skip
    refine And.intro hq1 ?_
    refine Y5 ?_ ?_
    ·skip
     refine Y4 ?_
     exact ZvM
    ·skip
     refine Y4 ?_
     exact ZvM
   ·exact ZDG
   ·exact ZDG
  ·exact ZzH
  ·exact ZzH):P:=h
theorem ZJa {P:Prop} (h:P:=by
  skip
  refine And.intro ?_ (And.intro ?_ (And.intro ?_ (Y1)))
  ·exact ZzH
  ·exact ZzH
  ·skip
   refine Y5 ?_ ?_
   ·exact ZDH
   ·exact ZDH):P:=h
theorem ZzI {P:Prop} (h:P:=by
  exact Zt [(4,[])] (Zj he :) (Za [(900,1),(901,2)])):P:=h
theorem ZzJ {P:Prop} (h:P:=by
  refine Y4 ?_
  refine Y4 ?_
  refine⟨r7_,hq3,?_⟩
  refine Y4 ?_
  exact⟨_,he,((Zgf [71901]).trans (Zc9 [] (l:=[(0,.c (.ptr 0 0)),(7,.c (.iptr y7_ (r7_.2.2,r7_.2.1) 0)),(8,.c (.bool r7_.1))]) (st':=[(0,.rc [.own 1 false,.own 2 false]),(1,.sl 89 y7_ o1 .shallow),(2,.sl 4 .bool o2 .shallow)]) rfl rfl ⟨⟨Y3,Y3,Y1⟩,Y2,Y2,Y1⟩ ⟨⟨Y2,rfl⟩,.inr ⟨7,rfl,⟨rfl,by repeat (first|exact trivial|refine And.intro trivial ?_)⟩,rfl⟩,.inl rfl,Y1⟩))⟩):P:=h
theorem ZJb {P:Prop} (h:P:=by
  refine Y5 ?_ ?_
  ·skip
   exact ZzJ
  ·skip
   exact ZzJ):P:=h
theorem ZDI {P:Prop} (h:P:=by
  refine Y4 ?_
  exact⟨_,he,(Zc9 [] rfl rfl ⟨⟨Y3,Y3,Y1⟩,Y2,Y2,Y1⟩ ⟨⟨Y2,rfl⟩,.inr ⟨7,rfl,⟨rfl,by repeat (first|exact trivial|refine And.intro trivial ?_)⟩,rfl⟩,.inl rfl,Y1⟩)⟩):P:=h
theorem ZJc {P:Prop} (h:P:=by
  exact⟨_,he,(Zc9 [] rfl rfl ⟨⟨Y3,Y3,Y1⟩,Y2,Y2,Y1⟩ ⟨⟨Y2,rfl⟩,.inr ⟨7,rfl,⟨rfl,by repeat (first|exact trivial|refine And.intro trivial ?_)⟩,rfl⟩,.inr rfl,Y1⟩)⟩):P:=h
theorem ZJd {P:Prop} (h:P:=by
  refine Zh he (fun he=>?_) fun he=>?_
  ·exact ZzI
  ·exact⟨_,he,(Za [])⟩):P:=h
theorem ZxD:Zn Tryz.prog 235 ZlR:=by
 refine Zq (C:=Zxo) Tryz.f235 (Zk Zw7 (Zk ZbH (Zk Zym (Zk Zt7 (Zk Zvf (Zk ZsJ (Zk Zt4 (Zk ZsK (Zk Zt6 (Zk Zxy (Zk ZJB (Zk Ztu Zr)))))))))))) fun _ a b k he=>?_
 unfold ZlR at he;split at he;rotate_left;exact he.elim
 rename_i a1_0 a1_1 a1_2 a1_3 a1_4 o1 o2
 refine Zs he fun he=>?_
 refine ZN (Zhb (a1_0,(a1_1,(a1_2,(a1_3,a1_4)))) o1 o2) (fun _=>(Zm [(0,.c (.ptr 0 0)),(3,.c (.iptr Zb7 (a1_0,(a1_1,(a1_2,(a1_3,a1_4)))) 0))],[(0,.rc [.own 1 false,.own 2 false]),(1,.sl 89 y7_ o1 .shallow),(2,.sl 4 .bool o2 .shallow)])) he ?_ ?_
 ·rintro⟨⟩ he
  refine Zi he fun r1_ he=>?_
  refine ZN (ZbV (a1_0,(a1_1,(a1_2,(a1_3,a1_4)))) o1 o2) (fun _=>(Zm [(0,.c (.ptr 0 0)),(3,.c (.iptr Zb7 (a1_0,(a1_1,(a1_2,(a1_3,a1_4)))) 0))],[(0,.rc [.own 1 false,.own 2 false]),(1,.sl 89 y7_ o1 .shallow),(2,.sl 4 .bool o2 .shallow)])) he ?_ ?_
  ·rintro⟨⟩ he
   refine ZN (ZT o1 o2) (fun (i,i1)=>(Zm [(0,.c (.ptr 0 0)),(7,.c (.iptr y7_ i 0)),(8,.c (.bool i1))],[(0,.rc [.own 1 false,.own 2 false]),(1,.sl 89 y7_ o1 .shallow),(2,.sl 4 .bool o2 .shallow)])) he ?_ ?_
   ·rintro⟨i,i1⟩ he
    refine ZN (Zhc o1 o2 i i1) (fun _=>(Zm [(8,.c (.bool i1))],[(0,.rc [.own 10003000 false,.own 10003001 false]),(1,.dead),(2,.dead),(10003000,.sl 89 y7_ (o1++[i]) .shallow),(10003001,.sl 4 .bool (o2++[false]) .shallow)])) he ?_ ?_
    ·rintro⟨⟩ he
     exact Zt [(4,[])] (Zj he :) (Za [(900,10003000),(901,10003001)])
    ·skip
     refine And.intro (by kernel_rfl) ?_
     obtain⟨hq1,he⟩:=ZP he
     obtain⟨hq2,he⟩:=ZP he
     refine And.intro ?_ (And.intro ?_ (And.intro ?_ (And.intro ?_ (Y1))))
     ·exact ZI9
     ·exact ZI9
     ·exact ZJa
     ·exact ZJa
   ·skip
    refine Zh he (fun he=>?_) fun he=>?_
    ·refine And.intro (by kernel_rfl) ?_
     refine Y4 ?_
     refine Zg he fun he=>?_
     refine Y4 ?_
     exact ZzI
    ·refine Zh he (fun he=>?_) fun he=>?_
     ·refine And.intro (by kernel_rfl) ?_
      obtain⟨hq1,he⟩:=ZP he
      obtain⟨hq2,he⟩:=ZP he
      obtain⟨r7_,hq3,he⟩:=ZX he
      refine Y5 ?_ ?_
      ·skip
       refine And.intro hq1 ?_
       refine Y5 ?_ ?_
       ·skip
        refine Y4 ?_
        refine And.intro hq2 ?_
        exact ZzJ
       ·skip
        refine And.intro hq2 ?_
        exact ZJb
      ·skip
       refine And.intro hq2 ?_
       refine Y5 ?_ ?_
       ·skip
        refine And.intro hq1 ?_
        exact ZJb
       ·skip
        refine Y4 ?_
        refine And.intro hq1 ?_
        exact ZzJ
     ·refine Zh he (fun he=>?_) fun he=>?_
      ·refine And.intro (by kernel_rfl) ?_
       refine Y4 ?_
       refine Zg he fun he=>?_
       refine Y4 ?_
       refine Y4 ?_
       refine Zi he fun r9_ he=>?_
       exact ZDI
      ·refine Zh he (fun he=>?_) fun he=>?_
       ·refine And.intro (by kernel_rfl) ?_
        refine Y4 ?_
        refine Zg he fun he=>?_
        refine Y4 ?_
        refine Y4 ?_
        refine Zi he fun r11_ he=>?_
        exact ZDI
       ·refine Zh he (fun he=>?_) fun he=>?_
        ·refine And.intro (by kernel_rfl) ?_
         refine Y4 ?_
         refine Zg he fun he=>?_
         refine Y4 ?_
         refine Y4 ?_
         refine Zi he fun r13_ he=>?_
         refine Y4 ?_
         exact⟨_,he,((Zgf [117901]).trans (Zc9 [] (l:=[(0,.c (.ptr 0 0)),(7,.c (.iptr y7_ (r13_.2.2,r13_.2.1) 0)),(8,.c (.bool r13_.1))]) (st':=[(0,.rc [.own 1 false,.own 2 false]),(1,.sl 89 y7_ o1 .shallow),(2,.sl 4 .bool o2 .shallow)]) rfl rfl ⟨⟨Y3,Y3,Y1⟩,Y2,Y2,Y1⟩ ⟨⟨Y2,rfl⟩,.inr ⟨7,rfl,⟨rfl,by repeat (first|exact trivial|refine And.intro trivial ?_)⟩,rfl⟩,.inl rfl,Y1⟩))⟩
        ·refine Zh he (fun he=>?_) fun he=>?_
         ·refine And.intro (by kernel_rfl) ?_
          refine Y4 ?_
          refine Zg he fun he=>?_
          refine Y4 ?_
          refine Y4 ?_
          refine Zi he fun r15_ he=>?_
          refine Y4 ?_
          exact⟨_,he,((Zgf [133901]).trans (Zc9 [] (l:=[(0,.c (.ptr 0 0)),(7,.c (.iptr y7_ (r15_.2.2,r15_.2.1) 0)),(8,.c (.bool r15_.1))]) (st':=[(0,.rc [.own 1 false,.own 2 false]),(1,.sl 89 y7_ o1 .shallow),(2,.sl 4 .bool o2 .shallow)]) rfl rfl ⟨⟨Y3,Y3,Y1⟩,Y2,Y2,Y1⟩ ⟨⟨Y2,rfl⟩,.inr ⟨7,rfl,⟨rfl,by repeat (first|exact trivial|refine And.intro trivial ?_)⟩,rfl⟩,.inl rfl,Y1⟩))⟩
         ·refine Zh he (fun he=>?_) fun he=>?_
          ·refine Zi he fun r16_ he=>?_
           exact⟨_,he,((Zgf [141901]).trans (Zc9 [] (l:=[(0,.c (.ptr 0 0)),(7,.c (.iptr y7_ (r16_.2.2,r16_.2.1) 0)),(8,.c (.bool r16_.1))]) (st':=[(0,.rc [.own 1 false,.own 2 false]),(1,.sl 89 y7_ o1 .shallow),(2,.sl 4 .bool o2 .shallow)]) rfl rfl ⟨⟨Y3,Y3,Y1⟩,Y2,Y2,Y1⟩ ⟨⟨Y2,rfl⟩,.inr ⟨7,rfl,⟨rfl,by repeat (first|exact trivial|refine And.intro trivial ?_)⟩,rfl⟩,.inl rfl,Y1⟩))⟩
          ·refine Zh he (fun he=>?_) fun he=>?_
           ·refine And.intro (by kernel_rfl) ?_
            refine Y4 ?_
            refine Zi he fun r20_ he=>?_
            refine Zh he (fun he=>?_) fun he=>?_
            ·refine Y4 ?_
             refine Zi he fun r21_ he=>?_
             refine Y4 ?_
             refine Zi he fun r22_ he=>?_
             exact ZDI
            ·refine Y4 ?_
             refine Y4 ?_
             refine Y4 ?_
             exact ZJc
           ·exact ZJc
  ·skip
   refine Zi he fun r2_ he=>?_
   refine ZD he (fun he=>?_) fun he=>?_
   ·refine Zh he (fun he=>?_) fun he=>?_
    ·refine Zi he fun r3_ he=>?_
     refine ZD he (fun he=>?_) fun he=>?_
     ·refine Zh he (fun he=>?_) fun he=>?_
      ·refine Zi he fun r4_ he=>?_
       exact ZJd
      ·exact⟨_,he,(Za [])⟩
     ·exact ZzI
    ·refine Zh he (fun he=>?_) fun he=>?_
     ·refine Zi he fun r5_ he=>?_
      exact ZJd
     ·exact⟨_,he,(Za [])⟩
   ·exact ZzI
 ·skip
  exact⟨_,he,(Zc9 [] rfl rfl ⟨⟨Y3,Y3,Y1⟩,Y2,Y2,Y1⟩ ⟨⟨Y2,rfl⟩,.inr ⟨3,rfl,⟨rfl,by repeat (first|exact trivial|refine And.intro trivial ?_)⟩,rfl⟩,Y1⟩)⟩
def Zv3:Con:=fun
  |[.c (.imm (.pair (.sl (.pair (.int .i64) (.int .i64))) (.int .i64)) list_),.c (.imm (.pair (.int .i64) (.pair (.int .i64) (.pair (.int .i64) (.pair (.sl (.pair (.int .i64) (.int .i64))) (.int .i64))))) steps)],[]=>.opt _ (Zwl list_ steps) (fun r=>.ite r.1 (.ret (.tup [.c (.ptr 900 0),.c (.int .i64 r.2.1)]) [(900,.rc [.own 901 false,.own 902 false]),(901,.sl 89 y7_ r.2.2.1 .shallow),(902,.sl 4 .bool r.2.2.2.1 .shallow)]) (.ret (.tup [.c (.undef),.c (.int .i64 r.2.2.2.2)]) []))
  |_,_=>.fail
def ZwX:Sched:=.alt 5 (.alt 6 (.first 7 .done) .stop) .stop
def ZJj:Cfg:={ y:=tys,n:=38,h:=0,tab:=[(61,ZbI),(98,Zh9),(235,ZlR)],cut:=[4],sched:=[(3,(ZB [0,2,3] (.alt 1 (.alt 4 ZwX .stop) (.alt 4 (.alt 1 ZwX .stop) .stop))))] }
theorem ZDJ {P:Prop} (h:P:=by
  have he:=Zj he
  have he:=he.2 rfl
  exact⟨rfl,_,_,Leads.refl _ _,he⟩):P:=h
theorem ZJe {P:Prop} (h:P:=by
  refine Y4 ?_
  refine Y4 ?_
  exact⟨_,he,(Za [(10000000,23),(10000001,19900),(10000002,21)])⟩):P:=h
theorem ZJA:Zn Tryz.prog 174 Zv3:=by
 refine Zq (C:=ZJj) Tryz.f174 (Zk ZcU (Zk Zqq (Zk ZxD Zr))) fun _ a b k he=>?_
 unfold Zv3 at he;split at he;rotate_left;exact he.elim
 rename_i list_ steps
 refine ZMQ he fun he=>?_
 refine Zi he fun r1_ he=>?_
 refine ZD he (fun he=>?_) fun he=>?_
 ·refine Zh he (fun he=>?_) fun he=>?_
  ·exact ZDJ
  ·refine ZN (ZuN list_ steps) (fun r_0=>(Zm [(1,.c (.imm Zb7 steps)),(6,.c (.ptr 10000000 0))],[(10000000,.rc [.own 10000001 false,.own 10000002 false]),(10000001,.sl 89 y7_ r_0 .shallow),(10000002,.sl 4 .bool (List.replicate (list_.length:Int).toNat false) .shallow)])) he ?_ ?_
   ·rintro r_0 he
    refine Zp (ZqZ steps) (fun (i,r_01,r_1)=>(Zm [(6,.c (.ptr 10001000 0)),(24,.c (.imm Zb7 steps)),(25,.c (.int .i64 (steps.length:Int))),(26,.c (.int .i64 i))],[(10001000,.rc [.own 10001001 false,.own 10001002 false]),(10001001,.sl 89 y7_ r_01 .shallow),(10001002,.sl 4 .bool r_1 .shallow)])) he (Za [(10001000,10000000),(10001001,10000001),(10001002,10000002)]) ?_
    rintro⟨i,r_01,r_1⟩ _ he
    refine Zh he (fun he=>?_) fun he=>?_
    ·refine Zg he fun he=>?_
     refine Zi he fun r5_ he=>?_
     refine Zh he (fun he=>?_) fun he=>?_
     ·have he:=Zj he
      have he:=he.2 rfl
      exact⟨rfl,_,_,(Za [] (l:=[(4,.c (.undef)),(5,.c (.int .i64 i))]) (st':=[])),he⟩
     ·refine Zg he fun he=>?_
      exact⟨_,(Zj he :),(Za [(10001001,34900),(10001002,34901)])⟩
    ·have he:=Zj he
     have he:=he.1 rfl
     exact⟨rfl,_,_,(Za [(900,10001000),(901,10001001),(902,10001002)] (l:=[(4,.c (.ptr 900 0)),(5,.c (.int .i64 (-1:Int)))]) (st':=[(900,.rc [.own 901 false,.own 902 false]),(901,.sl 89 y7_ r_01 .shallow),(902,.sl 4 .bool r_1 .shallow)])),he⟩
   ·skip
    refine And.intro (by kernel_rfl) ?_
    obtain⟨r3_,hq1,he⟩:=ZX he
    obtain⟨hq2,he⟩:=ZP he
    refine Y5 ?_ ?_
    ·skip
     refine⟨r3_,hq1,?_⟩
     refine Y4 ?_
     refine And.intro hq2 ?_
     exact ZJe
    ·skip
     refine And.intro hq2 ?_
     refine Y4 ?_
     refine⟨r3_,hq1,?_⟩
     exact ZJe
 ·exact ZDJ
def Zjo:Con:=fun
  |[.agg [.imm (.pair (.int .i64) (.int .i64)) c__0,.int .i64 c__1]],[]=>.opt _ (Ze9 (c__0,c__1)) (fun r=>.ret (.c (.bool r)) [])
  |_,_=>.fail
def Zl8:Sched:=ZB [7,8,9] .done
def Zl9:Sched:=.alt 6 Zl8 .stop
def ZuF:Cfg:={ y:=tys,n:=12,h:=0,tab:=[(223,Zbb),(236,Zfr)],sched:=[(1,(.alt 0 (.alt 1 (ZB [2,3] (.alt 4 (.alt 5 Zl9 .stop) (.alt 5 (.alt 4 Zl9 (.alt 6 (.alt 4 Zl8 .stop) .stop)) .stop))) .stop) .stop))] }
theorem ZuQ:Zn Tryz.prog 175 Zjo:=by
 refine Zq (C:=ZuF) Tryz.f175 (Zk ZbH (Zk ZnK Zr)) fun _ a b k he=>?_
 unfold Zjo at he;split at he;rotate_left;exact he.elim
 rename_i c__0 c__1
 refine Zs he fun he=>?_
 refine And.intro (by kernel_rfl) ?_
 refine Y4 ?_
 refine Y4 ?_
 refine Zi he fun r3_ he=>?_
 refine Zh he (fun he=>?_) fun he=>?_
 ·obtain⟨r4_,hq1,he⟩:=ZX he
  refine Y5 ?_ ?_
  ·skip
   refine Y4 ?_
   refine Y4 ?_
   refine⟨r4_,hq1,?_⟩
   exact ZL
  ·skip
   refine Y5 ?_ ?_
   ·skip
    refine Y4 ?_
    refine⟨r4_,hq1,?_⟩
    exact ZL
   ·skip
    refine⟨r4_,hq1,?_⟩
    exact Zzk
 ·refine Y5 ?_ ?_
  ·exact ZHp
  ·skip
   refine Y5 ?_ ?_
   ·skip
    exact Zzk
   ·skip
    exact Zzk
def ZpJ:Con:=fun
  |[.c (.imm (.pair (.sl (.pair (.int .i64) (.int .i64))) (.int .i64)) list_),.c (.imm (.pair (.int .i64) (.pair (.int .i64) (.pair (.int .i64) (.pair (.sl (.pair (.int .i64) (.int .i64))) (.int .i64))))) steps)],[]=>.opt _ (Zoz list_ steps) (fun r=>.ite r.1 (.ret (.tup [.c (.ptr 900 0),.c (.int .i64 r.2.1)]) [(900,.rc [.own 901 false,.own 902 false]),(901,.sl 89 y7_ r.2.2.1 .shallow),(902,.sl 4 .bool r.2.2.2.1 .shallow)]) (.ret (.tup [.c (.undef),.c (.int .i64 r.2.2.2.2)]) []))
  |_,_=>.fail
def ZA9:Cfg:={ y:=tys,n:=44,h:=0,tab:=[(174,Zv3),(175,Zjo)] }
theorem ZBD:Zn Tryz.prog 115 ZpJ:=by
 refine Zq (C:=ZA9) Tryz.f115 (Zk ZJA (Zk ZuQ Zr)) fun _ a b k he=>?_
 unfold ZpJ at he;split at he;rotate_left;exact he.elim
 rename_i list_ steps
 refine ZMQ he fun he=>?_
 refine Zi he fun r1_ he=>?_
 refine Zh he (fun he=>?_) fun he=>?_
 ·refine Zh he (fun he=>?_) fun he=>?_
  ·have he:=Zj he
   have he:=he.2 rfl
   exact⟨rfl,_,_,(Za [] (l:=[(4,.c (.undef)),(5,.c (.int .i64 (-1:Int)))]) (st':=[])),he⟩
  ·refine Zp (ZhS r1_) (fun i=>(Zm [(6,.c (.ptr 10000000 0)),(21,.c (.own 10000001 false)),(22,.c (.int .i64 (r1_.2.2.1.length:Int))),(23,.c (.int .i64 i))],[(10000000,.rc [.own 10000001 false,.own 10000002 false]),(10000001,.sl 89 y7_ r1_.2.2.1 .shallow),(10000002,.sl 4 .bool r1_.2.2.2.1 .shallow)])) he (Za [(10000000,14900),(10000001,14901),(10000002,14902)]) ?_
   rintro i _ he
   refine Zh he (fun he=>?_) fun he=>?_
   ·refine Zg he fun he=>?_
    refine Zg he fun he=>?_
    refine Zh he (fun he=>?_) fun he=>?_
    ·refine Zi he fun r2_ he=>?_
     refine Zh he (fun he=>?_) fun he=>?_
     ·have he:=Zj he
      have he:=he.1 rfl
      exact⟨rfl,_,_,(Za [(900,10000000),(901,10000001),(902,10000002)] (l:=[(4,.c (.ptr 900 0)),(5,.c (.int .i64 i))]) (st':=[(900,.rc [.own 901 false,.own 902 false]),(901,.sl 89 y7_ r1_.2.2.1 .shallow),(902,.sl 4 .bool r1_.2.2.2.1 .shallow)])),he⟩
     ·exact ZdH
    ·exact ZdH
   ·have he:=Zj he
    have he:=he.1 rfl
    exact⟨rfl,_,_,(Za [(900,10000000),(901,10000001),(902,10000002)] (l:=[(4,.c (.ptr 900 0)),(5,.c (.int .i64 (-1:Int)))]) (st':=[(900,.rc [.own 901 false,.own 902 false]),(901,.sl 89 y7_ r1_.2.2.1 .shallow),(902,.sl 4 .bool r1_.2.2.2.1 .shallow)])),he⟩
 ·refine Zh he (fun he=>?_) fun he=>?_
  ·exact ZDJ
  ·exact(ZDa he).elim
def Zjn:Con:=fun
  |[.c (.imm (.pair (.sl (.pair (.int .i64) (.int .i64))) (.int .i64)) list_),.c (.imm (.pair (.int .i64) (.pair (.int .i64) (.pair (.int .i64) (.pair (.sl (.pair (.int .i64) (.int .i64))) (.int .i64))))) steps)],[]=>.opt _ (Zg8 list_ steps) (fun r=>.ret (.c (.bool r)) [])
  |_,_=>.fail
def ZuE:Cfg:={ y:=tys,n:=15,h:=0,tab:=[(115,ZpJ)] }
theorem ZuP:Zn Tryz.prog 45 Zjn:=by
 refine Zq (C:=ZuE) Tryz.f45 (Zk ZBD Zr) fun _ a b k he=>?_
 unfold Zjn at he;split at he;rotate_left;exact he.elim
 rename_i list_ steps
 refine Zs he fun he=>?_
 refine Zi he fun r1_ he=>?_
 refine Zh he (fun he=>?_) fun he=>?_
 ·exact Zbd
 ·exact Z5
def ZlK:Con:=fun
  |[.agg [.imm (.int .i64) m_0,.imm (.pair (.int .i64) (.pair (.sl (.int .i64)) (.pair (.sl (.int .i64)) (.pair (.int .i64) (.sl (.sl (.int .i64))))))) m_1],.c (.imm (.int .i64) coefs),.c (.imm (.int .i64) cells),.c (.imm (.pair (.int .i64) (.pair (.int .i64) (.pair (.int .i64) (.pair (.sl (.pair (.int .i64) (.int .i64))) (.int .i64))))) steps)],[]=>.opt _ (ZgK (m_0,m_1) coefs cells steps) (fun r=>.ret (.c (.bool r)) [])
  |_,_=>.fail
def ZnU:Sched:=.alt 11 (.first 12 .done) .stop
def Zji:Sched:=.alt 6 (ZB [7,8,9] ZnU) .stop
def ZnV:Sched:=.alt 6 (ZB [7,8,9] (.alt 10 ZnU .stop)) (.alt 10 Zji .stop)
def ZnW:Sched:=.alt 4 (.first 5 Zji) .stop
def ZnX:Sched:=.alt 0 Zji .stop
def ZnY:Sched:=.alt 6 (.alt 8 (ZB [9,10] .done) .stop) .stop
def ZnZ:Sched:=.alt 5 ZnY .stop
def Zxe:Cfg:={ y:=tys,n:=51,h:=0,tab:=[(45,Zjn),(55,Znd),(56,Zd8),(59,Zfp),(60,ZhB),(61,ZbI),(77,ZmC)],cut:=[5],good:=[61],sched:=[(4,(ZB [1,2,3] (.alt 0 (.alt 4 (.first 5 ZnV) (.alt 10 ZnW .stop)) (.alt 4 (.first 5 (.alt 0 ZnV (.alt 10 ZnX .stop))) (.alt 10 (.alt 0 ZnW (.alt 4 (.first 5 ZnX) .stop)) .stop))))),(5,(ZB [0,1,2,7] (.alt 3 (.alt 4 ZnZ .stop) (.alt 4 (.alt 3 ZnZ (.alt 5 (.alt 3 ZnY .stop) .stop)) .stop))))] }
theorem ZvN {P:Prop} (h:P:=by
  exact Zt [(8,[])] (Zj he :) (Za [])):P:=h
theorem ZDK {P:Prop} (h:P:=by
  refine Y4 ?_
  refine And.intro hq2 ?_
  refine Y4 ?_
  refine⟨r11_,hq3,?_⟩
  exact ZvN):P:=h
theorem ZDL {P:Prop} (h:P:=by
  refine Y4 ?_
  refine Y4 ?_
  refine Y4 ?_
  exact ZvN):P:=h
theorem ZJf {P:Prop} (h:P:=by
  refine Y4 ?_
  exact⟨_,he,(Za [(10000000,15900),(10000001,11),(10000002,39901)])⟩):P:=h
theorem ZzK {P:Prop} (h:P:=by
  refine Y4 ?_
  refine⟨r7_,hq3,?_⟩
  exact ZJf):P:=h
theorem ZJg {P:Prop} (h:P:=by
  refine Y5 ?_ ?_
  ·skip
   refine⟨r7_,hq3,?_⟩
   refine Y4 ?_
   exact ZJf
  ·skip
   exact ZzK):P:=h
theorem ZJh {P:Prop} (h:P:=by
  skip
  refine Y4 ?_
  refine⟨r6_,hq1,?_⟩
  refine And.intro hq2 ?_
  exact ZzK):P:=h
theorem Zxw:Zn Tryz.prog 18 ZlK:=by
 refine Zq (C:=Zxe) Tryz.f18 (Zk ZuP (Zk Zvi (Zk Zgd (Zk ZnI (Zk Znp (Zk ZcU (Zk Zyl Zr))))))) fun _ a b k he=>?_
 unfold ZlK at he;split at he;rotate_left;exact he.elim
 rename_i m_0 m_1 coefs cells steps
 refine Zs he fun he=>?_
 refine Zi he fun r1_ he=>?_
 refine ZD he (fun he=>?_) fun he=>?_
 ·refine Zi he fun r2_ he=>?_
  refine ZD he (fun he=>?_) fun he=>?_
  ·refine Zi he fun r3_ he=>?_
   refine Zh he (fun he=>?_) fun he=>?_
   ·exact ZvN
   ·refine ZN (ZkN steps r1_) (fun (ok,c_1,c_0)=>(Zm [(3,.c (.imm Zb7 steps)),(9,.c (.own 10000000 false)),(10,.c (.bool ok)),(11,.c (.ptr 10000001 0))],[(10000000,.sl 89 y7_ r1_.2 (.deep true .no)),(10000001,.rc [.own 10000002 false,.int .i64 c_1]),(10000002,.sl 155 y6_ c_0 .shallow)])) he ?_ ?_
    ·rintro⟨ok,c_1,c_0⟩ he
     refine And.intro (by kernel_rfl) ?_
     refine Zh he (fun he=>?_) fun he=>?_
     ·obtain⟨r10_,hq1,he⟩:=ZX he
      obtain⟨hq2,he⟩:=ZP he
      obtain⟨r11_,hq3,he⟩:=ZX he
      refine Y5 ?_ ?_
      ·skip
       refine⟨r10_,hq1,?_⟩
       refine Y4 ?_
       refine Y4 ?_
       exact ZDK
      ·skip
       refine Y5 ?_ ?_
       ·skip
        refine⟨r10_,hq1,?_⟩
        refine Y4 ?_
        exact ZDK
       ·skip
        refine Y4 ?_
        refine⟨r10_,hq1,?_⟩
        exact ZDK
     ·refine Y5 ?_ ?_
      ·skip
       refine Y4 ?_
       exact ZDL
      ·skip
       refine Y5 ?_ ?_
       ·skip
        exact ZDL
       ·skip
        exact ZDL
    ·skip
     refine And.intro (by kernel_rfl) ?_
     obtain⟨r6_,hq1,he⟩:=ZX he
     obtain⟨hq2,he⟩:=ZP he
     obtain⟨r7_,hq3,he⟩:=ZX he
     refine And.intro ?_ (And.intro ?_ (And.intro ?_ (Y1)))
     ·skip
      refine Y5 ?_ ?_
      ·skip
       refine⟨r6_,hq1,?_⟩
       refine And.intro hq2 ?_
       exact ZJg
      ·exact ZJh
     ·skip
      refine⟨r6_,hq1,?_⟩
      refine And.intro hq2 ?_
      refine Y5 ?_ ?_
      ·skip
       exact ZJg
      ·skip
       refine Y4 ?_
       exact ZzK
     ·skip
      refine Y5 ?_ ?_
      ·exact ZJh
      ·skip
       refine⟨r6_,hq1,?_⟩
       refine And.intro hq2 ?_
       refine Y4 ?_
       exact ZzK
  ·exact ZvN
 ·exact ZvN
def Zj4:Con:=fun
  |[.c (.imm (.int .u8) a0)],[]=>.opt _ (ZlZ a0) (fun r=>.ret (.c (.bool r)) [])
  |_,_=>.fail
def Zu3:Cfg:={ y:=tys,n:=114,h:=0,tab:=[(11,ZiJ),(12,ZlO),(13,ZlU),(14,ZrZ),(15,ZoP),(16,ZkE),(17,Zj3),(18,ZlK)] }
theorem Zvj:Zn Tryz.prog 3 Zj4:=by
 refine Zq (C:=Zu3) Tryz.f3 (Zk Zua (Zk ZxA (Zk ZxG (Zk ZEN (Zk ZAC (Zk Zwn (Zk Zvh (Zk Zxw Zr)))))))) fun _ a b k he=>?_
 unfold Zj4 at he;split at he;rotate_left;exact he.elim
 rename_i a0
 refine Zs he fun he=>?_
 refine Zh he (fun he=>?_) fun he=>?_
 ·exact Z5
 ·refine Zi he fun r1_ he=>?_
  refine Zi he fun r2_ he=>?_
  refine Zi he fun r3_ he=>?_
  refine ZD he (fun he=>?_) fun he=>?_
  ·refine Zi he fun r4_ he=>?_
   refine ZD he (fun he=>?_) fun he=>?_
   ·refine Zi he fun r5_ he=>?_
    refine ZD he (fun he=>?_) fun he=>?_
    ·refine Zh he (fun he=>?_) fun he=>?_
     ·refine Zh he (fun he=>?_) fun he=>?_
      ·refine Zi he fun r6_ he=>?_
       refine Zh he (fun he=>?_) fun he=>?_
       ·refine Zi he fun r7_ he=>?_
        exact ZL
       ·exact ZL
      ·exact ZL
     ·refine Zi he fun r14_ he=>?_
      refine Zi he fun r15_ he=>?_
      refine Zi he fun r16_ he=>?_
      refine Zh he (fun he=>?_) fun he=>?_
      ·refine Zh he (fun he=>?_) fun he=>?_
       ·refine Zh he (fun he=>?_) fun he=>?_
        ·refine Zh he (fun he=>?_) fun he=>?_
         ·refine Zi he fun r17_ he=>?_
          exact ZL
         ·exact ZL
        ·exact ZL
       ·exact ZL
      ·exact ZL
    ·refine Zh he (fun he=>?_) fun he=>?_
     ·refine Zi he fun r8_ he=>?_
      refine Zh he (fun he=>?_) fun he=>?_
      ·refine Zi he fun r9_ he=>?_
       exact ZL
      ·exact ZL
     ·exact ZL
   ·refine Zh he (fun he=>?_) fun he=>?_
    ·refine Zi he fun r10_ he=>?_
     refine Zh he (fun he=>?_) fun he=>?_
     ·refine Zi he fun r11_ he=>?_
      exact ZL
     ·exact ZL
    ·exact ZL
  ·refine Zh he (fun he=>?_) fun he=>?_
   ·refine Zi he fun r12_ he=>?_
    refine Zh he (fun he=>?_) fun he=>?_
    ·refine Zi he fun r13_ he=>?_
     exact ZL
    ·exact ZL
   ·exact ZL
end
end Go.AE.Y
