/-
  Walks: each function keeps the contract that its model gives. No conditions.
-/
import Derived.Test.YtaeeiddjpigemaaGreatR8Tab
import Derived.Test.YtaeeiddjpigemaaGreatR8W6
import Derived.Test.YtaeeiddjpigemaaGreatR8S
namespace Go.AE.Y
open Go Go.AE Go.Proofs
set_option linter.unusedVariables false
set_option maxHeartbeats 2000000
set_option maxRecDepth 100000
noncomputable section
def Zge:Con:=fun
  |[.c (.int .i64 n),.c (.ptr 0 0)],[(0,.rc [.int .i64 o0])]=>.opt _ (Zch n o0) (fun r=>.ret (.c (.int .i64 r)) [(0,.rc [.int .i64 o0])])
  |_,_=>.fail
def Zsf:Cfg:={ y:=tys,n:=7,h:=1,tab:=[] }
theorem ZsX:Zn Tryz.prog 292 Zge:=by
 refine Zq (C:=Zsf) Tryz.f292 Zr fun _ a b k he=>?_
 unfold Zge at he;split at he;rotate_left;exact he.elim
 rename_i n o0
 refine Zs he fun he=>?_
 refine Zh he fun he=>?_
 exact Zvz
def Zfx:Con:=fun
  |[.agg [.imm (.pair (.int .i64) (.int .i64)) c__0,.int .i64 c__1]],[]=>.opt _ (Zc7 (c__0,c__1)) (fun r=>.ret (.tup [.agg [.imm y6_ r.2.1,.int .i64 r.2.2],.c (.bool r.1)]) [(900,.rc [.imm y6_ r.2.1,.int .i64 r.2.2])])
  |_,_=>.fail
def ZvD:Cfg:={ y:=tys,n:=9,h:=0,tab:=[(223,Zbc)] }
theorem ZoA:Zn Tryz.prog 187 Zfx:=by
 refine Zq (C:=ZvD) Tryz.f187 (Zk ZbC Zr) fun _ a b k he=>?_
 unfold Zfx at he;split at he;rotate_left;exact he.elim
 rename_i c__0 c__1
 refine Zs he fun he=>?_
 refine Zi he fun r1_ he=>?_
 refine Zg he (fun he=>?_) fun he=>?_
 ·exact Zv [(2,[900]),(3,[])] (Zj he :) (ZcA [(900,2)] rfl rfl ⟨⟨.inr (.inl Y2),rfl,Y1⟩,Y1⟩ ⟨⟨Y2,rfl⟩,.inr rfl,Y1⟩)
 ·exact Zro
def Zb8:Con:=fun
  |[.agg [.imm (.pair (.int .i64) (.int .i64)) c__0,.int .i64 c__1],.c (.fn 292 [0])],[(0,.rc [.int .i64 o0])]=>.opt _ (Zbx (c__0,c__1) o0) (fun r=>.ret (.tup [.agg [.imm y6_ r.2.1,.int .i64 r.2.2],.c (.bool r.1)]) [(0,.rc [.int .i64 o0]),(900,.rc [.imm y6_ r.2.1,.int .i64 r.2.2])])
  |_,_=>.fail
def Zdh:Sched:=Zy [11,12] (.alt 13 .done .stop)
def Zdi:Sched:=.alt 10 Zdh .stop
def Zdj:Sched:=.alt 9 Zdi .stop
def ZgM:Cfg:={ y:=tys,n:=39,h:=1,tab:=[(160,Zgx),(187,Zfx),(292,Zge)],cut:=[8],good:=[187],sched:=[(6,(Zy [0,2,3,4,6] (.alt 1 (.alt 5 (Zy [7,8] Zdj) .stop) (.alt 5 (Zy [7,8] (.alt 1 Zdj (.alt 9 (.alt 1 Zdi (.alt 10 (.alt 1 Zdh .stop) .stop)) .stop))) .stop))))] }
theorem ZFW {P:Prop} (h:P:=by
  exact Zv [(4,[900]),(5,[])] (Zj he :) (Za [(900,10001000)])):P:=h
theorem ZFX {P:Prop} (h:P:=by
  refine Y4 ?_
  refine⟨r5_,hq2,?_⟩
  refine And.intro hq1 ?_
  exact Zk0):P:=h
theorem ZLs {P:Prop} (h:P:=by
  rintro⟨i,out_0⟩ _ he
  refine Zg he (fun he=>?_) fun he=>?_
  ·refine And.intro (by kernel_rfl) ?_
   obtain⟨hq1,he⟩:=ZD he
   obtain⟨r5_,hq2,he⟩:=ZS he
   obtain⟨hq3,he⟩:=ZD he
   refine Y5 ?_ ?_
   ·skip
    refine Y4 ?_
    refine And.intro hq1 ?_
    refine Y4 ?_
    exact ZFX
   ·skip
    refine And.intro hq1 ?_
    refine Y5 ?_ ?_
    ·skip
     refine Y4 ?_
     exact ZFX
    ·skip
     refine Y5 ?_ ?_
     ·skip
      exact ZFX
     ·skip
      refine⟨r5_,hq2,?_⟩
      refine Y4 ?_
      refine And.intro hq1 ?_
      exact Zk0
  ·exact⟨_,(Zbn he :),(Za [(10001000,10000000),(10001001,10000001),(10001002,10000002)])⟩):P:=h
theorem ZgR:Zn Tryz.prog 291 Zb8:=by
 refine Zq (C:=ZgM) Tryz.f291 (Zk Zqk (Zk ZoA (Zk ZsX Zr))) fun _ a b k he=>?_
 unfold Zb8 at he;split at he;rotate_left;exact he.elim
 rename_i c__0 c__1 o0
 refine Zs he fun he=>?_
 refine Zi he fun r1_ he=>?_
 refine Zi he fun r2_ he=>?_
 refine ZK (Zb6 r2_) (fun out_01=>(Zm [(4,.c (.ptr 10001000 0)),(6,.c (.ptr 10001001 0))],[(0,.rc [.int .i64 o0]),(10001000,.rc [.nil,.int .i64 (0:Int)]),(10001001,.rc [.own 10001002 false,.int .i64 r2_]),(10001002,.sl 155 y6_ out_01 .shallow)])) he ?_ ?_
 ·rintro out_01 he
  refine Zi he fun r6_ he=>?_
  exact ZFW
 ·skip
  refine Zt (Zbl o0 r1_ r2_) (fun (i,out_0)=>(Zm [(1,.c (.fn 292 [0])),(4,.c (.ptr 10000000 0)),(6,.c (.ptr 10000001 0)),(17,.c (.int .i64 (r1_.2.length:Int))),(18,.c (.int .i64 i))],[(0,.rc [.int .i64 o0]),(10000000,.rc [.nil,.int .i64 (0:Int)]),(10000001,.rc [.own 10000002 false,.int .i64 r2_]),(10000002,.sl 155 y6_ out_0 .shallow)])) he (Za [(10000000,4),(10000001,6),(10000002,10901)]) ?_
  exact ZLs
def Zhd:Con:=fun
  |[.agg [.imm (.pair (.int .i64) (.int .i64)) c__0,.int .i64 c__1],.c (.int .i64 k_)],[]=>.opt _ (Zfz (c__0,c__1) k_) (fun r=>.ret (.tup [.agg [.imm y6_ r.2.1,.int .i64 r.2.2],.c (.bool r.1)]) [(900,.rc [.imm y6_ r.2.1,.int .i64 r.2.2])])
  |_,_=>.fail
def ZtV:Cfg:={ y:=tys,n:=20,h:=0,tab:=[(127,Zb9),(223,Zbc),(291,Zb8)] }
theorem ZBN {P:Prop} (h:P:=by
  exact Zv [(4,[900]),(5,[])] (Zj he :) (ZcA [(900,4)] rfl rfl ⟨⟨.inr (.inl Y2),rfl,Y1⟩,Y1⟩ ⟨⟨Y2,rfl⟩,.inr rfl,Y1⟩)):P:=h
theorem Zja {P:Prop} (h:P:=by
  exact Zv [(4,[900]),(5,[])] (Zj he :) (Za [(900,4)])):P:=h
theorem Zt8:Zn Tryz.prog 262 Zhd:=by
 refine Zq (C:=ZtV) Tryz.f262 (Zk ZcH (Zk ZbC (Zk ZgR Zr))) fun _ a b k he=>?_
 unfold Zhd at he;split at he;rotate_left;exact he.elim
 rename_i c__0 c__1 k_
 refine Zs he fun he=>?_
 refine Zi he fun r1_ he=>?_
 refine ZC he (fun he=>?_) fun he=>?_
 ·refine Zi he fun r2_ he=>?_
  refine Zg he (fun he=>?_) fun he=>?_
  ·exact ZBN
  ·refine Zi he fun r3_ he=>?_
   exact Zja
 ·exact ZBN
def Zhc:Con:=fun
  |[.c (.int .i64 n),.c (.ptr 0 0)],[(0,.rc [.int .i64 o0])]=>.opt _ (Zek n o0) (fun r=>.ret (.c (.int .i64 r)) [(0,.rc [.int .i64 o0])])
  |_,_=>.fail
def ZtU:Cfg:={ y:=tys,n:=10,h:=1,tab:=[] }
theorem Zt7:Zn Tryz.prog 293 Zhc:=by
 refine Zq (C:=ZtU) Tryz.f293 Zr fun _ a b k he=>?_
 unfold Zhc at he;split at he;rotate_left;exact he.elim
 rename_i n o0
 refine Zs he fun he=>?_
 refine Zh he fun he=>?_
 refine Zh he fun he=>?_
 refine Zh he fun he=>?_
 exact Zvz
def Zcf:Con:=fun
  |[.agg [.imm (.pair (.int .i64) (.int .i64)) c__0,.int .i64 c__1],.c (.fn 293 [0])],[(0,.rc [.int .i64 o0])]=>.opt _ (ZbF (c__0,c__1) o0) (fun r=>.ret (.tup [.agg [.imm y6_ r.2.1,.int .i64 r.2.2],.c (.bool r.1)]) [(0,.rc [.int .i64 o0]),(900,.rc [.imm y6_ r.2.1,.int .i64 r.2.2])])
  |_,_=>.fail
def ZdD:Sched:=Zy [11,12] (.alt 13 .done .stop)
def ZdE:Sched:=.alt 10 ZdD .stop
def ZdF:Sched:=.alt 9 ZdE .stop
def Zg8:Cfg:={ y:=tys,n:=39,h:=1,tab:=[(160,Zgx),(187,Zfx),(293,Zhc)],cut:=[8],good:=[187],sched:=[(6,(Zy [0,2,3,4,6] (.alt 1 (.alt 5 (Zy [7,8] ZdF) .stop) (.alt 5 (Zy [7,8] (.alt 1 ZdF (.alt 9 (.alt 1 ZdE (.alt 10 (.alt 1 ZdD .stop) .stop)) .stop))) .stop))))] }
theorem Zhl:Zn Tryz.prog 291 Zcf:=by
 refine Zq (C:=Zg8) Tryz.f291 (Zk Zqk (Zk ZoA (Zk Zt7 Zr))) fun _ a b k he=>?_
 unfold Zcf at he;split at he;rotate_left;exact he.elim
 rename_i c__0 c__1 o0
 refine Zs he fun he=>?_
 refine Zi he fun r1_ he=>?_
 refine Zi he fun r2_ he=>?_
 refine ZK (Zce r2_) (fun out_01=>(Zm [(4,.c (.ptr 10001000 0)),(6,.c (.ptr 10001001 0))],[(0,.rc [.int .i64 o0]),(10001000,.rc [.nil,.int .i64 (0:Int)]),(10001001,.rc [.own 10001002 false,.int .i64 r2_]),(10001002,.sl 155 y6_ out_01 .shallow)])) he ?_ ?_
 ·rintro out_01 he
  refine Zi he fun r6_ he=>?_
  exact ZFW
 ·skip
  refine Zt (Zbs o0 r1_ r2_) (fun (i,out_0)=>(Zm [(1,.c (.fn 293 [0])),(4,.c (.ptr 10000000 0)),(6,.c (.ptr 10000001 0)),(17,.c (.int .i64 (r1_.2.length:Int))),(18,.c (.int .i64 i))],[(0,.rc [.int .i64 o0]),(10000000,.rc [.nil,.int .i64 (0:Int)]),(10000001,.rc [.own 10000002 false,.int .i64 r2_]),(10000002,.sl 155 y6_ out_0 .shallow)])) he (Za [(10000000,4),(10000001,6),(10000002,10901)]) ?_
  exact ZLs
def ZiR:Con:=fun
  |[.agg [.imm (.pair (.int .i64) (.int .i64)) c__0,.int .i64 c__1],.c (.int .i64 k_)],[]=>.opt _ (ZgA (c__0,c__1) k_) (fun r=>.ret (.tup [.agg [.imm y6_ r.2.1,.int .i64 r.2.2],.c (.bool r.1)]) [(900,.rc [.imm y6_ r.2.1,.int .i64 r.2.2])])
  |_,_=>.fail
def ZvE:Cfg:={ y:=tys,n:=20,h:=0,tab:=[(127,Zb9),(223,Zbc),(291,Zcf)] }
theorem ZvR:Zn Tryz.prog 263 ZiR:=by
 refine Zq (C:=ZvE) Tryz.f263 (Zk ZcH (Zk ZbC (Zk Zhl Zr))) fun _ a b k he=>?_
 unfold ZiR at he;split at he;rotate_left;exact he.elim
 rename_i c__0 c__1 k_
 refine Zs he fun he=>?_
 refine Zi he fun r1_ he=>?_
 refine ZC he (fun he=>?_) fun he=>?_
 ·refine Zi he fun r2_ he=>?_
  refine Zg he (fun he=>?_) fun he=>?_
  ·exact ZBN
  ·refine Zi he fun r3_ he=>?_
   exact Zja
 ·exact ZBN
def Zhe:Con:=fun
  |[.agg [.imm (.pair (.int .i64) (.int .i64)) c__0,.int .i64 c__1]],[]=>.opt _ (ZfA (c__0,c__1)) (fun r=>.ret (.tup [.agg [.own 901 false,.int .i64 r.2.1],.c (.bool r.1)]) [(900,.rc [.own 901 false,.int .i64 r.2.1]),(901,.sl 155 y6_ r.2.2 .shallow)])
  |_,_=>.fail
def ZtW:Cfg:={ y:=tys,n:=39,h:=0,tab:=[(223,Zbc)] }
theorem Zt9:Zn Tryz.prog 264 Zhe:=by
 refine Zq (C:=ZtW) Tryz.f264 (Zk ZbC Zr) fun _ a b k he=>?_
 unfold Zhe at he;split at he;rotate_left;exact he.elim
 rename_i c__0 c__1
 refine Zs he fun he=>?_
 refine Zi he fun r1_ he=>?_
 refine Zg he (fun he=>?_) fun he=>?_
 ·exact Zro
 ·refine Zg he (fun he=>?_) fun he=>?_
  ·refine Zt (ZdI (c__0,c__1)) (fun (i,out_0)=>(Zm [(1,.c (.ptr 10000000 0)),(2,.c (.ptr 10000001 0)),(4,.c (.ptr 10000002 0)),(18,.c (.imm y6_ (c__0,c__1).1)),(19,.c (.int .i64 ((c__0,c__1).1.length:Int))),(20,.c (.int .i64 i))],[(10000000,.rc [.imm y6_ (c__0,c__1).1,.int .i64 (c__0,c__1).2]),(10000001,.rc [.nil,.int .i64 (0:Int)]),(10000002,.rc [.own 10000003 false,.int .i64 (c__0,c__1).2]),(10000003,.sl 155 y6_ out_0 .shallow)])) he (Za [(10000000,1),(10000001,2),(10000002,4)]) ?_
   rintro⟨i,out_0⟩ _ he
   refine Zg he (fun he=>?_) fun he=>?_
   ·refine Zh he fun he=>?_
    refine Zh he fun he=>?_
    exact ZMO
   ·exact Zv [(2,[900]),(3,[])] (Zj he :) (Za [(900,10000001),(901,10000003)])
  ·exact Zro
def ZiT:Con:=fun
  |[.agg [.imm (.pair (.int .i64) (.int .i64)) c__0,.int .i64 c__1],.c (.int .i64 variable_)],[]=>.opt _ (ZgB (c__0,c__1) variable_) (fun r=>.ret (.tup [.agg [.own 901 false,.int .i64 r.2.1],.c (.bool r.1)]) [(900,.rc [.own 901 false,.int .i64 r.2.1]),(901,.sl 155 y6_ r.2.2 .shallow)])
  |_,_=>.fail
def ZvG:Cfg:={ y:=tys,n:=48,h:=0,tab:=[(127,Zb9),(170,ZgW),(223,Zbc)] }
theorem ZvT:Zn Tryz.prog 265 ZiT:=by
 refine Zq (C:=ZvG) Tryz.f265 (Zk ZcH (Zk ZoJ (Zk ZbC Zr))) fun _ a b k he=>?_
 unfold ZiT at he;split at he;rotate_left;exact he.elim
 rename_i c__0 c__1 variable_
 refine Zs he fun he=>?_
 refine Zi he fun r1_ he=>?_
 refine ZC he (fun he=>?_) fun he=>?_
 ·refine Zi he fun r2_ he=>?_
  refine Zg he (fun he=>?_) fun he=>?_
  ·exact Zja
  ·refine Zt (Zfb (c__0,c__1) variable_) (fun (i,out_1,out_0)=>(Zm [(1,.c (.int .i64 variable_)),(2,.c (.ptr 10000000 0)),(4,.c (.ptr 10000001 0)),(6,.c (.ptr 10000002 0)),(22,.c (.imm y6_ (c__0,c__1).1)),(23,.c (.int .i64 ((c__0,c__1).1.length:Int))),(24,.c (.int .i64 i))],[(10000000,.rc [.imm y6_ (c__0,c__1).1,.int .i64 (c__0,c__1).2]),(10000001,.rc [.nil,.int .i64 (0:Int)]),(10000002,.rc [.own 10000003 false,.int .i64 out_1]),(10000003,.sl 155 y6_ out_0 .shallow)])) he (Za [(10000000,2),(10000001,4),(10000002,6)]) ?_
   rintro⟨i,out_1,out_0⟩ _ he
   refine Zg he (fun he=>?_) fun he=>?_
   ·refine Zh he fun he=>?_
    refine Zi he fun r4_ he=>?_
    refine Zg he (fun he=>?_) fun he=>?_
    ·exact ZBo
    ·refine Zh he fun he=>?_
     refine Zh he fun he=>?_
     exact⟨_,(Zj he :),(Za [(10000003,44)])⟩
   ·exact Zv [(4,[900]),(5,[])] (Zj he :) (Za [(900,10000001),(901,10000003)])
 ·exact Zja
def Zms:Con:=fun
  |[.c (.int .i64 lit)],[]=>.opt _ (Zj6 lit) (fun r=>.ret (.tup [.agg [.own 901 false,.int .i64 r.2.1],.c (.bool r.1)]) [(900,.rc [.own 901 false,.int .i64 r.2.1]),(901,.sl 155 y6_ r.2.2 .shallow)])
  |_,_=>.fail
def Zzt:Cfg:={ y:=tys,n:=12,h:=0,tab:=[(177,ZhP)] }
theorem ZzK:Zn Tryz.prog 266 Zms:=by
 refine Zq (C:=Zzt) Tryz.f266 (Zk ZpU Zr) fun _ a b k he=>?_
 unfold Zms at he;split at he;rotate_left;exact he.elim
 rename_i lit
 refine Zs he fun he=>?_
 refine Zi he fun r1_ he=>?_
 refine Zg he (fun he=>?_) fun he=>?_
 ·exact Zro
 ·exact Zv [(2,[900]),(3,[])] (Zj he :) (Za [(900,2),(901,10)])
def ZhQ:Con:=fun
  |[.c (.ptr 0 0)],[(0,.rc [.own 1 false,.own 2 false]),(1,.sl 89 (.pair (.sl (.pair (.int .i64) (.int .i64))) (.int .i64)) o1 .shallow),(2,.sl 4 .bool o2 .shallow)]=>.opt _ (Zf4 o1 o2) (fun r=>.ret (.c (.own 900 false)) [(0,.rc [.own 1 false,.own 2 false]),(1,.sl 89 y7_ o1 .shallow),(2,.sl 4 .bool o2 .shallow),(900,.sl 89 y7_ r .shallow)])
  |_,_=>.fail
def Zuy:Cfg:={ y:=tys,n:=30,h:=3,tab:=[] }
theorem Zu7:Zn Tryz.prog 268 ZhQ:=by
 refine Zq (C:=Zuy) Tryz.f268 Zr fun _ a b k he=>?_
 unfold ZhQ at he;split at he;rotate_left;exact he.elim
 rename_i o1 o2
 refine Zs he fun he=>?_
 refine Zt (ZeX o1 o2) (fun (i,out)=>(Zm [(0,.c (.ptr 0 0)),(3,.c (.own 10000000 false)),(9,.c (.own 1 false)),(10,.c (.int .i64 (o1.length:Int))),(11,.c (.int .i64 i))],[(0,.rc [.own 1 false,.own 2 false]),(1,.sl 89 y7_ o1 .shallow),(2,.sl 4 .bool o2 .shallow),(10000000,.sl 89 y7_ out .shallow)])) he (Za []) ?_
 rintro⟨i,out⟩ _ he
 refine Zg he (fun he=>?_) fun he=>?_
 ·refine Zh he fun he=>?_
  refine Zh he fun he=>?_
  refine Zg he (fun he=>?_) fun he=>?_
  ·refine Zh he fun he=>?_
   refine Zh he fun he=>?_
   exact⟨_,(Zj he :),(Za [(10000000,27)])⟩
  ·exact ZdC
 ·exact Zv [(2,[])] (Zj he :) (Za [(900,10000000)])
def Zfw:Con:=fun
  |[.agg [.imm (.pair (.int .i64) (.int .i64)) c__0,.int .i64 c__1]],[]=>.opt _ (ZeP (c__0,c__1)) (fun r=>.ret (.c (.int .i64 r)) [])
  |_,_=>.fail
def ZvC:Cfg:={ y:=tys,n:=19,h:=0,tab:=[] }
theorem Zoz:Zn Tryz.prog 236 Zfw:=by
 refine Zq (C:=ZvC) Tryz.f236 Zr fun _ a b k he=>?_
 unfold Zfw at he;split at he;rotate_left;exact he.elim
 rename_i c__0 c__1
 refine Zs he fun he=>?_
 refine Zt (Ze8 (c__0,c__1)) (fun (sum,i)=>(Zm [(3,.c (.int .i64 sum)),(7,.c (.imm y6_ (c__0,c__1).1)),(8,.c (.int .i64 ((c__0,c__1).1.length:Int))),(9,.c (.int .i64 i))],[])) he (Za []) ?_
 rintro⟨sum,i⟩ _ he
 refine Zg he (fun he=>?_) fun he=>?_
 ·exact Zvu
 ·exact Zbf
def ZgP:Con:=fun
  |[.agg [.imm (.pair (.int .i64) (.int .i64)) c__0,.int .i64 c__1]],[]=>.opt _ (Ze6 (c__0,c__1)) (fun r=>.ret (.agg [.own 901 false,.int .i64 r.1]) [(900,.rc [.own 901 false,.int .i64 r.1]),(901,.sl 155 y6_ r.2 .shallow)])
  |_,_=>.fail
def ZjV:Sched:=.alt 9 .done .stop
def ZjW:Sched:=.alt 7 ZjV .stop
def ZjX:Sched:=.alt 6 ZjW .stop
def Zs9:Cfg:={ y:=tys,n:=34,h:=0,tab:=[(236,Zfw)],cut:=[1,2,5],sched:=[(1,(Zy [0,2,3] (.alt 1 (Zy [4,5] (.alt 6 (.alt 7 (.alt 8 ZjV .stop) (.alt 8 ZjW .stop)) (.alt 8 ZjX .stop))) (.alt 8 (.alt 1 (Zy [4,5] ZjX) .stop) .stop))))] }
theorem ZBO {P:Prop} (h:P:=by
  refine Y4 ?_
  refine Y4 ?_
  exact⟨_,he,(Za [(10001000,10000000),(10001001,3)])⟩):P:=h
theorem Ztq:Zn Tryz.prog 294 ZgP:=by
 refine Zq (C:=Zs9) Tryz.f294 (Zk Zoz Zr) fun _ a b k he=>?_
 unfold ZgP at he;split at he;rotate_left;exact he.elim
 rename_i c__0 c__1
 refine Zs he fun he=>?_
 refine ZK (Zgj (c__0,c__1)) (fun _=>(Zm [(1,.c (.iptr y7_ (c__0,c__1) 0)),(2,.c (.ptr 10000000 0))],[(10000000,.rc [.nil,.int .i64 (0:Int)])])) he ?_ ?_
 ·rintro⟨⟩ he
  refine ZK (Zgk (c__0,c__1)) (fun out_1=>(Zm [(1,.c (.iptr y7_ (c__0,c__1) 0)),(2,.c (.ptr 10001000 0)),(3,.c (.ptr 10001001 0))],[(10001000,.rc [.nil,.int .i64 (0:Int)]),(10001001,.rc [.nil,.int .i64 out_1])])) he ?_ ?_
  ·rintro out_1 he
   refine Zt (Zdq (c__0,c__1) out_1) (fun (i,out_0)=>(Zm [(2,.c (.ptr 10002000 0)),(3,.c (.ptr 10002001 0)),(15,.c (.imm y6_ (c__0,c__1).1)),(16,.c (.int .i64 ((c__0,c__1).1.length:Int))),(17,.c (.int .i64 i))],[(10002000,.rc [.nil,.int .i64 (0:Int)]),(10002001,.rc [.own 10002002 false,.int .i64 out_1]),(10002002,.sl 155 y6_ out_0 .shallow)])) he (Za [(10002000,10001000),(10002001,10001001)]) ?_
   rintro⟨i,out_0⟩ _ he
   refine Zg he (fun he=>?_) fun he=>?_
   ·refine ZK (Zgl (c__0,c__1) i out_0) (fun _=>(Zm [(2,.c (.ptr 10004000 0)),(3,.c (.ptr 10004001 0)),(5,.c (.iptr y6_ ((c__0,c__1).1.getD i.toNat (0,0)) 0)),(15,.c (.imm y6_ (c__0,c__1).1)),(16,.c (.int .i64 ((c__0,c__1).1.length:Int))),(17,.c (.int .i64 i))],[(10004000,.rc [.nil,.int .i64 (0:Int)]),(10004001,.rc [.own 10004002 false,.int .i64 out_1]),(10004002,.sl 155 y6_ out_0 .shallow)])) he ?_ ?_
    ·rintro⟨⟩ he
     refine Zh he fun he=>?_
     refine Zh he fun he=>?_
     refine Zh he fun he=>?_
     exact⟨_,(Zj he :),(Za [(10002000,10004000),(10002001,10004001),(10002002,30)])⟩
    ·skip
     refine Zh he fun he=>?_
     exact⟨_,he,(ZcA [(10004000,10002000),(10004001,10002001),(10004002,10002002)] rfl rfl ⟨⟨rfl,rfl,Y1⟩,⟨Y3,rfl,Y1⟩,Y2,Y1⟩ ⟨⟨Y2,rfl⟩,⟨Y2,rfl⟩,.inr ⟨5,rfl,⟨rfl,by repeat (first|exact trivial|refine And.intro trivial ?_)⟩,rfl⟩,.inl rfl,rfl,rfl,Y1⟩)⟩
   ·exact Zv [(2,[900])] (Zj he :) (Za [(900,10002000),(901,10002002)])
  ·skip
   refine And.intro (by kernel_rfl) ?_
   obtain⟨r2_,hq1,he⟩:=ZS he
   obtain⟨hq2,he⟩:=ZD he
   obtain⟨hq3,he⟩:=ZD he
   refine Y5 ?_ ?_
   ·skip
    refine⟨r2_,hq1,?_⟩
    refine And.intro hq2 ?_
    refine And.intro hq3 ?_
    refine Y5 ?_ ?_
    ·skip
     refine Y5 ?_ ?_
     ·skip
      exact ZBO
     ·skip
      exact ZBO
    ·skip
     refine Y4 ?_
     exact ZBO
   ·skip
    refine Y4 ?_
    refine⟨r2_,hq1,?_⟩
    refine And.intro hq2 ?_
    refine And.intro hq3 ?_
    refine Y4 ?_
    exact ZBO
 ·skip
  exact⟨_,he,(ZcA [(10000000,2)] rfl rfl ⟨⟨rfl,rfl,Y1⟩,Y1⟩ ⟨.inr ⟨1,rfl,⟨rfl,by repeat (first|exact trivial|refine And.intro trivial ?_)⟩,rfl⟩,⟨Y2,rfl⟩,Y1⟩)⟩
def ZqI:Con:=fun
  |[.c (.int .i64 l),.c (.imm (.int .i64) p)],[]=>.opt _ (Zq0 l p) (fun r=>.ret (.c (.int .i64 r)) [])
  |_,_=>.fail
def ZHR:Cfg:={ y:=tys,n:=19,h:=0,tab:=[] }
theorem ZAB:Zn Tryz.prog 258 ZqI:=by
 refine Zq (C:=ZHR) Tryz.f258 Zr fun _ a b k he=>?_
 unfold ZqI at he;split at he;rotate_left;exact he.elim
 rename_i l p
 refine Zs he fun he=>?_
 refine Zg he (fun he=>?_) fun he=>?_
 ·exact ZOh
 ·exact ZEP
def Zfv:Con:=fun
  |[.agg [.imm (.pair (.int .i64) (.int .i64)) c__0,.int .i64 c__1],.c (.imm (.int .i64) p)],[]=>.opt _ (ZeO (c__0,c__1) p) (fun r=>.ret (.c (.int .i64 r)) [])
  |_,_=>.fail
def ZvB:Cfg:={ y:=tys,n:=29,h:=0,tab:=[(258,ZqI)] }
theorem Zoy:Zn Tryz.prog 233 Zfv:=by
 refine Zq (C:=ZvB) Tryz.f233 (Zk ZAB Zr) fun _ a b k he=>?_
 unfold Zfv at he;split at he;rotate_left;exact he.elim
 rename_i c__0 c__1 p
 refine Zs he fun he=>?_
 refine Zh he fun he=>?_
 refine Zt (Ze7 (c__0,c__1) p) (fun (out,i)=>(Zm [(1,.c (.imm y0_ p)),(5,.c (.int .i64 out)),(12,.c (.imm y6_ (c__0,c__1).1)),(13,.c (.int .i64 ((c__0,c__1).1.length:Int))),(14,.c (.int .i64 i))],[])) he (Za []) ?_
 rintro⟨out,i⟩ _ he
 refine Zg he (fun he=>?_) fun he=>?_
 ·refine Zh he fun he=>?_
  refine Zi he fun r1_ he=>?_
  exact ZOq
 ·exact Zbf
def Zhb:Con:=fun
  |[.agg [.imm (.pair (.int .i64) (.int .i64)) c__0,.int .i64 c__1],.c (.imm (.int .i64) p)],[]=>.opt _ (Zds (c__0,c__1) p) (fun r=>.ret (.c (.own 900 false)) [(900,.sl 3 y0_ r .shallow)])
  |_,_=>.fail
def ZtT:Cfg:={ y:=tys,n:=37,h:=0,tab:=[(233,Zfv),(258,ZqI)] }
theorem Zt6:Zn Tryz.prog 234 Zhb:=by
 refine Zq (C:=ZtT) Tryz.f234 (Zk Zoy (Zk ZAB Zr)) fun _ a b k he=>?_
 unfold Zhb at he;split at he;rotate_left;exact he.elim
 rename_i c__0 c__1 p
 refine Zs he fun he=>?_
 refine Zi he fun r1_ he=>?_
 refine Zt (ZdH (c__0,c__1) p r1_) (fun (i,out)=>(Zm [(1,.c (.imm y0_ p)),(5,.c (.int .i64 r1_)),(6,.c (.own 10000000 false)),(13,.c (.imm y6_ (c__0,c__1).1)),(14,.c (.int .i64 ((c__0,c__1).1.length:Int))),(15,.c (.int .i64 i))],[(10000000,.sl 3 y0_ out .shallow)])) he (Za []) ?_
 rintro⟨i,out⟩ _ he
 refine Zg he (fun he=>?_) fun he=>?_
 ·refine Zh he fun he=>?_
  refine Zi he fun r3_ he=>?_
  refine Zg he (fun he=>?_) fun he=>?_
  ·refine Zg he (fun he=>?_) fun he=>?_
   ·refine Zh he fun he=>?_
    refine Zh he fun he=>?_
    exact⟨_,(Zj he :),(Za [(10000000,34)])⟩
   ·exact ZdC
  ·exact ZdC
 ·exact Zv [(4,[])] (Zj he :) (Za [(900,10000000)])
def ZpL:Con:=fun
  |[.c (.imm (.pair (.sl (.pair (.int .i64) (.int .i64))) (.int .i64)) list_),.c (.imm (.int .i64) p)],[]=>.opt _ (Zda list_ p) (fun r=>.ret (.tup [.c (.own 900 false),.c (.int .i64 r.1)]) [(900,.sl 3 y0_ r.2 .shallow)])
  |_,_=>.fail
def ZCD:Cfg:={ y:=tys,n:=50,h:=0,tab:=[(75,Zd1),(233,Zfv),(234,Zhb)] }
theorem ZCW:Zn Tryz.prog 171 ZpL:=by
 refine Zq (C:=ZCD) Tryz.f171 (Zk Zgr (Zk Zoy (Zk Zt6 Zr))) fun _ a b k he=>?_
 unfold ZpL at he;split at he;rotate_left;exact he.elim
 rename_i list_ p
 refine Zs he fun he=>?_
 refine Zi he fun r1_ he=>?_
 refine Zt (Zfp list_) (fun (made,out3)=>(Zm [(0,.c (.imm y7_ list_)),(6,.c (.own 10000000 false)),(7,.c (.bool made))],[(10000000,.sl 3 y0_ out3 .shallow)])) he (Za [(10000000,14900)]) ?_
 rintro⟨made,out3⟩ _ he
 refine Zg he (fun he=>?_) fun he=>?_
 ·refine Zt (Zc1 list_) (fun (made4,i3,out5)=>(Zm [(0,.c (.imm y7_ list_)),(6,.c (.own 10004000 false)),(7,.c (.bool made4)),(15,.c (.imm y7_ list_)),(16,.c (.int .i64 (list_.length:Int))),(17,.c (.int .i64 i3))],[(10004000,.sl 3 y0_ out5 .shallow)])) he (Za [(10004000,10000000)]) ?_
  rintro⟨made4,i3,out5⟩ _ he
  refine Zg he (fun he=>?_) fun he=>?_
  ·refine Zh he fun he=>?_
   refine Zi he fun r8_ he=>?_
   refine Zg he (fun he=>?_) fun he=>?_
   ·exact Zv [(4,[]),(5,[])] (Zj he :) (Za [(900,10004000)])
   ·refine Zi he fun r9_ he=>?_
    refine Zt (Zem i3 r9_) (fun (made6,i5,out6)=>(Zm [(0,.c (.imm y7_ list_)),(6,.c (.own 10006000 false)),(7,.c (.bool made6)),(15,.c (.imm y7_ list_)),(16,.c (.int .i64 (list_.length:Int))),(17,.c (.int .i64 i3)),(30,.c (.own 10006001 false)),(31,.c (.int .i64 (r9_.length:Int))),(32,.c (.int .i64 i5))],[(10006000,.sl 3 y0_ out6 .shallow),(10006001,.sl 3 y0_ r9_ .shallow)])) he (Za [(10006000,10004000),(10006001,31900)]) ?_
    rintro⟨made6,i5,out6⟩ _ he
    refine Zg he (fun he=>?_) fun he=>?_
    ·refine Zh he fun he=>?_
     refine Zg he (fun he=>?_) fun he=>?_
     ·exact Zvu
     ·exact Zvv
    ·refine Zh he fun he=>?_
     exact⟨_,(Zj he :),(Za [(10004000,10006000)])⟩
  ·exact⟨_,(Zj he :),(Za [(10000000,10004000)])⟩
 ·exact Zv [(4,[]),(5,[])] (Zj he :) (Za [(900,10000000)])
def Zym:Con:=fun
  |[.c (.imm (.pair (.sl (.pair (.int .i64) (.int .i64))) (.int .i64)) list_),.agg [.imm (.pair (.int .i64) (.int .i64)) c__0,.int .i64 c__1]],[]=>.opt _ (ZyB list_ (c__0,c__1)) (fun r=>.ret (.c (.bool r)) [])
  |_,_=>.fail
def Zzc:Sched:=.alt 7 (Zy [8,9,10,11,12] .done) .stop
def Zzd:Sched:=.alt 5 Zzc .stop
def Zze:Sched:=.alt 4 Zzd .stop
def Ztb:Sched:=.alt 3 Zze .stop
def Zzf:Sched:=.alt 3 (.alt 4 (.alt 5 (.alt 6 Zzc .stop) (.alt 6 Zzd .stop)) (.alt 6 Zze .stop)) (.alt 6 Ztb .stop)
def Zzg:Sched:=.alt 2 Ztb .stop
def Zzh:Sched:=.alt 1 Ztb .stop
def ZL4:Cfg:={ y:=tys,n:=20,h:=0,tab:=[(61,ZcJ),(171,ZpL),(294,ZgP)],cut:=[2],sched:=[(1,(.first 0 (.alt 1 (.alt 2 Zzf (.alt 6 Zzg .stop)) (.alt 2 (.alt 1 Zzf (.alt 6 Zzh .stop)) (.alt 6 (.alt 1 Zzg (.alt 2 Zzh .stop)) .stop)))))] }
theorem ZFY {P:Prop} (h:P:=by
  refine Y4 ?_
  refine⟨r6_,hq5,?_⟩
  exact⟨_,he,(Za [])⟩):P:=h
theorem ZLt {P:Prop} (h:P:=by
  refine Y4 ?_
  refine Y4 ?_
  refine And.intro hq3 ?_
  exact ZFY):P:=h
theorem Zx0 {P:Prop} (h:P:=by
  refine Y4 ?_
  refine⟨r5_,hq2,?_⟩
  exact ZLt):P:=h
theorem ZLu {P:Prop} (h:P:=by
  refine Y5 ?_ ?_
  ·skip
   refine⟨r5_,hq2,?_⟩
   refine Y5 ?_ ?_
   ·skip
    refine Y5 ?_ ?_
    ·skip
     refine And.intro hq3 ?_
     refine Y4 ?_
     refine And.intro hq4 ?_
     exact ZFY
    ·skip
     refine And.intro hq4 ?_
     refine Y4 ?_
     refine And.intro hq3 ?_
     exact ZFY
   ·skip
    refine And.intro hq4 ?_
    exact ZLt
  ·skip
   refine And.intro hq4 ?_
   exact Zx0):P:=h
theorem ZMm:Zn Tryz.prog 267 Zym:=by
 refine Zq (C:=ZL4) Tryz.f267 (Zk Zfd (Zk ZCW (Zk Ztq Zr))) fun _ a b k he=>?_
 unfold Zym at he;split at he;rotate_left;exact he.elim
 rename_i list_ c__0 c__1
 refine Zs he fun he=>?_
 refine ZK (Zw0) (fun i=>(Zm [(6,.c (.int .i64 i))],[])) he ?_ ?_
 ·rintro i he
  exact Zbf
 ·skip
  refine And.intro (by kernel_rfl) ?_
  obtain⟨r4_,hq1,he⟩:=ZS he
  obtain⟨r5_,hq2,he⟩:=ZS he
  obtain⟨hq3,he⟩:=ZD he
  obtain⟨hq4,he⟩:=ZD he
  obtain⟨r6_,hq5,he⟩:=ZS he
  refine And.intro ?_ (And.intro ?_ (And.intro ?_ (Y1)))
  ·skip
   refine⟨r4_,hq1,?_⟩
   refine Y5 ?_ ?_
   ·skip
    exact ZLu
   ·skip
    refine And.intro hq4 ?_
    refine Y4 ?_
    exact Zx0
  ·skip
   refine Y5 ?_ ?_
   ·skip
    refine⟨r4_,hq1,?_⟩
    exact ZLu
   ·skip
    refine And.intro hq4 ?_
    refine Y4 ?_
    refine⟨r4_,hq1,?_⟩
    exact Zx0
  ·skip
   refine And.intro hq4 ?_
   refine Y5 ?_ ?_
   ·skip
    refine⟨r4_,hq1,?_⟩
    refine Y4 ?_
    exact Zx0
   ·skip
    refine Y4 ?_
    refine⟨r4_,hq1,?_⟩
    exact Zx0
def Zmx:Con:=fun
  |[.c (.ptr 0 0),.agg [.int .i64 a1_0,.int .i64 a1_1,.int .i64 a1_2,.imm (.pair (.int .i64) (.int .i64)) a1_3,.int .i64 a1_4]],[(0,.rc [.own 1 false,.own 2 false]),(1,.sl 89 (.pair (.sl (.pair (.int .i64) (.int .i64))) (.int .i64)) o1 .shallow),(2,.sl 4 .bool o2 .shallow)]=>.opt _ (ZeB (a1_0,(a1_1,(a1_2,(a1_3,a1_4)))) o1 o2) (fun r=>.ret (.c (.bool r.1)) [(0,.rc [.own 900 false,.own 901 false]),(1,.dead),(2,.dead),(900,.sl 89 y7_ r.2.1 .shallow),(901,.sl 4 .bool r.2.2 .shallow)])
  |_,_=>.fail
def Zk2:Sched:=.alt 16 (Zy [17,18,19] (.alt 20 (.first 21 .done) .stop)) .stop
def Zk3:Sched:=.alt 15 Zk2 .stop
def Zk4:Sched:=.alt 7 Zk2 .stop
def Zk5:Sched:=.alt 7 Zk3 (.alt 15 Zk4 .stop)
def Zga:Sched:=Zy [0,1,2,4,5,8,9] (.alt 3 (.first 6 (.alt 7 (.alt 10 (Zy [11,12,13] (.alt 14 (.first 15 .done) .stop)) .stop) .stop)) .stop)
def Zk6:Sched:=.first 11 (.alt 12 (.first 13 .done) .stop)
def Zgb:Sched:=.alt 14 (Zy [15,16] (.alt 17 (Zy [18,19] (.alt 20 .done .stop)) .stop)) .stop
def Zk7:Sched:=.alt 13 Zgb .stop
def Zk8:Sched:=.alt 12 Zgb .stop
def Zed:Sched:=.alt 8 Zgb .stop
def ZfQ:Sched:=.alt 8 Zk7 (.alt 13 Zed .stop)
def ZfR:Sched:=.alt 8 Zk8 (.alt 12 Zed .stop)
def Zkg:Sched:=.alt 8 (.alt 12 Zk7 (.alt 13 Zk8 .stop)) (.alt 12 ZfQ (.alt 13 ZfR .stop))
def ZfS:Sched:=.alt 7 Zed .stop
def Zkh:Sched:=.alt 7 ZfQ (.alt 13 ZfS .stop)
def Zki:Sched:=.alt 7 ZfR (.alt 12 ZfS .stop)
def ZfT:Sched:=.alt 5 Zed .stop
def Zkj:Sched:=.alt 5 ZfQ (.alt 13 ZfT .stop)
def Zkk:Sched:=.alt 5 ZfR (.alt 12 ZfT .stop)
def Zkl:Sched:=.alt 5 ZfS (.alt 7 ZfT .stop)
def Zzz:Cfg:={ y:=tys,n:=177,h:=3,tab:=[(155,Zpk),(223,Zbc),(259,Zno),(260,ZiU),(261,Zkw),(262,Zhd),(263,ZiR),(264,Zhe),(265,ZiT),(266,Zms),(267,Zym),(268,ZhQ)],cut:=[1,4,24,25],sched:=[(8,(Zy [0,1,2,4,5] (.alt 3 (.first 6 (.alt 7 .done .stop)) .stop))),(11,(Zy [0,1,2,4,5,8,9,10,12,13] (.alt 3 (.first 6 (.alt 7 (.alt 11 (.first 14 Zk3) .stop) (.alt 11 (.first 14 Zk5) .stop))) (.alt 11 (.first 14 (.alt 3 (.first 6 Zk5) (.alt 15 (.alt 3 (.first 6 Zk4) .stop) .stop))) .stop)))),(13,Zga),(15,Zga),(17,(Zy [0,1,2,4,5] (.alt 3 (.first 6 (.alt 7 (.alt 8 (Zy [9,10] Zk6) .stop) .stop)) .stop))),(19,Zga),(23,(Zy [0,1,2,3] (.alt 4 (Zy [5,6,8,9] (.alt 7 (.alt 10 Zk6 .stop) .stop)) .stop))),(24,(Zy [0,1,2,3,4,6,9,10,11] (.alt 5 (.alt 7 Zkg (.alt 12 Zkh (.alt 13 Zki .stop))) (.alt 7 (.alt 5 Zkg (.alt 12 Zkj (.alt 13 Zkk .stop))) (.alt 12 (.alt 5 Zkh (.alt 7 Zkj (.alt 13 Zkl .stop))) (.alt 13 (.alt 5 Zki (.alt 7 Zkk (.alt 12 Zkl .stop))) .stop))))))] }
theorem Zx1 {P:Prop} (h:P:=by
  refine Y4 ?_
  refine And.intro hq2 ?_
  refine Y4 ?_
  refine Y4 ?_
  exact⟨_,he,(Za [(10003000,165),(10003001,171)])⟩):P:=h
theorem ZFZ {P:Prop} (h:P:=by
  skip
  refine Y5 ?_ ?_
  ·skip
   refine And.intro hq1 ?_
   refine Y4 ?_
   exact Zx1
  ·skip
   refine Y4 ?_
   refine And.intro hq1 ?_
   exact Zx1):P:=h
theorem ZF0 {P:Prop} (h:P:=by
  skip
  refine Y4 ?_
  refine Y4 ?_
  refine And.intro hq1 ?_
  exact Zx1):P:=h
theorem ZBP {P:Prop} (h:P:=by
  skip
  refine Y5 ?_ ?_
  ·exact ZFZ
  ·exact ZF0):P:=h
theorem ZLv {P:Prop} (h:P:=by
  skip
  refine And.intro ?_ (And.intro ?_ (And.intro ?_ (Y1)))
  ·skip
   refine And.intro ?_ (And.intro ?_ (And.intro ?_ (Y1)))
   ·skip
    refine And.intro hq1 ?_
    refine Y5 ?_ ?_
    ·skip
     refine Y4 ?_
     exact Zx1
    ·skip
     refine Y4 ?_
     exact Zx1
   ·exact ZFZ
   ·exact ZFZ
  ·exact ZBP
  ·exact ZBP):P:=h
theorem ZLw {P:Prop} (h:P:=by
  skip
  refine And.intro ?_ (And.intro ?_ (And.intro ?_ (Y1)))
  ·exact ZBP
  ·exact ZBP
  ·skip
   refine Y5 ?_ ?_
   ·exact ZF0
   ·exact ZF0):P:=h
theorem ZBQ {P:Prop} (h:P:=by
  exact Zv [(4,[])] (Zj he :) (Za [(900,1),(901,2)])):P:=h
theorem ZBR {P:Prop} (h:P:=by
  refine Y4 ?_
  refine Y4 ?_
  refine⟨r7_,hq3,?_⟩
  refine Y4 ?_
  exact⟨_,he,((Zh2 [71901]).trans (ZcA [] (l:=[(0,.c (.ptr 0 0)),(7,.c (.iptr y7_ (r7_.2.2,r7_.2.1) 0)),(8,.c (.bool r7_.1))]) (st':=[(0,.rc [.own 1 false,.own 2 false]),(1,.sl 89 y7_ o1 .shallow),(2,.sl 4 .bool o2 .shallow)]) rfl rfl ⟨⟨Y3,Y3,Y1⟩,Y2,Y2,Y1⟩ ⟨⟨Y2,rfl⟩,.inr ⟨7,rfl,⟨rfl,by repeat (first|exact trivial|refine And.intro trivial ?_)⟩,rfl⟩,.inl rfl,Y1⟩))⟩):P:=h
theorem ZLx {P:Prop} (h:P:=by
  refine Y5 ?_ ?_
  ·skip
   exact ZBR
  ·skip
   exact ZBR):P:=h
theorem ZF1 {P:Prop} (h:P:=by
  refine Y4 ?_
  exact⟨_,he,(ZcA [] rfl rfl ⟨⟨Y3,Y3,Y1⟩,Y2,Y2,Y1⟩ ⟨⟨Y2,rfl⟩,.inr ⟨7,rfl,⟨rfl,by repeat (first|exact trivial|refine And.intro trivial ?_)⟩,rfl⟩,.inl rfl,Y1⟩)⟩):P:=h
theorem ZLy {P:Prop} (h:P:=by
  exact⟨_,he,(ZcA [] rfl rfl ⟨⟨Y3,Y3,Y1⟩,Y2,Y2,Y1⟩ ⟨⟨Y2,rfl⟩,.inr ⟨7,rfl,⟨rfl,by repeat (first|exact trivial|refine And.intro trivial ?_)⟩,rfl⟩,.inr rfl,Y1⟩)⟩):P:=h
theorem ZLz {P:Prop} (h:P:=by
  refine Zg he (fun he=>?_) fun he=>?_
  ·exact ZBQ
  ·exact⟨_,he,(Za [])⟩):P:=h
theorem ZzP:Zn Tryz.prog 235 Zmx:=by
 refine Zq (C:=Zzz) Tryz.f235 (Zk Zzk (Zk ZbC (Zk ZAy (Zk ZvU (Zk Zxv (Zk Zt8 (Zk ZvR (Zk Zt9 (Zk ZvT (Zk ZzK (Zk ZMm (Zk Zu7 Zr)))))))))))) fun _ a b k he=>?_
 unfold Zmx at he;split at he;rotate_left;exact he.elim
 rename_i a1_0 a1_1 a1_2 a1_3 a1_4 o1 o2
 refine Zs he fun he=>?_
 refine ZK (Zhj (a1_0,(a1_1,(a1_2,(a1_3,a1_4)))) o1 o2) (fun _=>(Zm [(0,.c (.ptr 0 0)),(3,.c (.iptr Zdg (a1_0,(a1_1,(a1_2,(a1_3,a1_4)))) 0))],[(0,.rc [.own 1 false,.own 2 false]),(1,.sl 89 y7_ o1 .shallow),(2,.sl 4 .bool o2 .shallow)])) he ?_ ?_
 ·rintro⟨⟩ he
  refine Zi he fun r1_ he=>?_
  refine ZK (ZbR (a1_0,(a1_1,(a1_2,(a1_3,a1_4)))) o1 o2) (fun _=>(Zm [(0,.c (.ptr 0 0)),(3,.c (.iptr Zdg (a1_0,(a1_1,(a1_2,(a1_3,a1_4)))) 0))],[(0,.rc [.own 1 false,.own 2 false]),(1,.sl 89 y7_ o1 .shallow),(2,.sl 4 .bool o2 .shallow)])) he ?_ ?_
  ·rintro⟨⟩ he
   refine ZK (ZU o1 o2) (fun (i,i1)=>(Zm [(0,.c (.ptr 0 0)),(7,.c (.iptr y7_ i 0)),(8,.c (.bool i1))],[(0,.rc [.own 1 false,.own 2 false]),(1,.sl 89 y7_ o1 .shallow),(2,.sl 4 .bool o2 .shallow)])) he ?_ ?_
   ·rintro⟨i,i1⟩ he
    refine ZK (Zhk o1 o2 i i1) (fun _=>(Zm [(8,.c (.bool i1))],[(0,.rc [.own 10003000 false,.own 10003001 false]),(1,.dead),(2,.dead),(10003000,.sl 89 y7_ (o1++[i]) .shallow),(10003001,.sl 4 .bool (o2++[false]) .shallow)])) he ?_ ?_
    ·rintro⟨⟩ he
     exact Zv [(4,[])] (Zj he :) (Za [(900,10003000),(901,10003001)])
    ·skip
     refine And.intro (by kernel_rfl) ?_
     obtain⟨hq1,he⟩:=ZD he
     obtain⟨hq2,he⟩:=ZD he
     refine And.intro ?_ (And.intro ?_ (And.intro ?_ (And.intro ?_ (Y1))))
     ·exact ZLv
     ·exact ZLv
     ·exact ZLw
     ·exact ZLw
   ·skip
    refine Zg he (fun he=>?_) fun he=>?_
    ·refine And.intro (by kernel_rfl) ?_
     refine Y4 ?_
     refine Zh he fun he=>?_
     refine Y4 ?_
     exact ZBQ
    ·refine Zg he (fun he=>?_) fun he=>?_
     ·refine And.intro (by kernel_rfl) ?_
      obtain⟨hq1,he⟩:=ZD he
      obtain⟨hq2,he⟩:=ZD he
      obtain⟨r7_,hq3,he⟩:=ZS he
      refine Y5 ?_ ?_
      ·skip
       refine And.intro hq1 ?_
       refine Y5 ?_ ?_
       ·skip
        refine Y4 ?_
        refine And.intro hq2 ?_
        exact ZBR
       ·skip
        refine And.intro hq2 ?_
        exact ZLx
      ·skip
       refine And.intro hq2 ?_
       refine Y5 ?_ ?_
       ·skip
        refine And.intro hq1 ?_
        exact ZLx
       ·skip
        refine Y4 ?_
        refine And.intro hq1 ?_
        exact ZBR
     ·refine Zg he (fun he=>?_) fun he=>?_
      ·refine And.intro (by kernel_rfl) ?_
       refine Y4 ?_
       refine Zh he fun he=>?_
       refine Y4 ?_
       refine Y4 ?_
       refine Zi he fun r9_ he=>?_
       exact ZF1
      ·refine Zg he (fun he=>?_) fun he=>?_
       ·refine And.intro (by kernel_rfl) ?_
        refine Y4 ?_
        refine Zh he fun he=>?_
        refine Y4 ?_
        refine Y4 ?_
        refine Zi he fun r11_ he=>?_
        exact ZF1
       ·refine Zg he (fun he=>?_) fun he=>?_
        ·refine And.intro (by kernel_rfl) ?_
         refine Y4 ?_
         refine Zh he fun he=>?_
         refine Y4 ?_
         refine Y4 ?_
         refine Zi he fun r13_ he=>?_
         refine Y4 ?_
         exact⟨_,he,((Zh2 [117901]).trans (ZcA [] (l:=[(0,.c (.ptr 0 0)),(7,.c (.iptr y7_ (r13_.2.2,r13_.2.1) 0)),(8,.c (.bool r13_.1))]) (st':=[(0,.rc [.own 1 false,.own 2 false]),(1,.sl 89 y7_ o1 .shallow),(2,.sl 4 .bool o2 .shallow)]) rfl rfl ⟨⟨Y3,Y3,Y1⟩,Y2,Y2,Y1⟩ ⟨⟨Y2,rfl⟩,.inr ⟨7,rfl,⟨rfl,by repeat (first|exact trivial|refine And.intro trivial ?_)⟩,rfl⟩,.inl rfl,Y1⟩))⟩
        ·refine Zg he (fun he=>?_) fun he=>?_
         ·refine And.intro (by kernel_rfl) ?_
          refine Y4 ?_
          refine Zh he fun he=>?_
          refine Y4 ?_
          refine Y4 ?_
          refine Zi he fun r15_ he=>?_
          refine Y4 ?_
          exact⟨_,he,((Zh2 [133901]).trans (ZcA [] (l:=[(0,.c (.ptr 0 0)),(7,.c (.iptr y7_ (r15_.2.2,r15_.2.1) 0)),(8,.c (.bool r15_.1))]) (st':=[(0,.rc [.own 1 false,.own 2 false]),(1,.sl 89 y7_ o1 .shallow),(2,.sl 4 .bool o2 .shallow)]) rfl rfl ⟨⟨Y3,Y3,Y1⟩,Y2,Y2,Y1⟩ ⟨⟨Y2,rfl⟩,.inr ⟨7,rfl,⟨rfl,by repeat (first|exact trivial|refine And.intro trivial ?_)⟩,rfl⟩,.inl rfl,Y1⟩))⟩
         ·refine Zg he (fun he=>?_) fun he=>?_
          ·refine Zi he fun r16_ he=>?_
           exact⟨_,he,((Zh2 [141901]).trans (ZcA [] (l:=[(0,.c (.ptr 0 0)),(7,.c (.iptr y7_ (r16_.2.2,r16_.2.1) 0)),(8,.c (.bool r16_.1))]) (st':=[(0,.rc [.own 1 false,.own 2 false]),(1,.sl 89 y7_ o1 .shallow),(2,.sl 4 .bool o2 .shallow)]) rfl rfl ⟨⟨Y3,Y3,Y1⟩,Y2,Y2,Y1⟩ ⟨⟨Y2,rfl⟩,.inr ⟨7,rfl,⟨rfl,by repeat (first|exact trivial|refine And.intro trivial ?_)⟩,rfl⟩,.inl rfl,Y1⟩))⟩
          ·refine Zg he (fun he=>?_) fun he=>?_
           ·refine And.intro (by kernel_rfl) ?_
            refine Y4 ?_
            refine Zi he fun r20_ he=>?_
            refine Zg he (fun he=>?_) fun he=>?_
            ·refine Y4 ?_
             refine Zi he fun r21_ he=>?_
             refine Y4 ?_
             refine Zi he fun r22_ he=>?_
             exact ZF1
            ·refine Y4 ?_
             refine Y4 ?_
             refine Y4 ?_
             exact ZLy
           ·exact ZLy
  ·skip
   refine Zi he fun r2_ he=>?_
   refine ZC he (fun he=>?_) fun he=>?_
   ·refine Zg he (fun he=>?_) fun he=>?_
    ·refine Zi he fun r3_ he=>?_
     refine ZC he (fun he=>?_) fun he=>?_
     ·refine Zg he (fun he=>?_) fun he=>?_
      ·refine Zi he fun r4_ he=>?_
       exact ZLz
      ·exact⟨_,he,(Za [])⟩
     ·exact ZBQ
    ·refine Zg he (fun he=>?_) fun he=>?_
     ·refine Zi he fun r5_ he=>?_
      exact ZLz
     ·exact⟨_,he,(Za [])⟩
   ·exact ZBQ
 ·skip
  exact⟨_,he,(ZcA [] rfl rfl ⟨⟨Y3,Y3,Y1⟩,Y2,Y2,Y1⟩ ⟨⟨Y2,rfl⟩,.inr ⟨3,rfl,⟨rfl,by repeat (first|exact trivial|refine And.intro trivial ?_)⟩,rfl⟩,Y1⟩)⟩
def Zyl:Con:=fun
  |[.c (.imm (.pair (.sl (.pair (.int .i64) (.int .i64))) (.int .i64)) list_),.c (.imm (.pair (.int .i64) (.pair (.int .i64) (.pair (.int .i64) (.pair (.sl (.pair (.int .i64) (.int .i64))) (.int .i64))))) steps)],[]=>.opt _ (ZyA list_ steps) (fun r=>.ite r.1 (.ret (.tup [.c (.ptr 900 0),.c (.int .i64 r.2.1)]) [(900,.rc [.own 901 false,.own 902 false]),(901,.sl 89 y7_ r.2.2.1 .shallow),(902,.sl 4 .bool r.2.2.2.1 .shallow)]) (.ret (.tup [.c (.undef),.c (.int .i64 r.2.2.2.2)]) []))
  |_,_=>.fail
def Zzb:Sched:=.alt 5 (.alt 6 (.first 7 .done) .stop) .stop
def ZL3:Cfg:={ y:=tys,n:=38,h:=0,tab:=[(61,ZcJ),(98,Zmv),(235,Zmx)],cut:=[4],sched:=[(3,(Zy [0,2,3] (.alt 1 (.alt 4 Zzb .stop) (.alt 4 (.alt 1 Zzb .stop) .stop))))] }
theorem ZF2 {P:Prop} (h:P:=by
  have he:=Zj he
  have he:=he.2 rfl
  exact⟨rfl,_,_,Leads.refl _ _,he⟩):P:=h
theorem ZLA {P:Prop} (h:P:=by
  refine Y4 ?_
  refine Y4 ?_
  exact⟨_,he,(Za [(10000000,23),(10000001,19900),(10000002,21)])⟩):P:=h
theorem ZMl:Zn Tryz.prog 174 Zyl:=by
 refine Zq (C:=ZL3) Tryz.f174 (Zk Zfd (Zk ZzN (Zk ZzP Zr))) fun _ a b k he=>?_
 unfold Zyl at he;split at he;rotate_left;exact he.elim
 rename_i list_ steps
 refine ZPm he fun he=>?_
 refine Zi he fun r1_ he=>?_
 refine ZC he (fun he=>?_) fun he=>?_
 ·refine Zg he (fun he=>?_) fun he=>?_
  ·exact ZF2
  ·refine ZK (ZwZ list_ steps) (fun r_0=>(Zm [(1,.c (.imm Zdg steps)),(6,.c (.ptr 10000000 0))],[(10000000,.rc [.own 10000001 false,.own 10000002 false]),(10000001,.sl 89 y7_ r_0 .shallow),(10000002,.sl 4 .bool (List.replicate (list_.length:Int).toNat false) .shallow)])) he ?_ ?_
   ·rintro r_0 he
    refine Zt (Zr2 steps) (fun (i,r_01,r_1)=>(Zm [(6,.c (.ptr 10001000 0)),(24,.c (.imm Zdg steps)),(25,.c (.int .i64 (steps.length:Int))),(26,.c (.int .i64 i))],[(10001000,.rc [.own 10001001 false,.own 10001002 false]),(10001001,.sl 89 y7_ r_01 .shallow),(10001002,.sl 4 .bool r_1 .shallow)])) he (Za [(10001000,10000000),(10001001,10000001),(10001002,10000002)]) ?_
    rintro⟨i,r_01,r_1⟩ _ he
    refine Zg he (fun he=>?_) fun he=>?_
    ·refine Zh he fun he=>?_
     refine Zi he fun r5_ he=>?_
     refine Zg he (fun he=>?_) fun he=>?_
     ·have he:=Zj he
      have he:=he.2 rfl
      exact⟨rfl,_,_,(Za [] (l:=[(4,.c (.undef)),(5,.c (.int .i64 i))]) (st':=[])),he⟩
     ·refine Zh he fun he=>?_
      exact⟨_,(Zj he :),(Za [(10001001,34900),(10001002,34901)])⟩
    ·have he:=Zj he
     have he:=he.1 rfl
     exact⟨rfl,_,_,(Za [(900,10001000),(901,10001001),(902,10001002)] (l:=[(4,.c (.ptr 900 0)),(5,.c (.int .i64 (-1:Int)))]) (st':=[(900,.rc [.own 901 false,.own 902 false]),(901,.sl 89 y7_ r_01 .shallow),(902,.sl 4 .bool r_1 .shallow)])),he⟩
   ·skip
    refine And.intro (by kernel_rfl) ?_
    obtain⟨r3_,hq1,he⟩:=ZS he
    obtain⟨hq2,he⟩:=ZD he
    refine Y5 ?_ ?_
    ·skip
     refine⟨r3_,hq1,?_⟩
     refine Y4 ?_
     refine And.intro hq2 ?_
     exact ZLA
    ·skip
     refine And.intro hq2 ?_
     refine Y4 ?_
     refine⟨r3_,hq1,?_⟩
     exact ZLA
 ·exact ZF2
end
end Go.AE.Y
