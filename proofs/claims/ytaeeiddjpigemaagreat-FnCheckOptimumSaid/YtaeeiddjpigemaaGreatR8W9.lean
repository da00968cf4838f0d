/-
  Walks: each function keeps the contract that its model gives. No conditions.
-/
import Derived.Test.YtaeeiddjpigemaaGreatR8Tab
import Derived.Test.YtaeeiddjpigemaaGreatR8W8
import Derived.Test.YtaeeiddjpigemaaGreatR8S
namespace Go.AE.Y
open Go Go.AE Go.Proofs
set_option linter.unusedVariables false
set_option maxHeartbeats 2000000
set_option maxRecDepth 100000
noncomputable section
def ZiW:Con:=fun
  |[.agg [.imm (.pair (.int .i64) (.int .i64)) c__0,.int .i64 c__1],.c (.int .i64 k_)],[]=>.opt _ (ZgG (c__0,c__1) k_) (fun r=>.ret (.tup [.agg [.own 901 false,.int .i64 r.2.1],.c (.bool r.1)]) [(900,.rc [.own 901 false,.int .i64 r.2.1]),(901,.sl 155 y6_ r.2.2 .shallow)])
  |_,_=>.fail
def Zl5:Sched:=.alt 18 (.first 19 (.alt 20 .done .stop)) .stop
def Zl6:Sched:=.alt 17 Zl5 .stop
def Zl7:Sched:=.alt 16 Zl6 .stop
def ZvK:Cfg:={ y:=tys,n:=53,h:=0,tab:=[(168,Zbd),(254,ZwW)],cut:=[1],sched:=[(7,(Zy [0,2,3,4,5,6,7,8,10,11,12,13,14,15] (.alt 1 (.alt 9 Zl7 .stop) (.alt 9 (.alt 1 Zl7 (.alt 16 (.alt 1 Zl6 (.alt 17 (.alt 1 Zl5 .stop) .stop)) .stop)) .stop))))] }
theorem ZBX {P:Prop} (h:P:=by
  refine Y4 ?_
  refine Y4 ?_
  refine And.intro hq2 ?_
  refine Y4 ?_
  refine Zh he fun he=>?_
  exact⟨_,(Zj he :),(Za [(10001002,50)])⟩):P:=h
theorem ZvW:Zn Tryz.prog 213 ZiW:=by
 refine Zq (C:=ZvK) Tryz.f213 (Zk ZbD (Zk ZKf Zr)) fun _ a b k he=>?_
 unfold ZiW at he;split at he;rotate_left;exact he.elim
 rename_i c__0 c__1 k_
 refine Zs he fun he=>?_
 refine ZK (Zh7 (c__0,c__1) k_) (fun _=>(Zm [(1,.c (.int .i64 k_)),(2,.c (.iptr y7_ (c__0,c__1) 0)),(4,.c (.ptr 10000000 0))],[(10000000,.rc [.nil,.int .i64 (0:Int)])])) he ?_ ?_
 ·rintro⟨⟩ he
  refine Zi he fun r1_ he=>?_
  refine ZC he (fun he=>?_) fun he=>?_
  ·refine ZC he (fun he=>?_) fun he=>?_
   ·refine Zg he (fun he=>?_) fun he=>?_
    ·exact ZrX
    ·refine Zi he fun r2_ he=>?_
     refine Zt (Zd9 (c__0,c__1) k_ r2_) (fun (i,out_0)=>(Zm [(1,.c (.int .i64 k_)),(2,.c (.iptr y7_ (c__0,c__1) 0)),(4,.c (.ptr 10001000 0)),(6,.c (.ptr 10001001 0)),(7,.c (.int .i64 i))],[(10001000,.rc [.nil,.int .i64 (0:Int)]),(10001001,.rc [.own 10001002 false,.int .i64 r2_]),(10001002,.sl 155 y6_ out_0 .shallow)])) he (Za [(10001000,10000000),(10001001,6)]) ?_
     rintro⟨i,out_0⟩ _ he
     refine Zg he (fun he=>?_) fun he=>?_
     ·refine And.intro (by kernel_rfl) ?_
      refine Zh he fun he=>?_
      refine Zh he fun he=>?_
      obtain⟨r5_,hq1,he⟩:=ZS he
      obtain⟨hq2,he⟩:=ZD he
      refine Y5 ?_ ?_
      ·skip
       refine Y4 ?_
       refine⟨r5_,hq1,?_⟩
       refine Y4 ?_
       exact ZBX
      ·skip
       refine⟨r5_,hq1,?_⟩
       refine Y5 ?_ ?_
       ·skip
        refine Y4 ?_
        exact ZBX
       ·skip
        refine Y5 ?_ ?_
        ·skip
         exact ZBX
        ·skip
         exact ZBX
     ·exact ZBV
   ·exact ZrX
  ·exact ZrX
 ·skip
  exact⟨_,he,(ZcA [(10000000,4)] rfl rfl ⟨⟨rfl,rfl,Y1⟩,Y1⟩ ⟨rfl,.inr ⟨2,rfl,⟨rfl,by repeat (first|exact trivial|refine And.intro trivial ?_)⟩,rfl⟩,⟨Y2,rfl⟩,Y1⟩)⟩
def ZoF:Con:=fun
  |[.agg [.imm (.pair (.int .i64) (.int .i64)) c__0,.int .i64 c__1]],[]=>.opt _ (Zm3 (c__0,c__1)) (fun r=>.ret (.agg [.own 901 false,.int .i64 r.1]) [(900,.rc [.own 901 false,.int .i64 r.1]),(901,.sl 155 y6_ r.2 .shallow)])
  |_,_=>.fail
def ZCb:Cfg:={ y:=tys,n:=41,h:=0,tab:=[],cut:=[8] }
theorem ZLO {P:Prop} (h:P:=by
  exact⟨_,he,(Za [(10002000,10000000),(10002001,10000001),(10002002,10000002),(10002003,5),(10002004,10000003)])⟩):P:=h
theorem ZCh:Zn Tryz.prog 255 ZoF:=by
 refine Zq (C:=ZCb) Tryz.f255 Zr fun _ a b k he=>?_
 unfold ZoF at he;split at he;rotate_left;exact he.elim
 rename_i c__0 c__1
 refine Zs he fun he=>?_
 refine Zt (ZeU (c__0,c__1)) (fun (i,out_0)=>(Zm [(1,.c (.ptr 10000000 0)),(2,.c (.ptr 10000001 0)),(3,.c (.ptr 10000002 0)),(4,.c (.int .i64 i))],[(10000000,.rc [.imm y6_ (c__0,c__1).1,.int .i64 (c__0,c__1).2]),(10000001,.rc [.nil,.int .i64 (0:Int)]),(10000002,.rc [.own 10000003 false,.int .i64 (c__0,c__1).2]),(10000003,.sl 155 y6_ out_0 .shallow)])) he (Za [(10000000,1),(10000001,2),(10000002,3)]) ?_
 rintro⟨i,out_0⟩ _ he
 refine Zg he (fun he=>?_) fun he=>?_
 ·refine Zg he (fun he=>?_) fun he=>?_
  ·refine Zh he fun he=>?_
   refine ZK (ZjB i out_0) (fun t_1=>(Zm [(1,.c (.ptr 10002000 0)),(2,.c (.ptr 10002001 0)),(3,.c (.ptr 10002002 0)),(4,.c (.int .i64 i)),(5,.c (.ptr 10002003 0))],[(10002000,.rc [.imm y6_ (c__0,c__1).1,.int .i64 (c__0,c__1).2]),(10002001,.rc [.nil,.int .i64 (0:Int)]),(10002002,.rc [.own 10002004 false,.int .i64 (c__0,c__1).2]),(10002003,.rc [.int .i64 t_1.1,.int .i64 t_1.2]),(10002004,.sl 155 y6_ out_0 .shallow)])) he ?_ ?_
   ·rintro t_1 he
    refine Zh he fun he=>?_
    refine Zh he fun he=>?_
    exact⟨_,(Zj he :),(Za [(10000000,10002000),(10000001,10002001),(10000002,10002002),(10000003,38)])⟩
   ·skip
    refine Zg he (fun he=>?_) fun he=>?_
    ·exact ZLO
    ·exact ZLO
  ·exact Zv [(2,[900])] (Zj he :) (Za [(900,10000001),(901,10000003)])
 ·exact Zv [(2,[900])] (Zj he :) (Za [(900,10000001),(901,10000003)])
def Zhh:Con:=fun
  |[.agg [.imm (.pair (.int .i64) (.int .i64)) c__0,.int .i64 c__1]],[]=>.opt _ (ZfF (c__0,c__1)) (fun r=>.ret (.tup [.agg [.own 901 false,.int .i64 r.2.1],.c (.bool r.1)]) [(900,.rc [.own 901 false,.int .i64 r.2.1]),(901,.sl 155 y6_ r.2.2 .shallow)])
  |_,_=>.fail
def ZtZ:Cfg:={ y:=tys,n:=10,h:=0,tab:=[(168,Zbd),(255,ZoF)] }
theorem Zuc:Zn Tryz.prog 214 Zhh:=by
 refine Zq (C:=ZtZ) Tryz.f214 (Zk ZbD (Zk ZCh Zr)) fun _ a b k he=>?_
 unfold Zhh at he;split at he;rotate_left;exact he.elim
 rename_i c__0 c__1
 refine Zs he fun he=>?_
 refine Zi he fun r1_ he=>?_
 refine Zg he (fun he=>?_) fun he=>?_
 ·exact Zro
 ·refine Zi he fun r2_ he=>?_
  exact Zv [(2,[900]),(3,[])] (Zj he :) (Za [(900,2),(901,10901)])
def ZiZ:Con:=fun
  |[.agg [.imm (.pair (.int .i64) (.int .i64)) c__0,.int .i64 c__1],.c (.int .i64 variable_)],[]=>.opt _ (ZgJ (c__0,c__1) variable_) (fun r=>.ret (.tup [.agg [.own 901 false,.int .i64 r.2.1],.c (.bool r.1)]) [(900,.rc [.own 901 false,.int .i64 r.2.1]),(901,.sl 155 y6_ r.2.2 .shallow)])
  |_,_=>.fail
def Zmc:Sched:=.first 9 (.alt 10 .done .stop)
def Zmd:Sched:=.first 8 Zmc
def Zme:Sched:=.alt 8 Zmc .stop
def Zmf:Sched:=.alt 7 Zme .stop
def ZvN:Cfg:={ y:=tys,n:=64,h:=0,tab:=[(168,Zbd),(229,Znu)],cut:=[10],sched:=[(8,(Zy [0,2,4] (.alt 1 (.alt 3 (Zy [5,6,7] Zmd) .stop) (.alt 3 (Zy [5,6,7] (.alt 1 Zmd .stop)) .stop)))),(9,(Zy [0,2,4] (.alt 1 (.alt 3 (Zy [5,6] Zmf) .stop) (.alt 3 (Zy [5,6] (.alt 1 Zmf (.alt 7 (.alt 1 Zme .stop) .stop))) .stop))))] }
theorem ZGa {P:Prop} (h:P:=by
  refine Y4 ?_
  refine Y4 ?_
  refine And.intro hq2 ?_
  refine Y4 ?_
  refine Zh he fun he=>?_
  exact⟨_,(Zj he :),(Za [(10000003,57)])⟩):P:=h
theorem ZvZ:Zn Tryz.prog 215 ZiZ:=by
 refine Zq (C:=ZvN) Tryz.f215 (Zk ZbD (Zk Zva Zr)) fun _ a b k he=>?_
 unfold ZiZ at he;split at he;rotate_left;exact he.elim
 rename_i c__0 c__1 variable_
 refine Zs he fun he=>?_
 refine Zi he fun r1_ he=>?_
 refine ZC he (fun he=>?_) fun he=>?_
 ·refine ZC he (fun he=>?_) fun he=>?_
  ·refine Zg he (fun he=>?_) fun he=>?_
   ·exact Zja
   ·refine ZK (Zid) (fun (out_11,out_01)=>(Zm [(4,.c (.ptr 10001000 0)),(6,.c (.ptr 10001001 0))],[(10001000,.rc [.nil,.int .i64 (0:Int)]),(10001001,.rc [.own 10001002 false,.int .i64 out_11]),(10001002,.sl 155 y6_ out_01 .shallow)])) he ?_ ?_
    ·rintro⟨out_11,out_01⟩ he
     refine Zg he (fun he=>?_) fun he=>?_
     ·exact ZBV
     ·exact ZBV
    ·skip
     refine Zt (Zfk (c__0,c__1) variable_) (fun (i,out_1,out_0)=>(Zm [(1,.c (.int .i64 variable_)),(2,.c (.ptr 10000000 0)),(4,.c (.ptr 10000001 0)),(6,.c (.ptr 10000002 0)),(7,.c (.int .i64 i))],[(10000000,.rc [.imm y6_ (c__0,c__1).1,.int .i64 (c__0,c__1).2]),(10000001,.rc [.nil,.int .i64 (0:Int)]),(10000002,.rc [.own 10000003 false,.int .i64 out_1]),(10000003,.sl 155 y6_ out_0 .shallow)])) he (Za [(10000000,2),(10000001,4),(10000002,6)]) ?_
     rintro⟨i,out_1,out_0⟩ _ he
     refine Zg he (fun he=>?_) fun he=>?_
     ·refine Zh he fun he=>?_
      refine Zi he fun r3_ he=>?_
      refine Zg he (fun he=>?_) fun he=>?_
      ·refine And.intro (by kernel_rfl) ?_
       obtain⟨hq1,he⟩:=ZD he
       obtain⟨hq2,he⟩:=ZD he
       refine Y5 ?_ ?_
       ·skip
        refine Y4 ?_
        refine And.intro hq1 ?_
        refine And.intro hq2 ?_
        exact Zk0
       ·skip
        refine And.intro hq1 ?_
        refine Y4 ?_
        refine And.intro hq2 ?_
        exact Zk0
      ·refine And.intro (by kernel_rfl) ?_
       obtain⟨hq1,he⟩:=ZD he
       obtain⟨hq2,he⟩:=ZD he
       refine Y5 ?_ ?_
       ·skip
        refine Y4 ?_
        refine And.intro hq1 ?_
        exact ZGa
       ·skip
        refine And.intro hq1 ?_
        refine Y5 ?_ ?_
        ·skip
         exact ZGa
        ·skip
         exact ZGa
     ·exact⟨_,(Zbn he :),(Za [(10001000,10000001),(10001001,10000002),(10001002,10000003)])⟩
  ·exact Zja
 ·exact Zja
def ZqJ:Con:=fun
  |[.agg [.imm (.pair (.sl (.pair (.int .i64) (.int .i64))) (.int .i64)) a0_0,.imm .bool a0_1],.agg [.int .i64 a1_0,.int .i64 a1_1,.int .i64 a1_2,.imm (.pair (.int .i64) (.int .i64)) a1_3,.int .i64 a1_4]],[]=>.opt _ (Zmm (a0_0,a0_1) (a1_0,(a1_1,(a1_2,(a1_3,a1_4))))) (fun r=>.ret (.tup [.agg [.own 901 false,.int .i64 r.2.1],.c (.bool r.1)]) [(900,.rc [.own 901 false,.int .i64 r.2.1]),(901,.sl 155 y6_ r.2.2 .shallow)])
  |_,_=>.fail
def Zsn:Sched:=.alt 11 (.first 12 (.alt 13 (.first 14 .done) .stop)) .stop
def Zso:Sched:=.alt 8 Zsn .stop
def Zsp:Sched:=.alt 5 (Zy [6,9] (.alt 7 (.alt 8 (.alt 10 Zsn .stop) (.alt 10 Zso .stop)) (.alt 10 (.alt 7 Zso .stop) .stop))) .stop
def Zsq:Sched:=.alt 2 Zsp .stop
def Zsr:Sched:=.alt 7 (Zy [8,9] (.alt 10 (.first 11 .done) .stop)) .stop
def Zss:Sched:=Zy [5,6] Zsr
def Zst:Sched:=.alt 4 Zss .stop
def Zsu:Sched:=.alt 2 Zss .stop
def Zsv:Sched:=Zy [5,6] (.alt 0 Zsr .stop)
def ZDz:Cfg:={ y:=tys,n:=91,h:=0,tab:=[(136,Zpl),(151,Zpm),(168,Zbd),(208,ZmA),(209,Zu0),(210,Zte),(211,ZkC),(212,Zhg),(213,ZiW),(214,Zhh),(215,ZiZ)],sched:=[(4,(Zy [0,3] (.alt 1 (.alt 2 (.alt 4 Zsp .stop) (.alt 4 Zsq .stop)) (.alt 4 (.alt 1 Zsq .stop) .stop)))),(12,(Zy [1,3] (.alt 0 (.alt 2 Zst (.alt 4 Zsu .stop)) (.alt 2 (.alt 0 Zst (.alt 4 Zsv .stop)) (.alt 4 (.alt 0 Zsu (.alt 2 Zsv .stop)) .stop)))))] }
theorem ZGb {P:Prop} (h:P:=by
  refine Y4 ?_
  exact Zv [(4,[900]),(5,[])] (Zj he :) (Za [(900,4),(901,21901)])):P:=h
theorem ZLP {P:Prop} (h:P:=by
  refine Y4 ?_
  refine⟨r8_,hq1,?_⟩
  refine Y4 ?_
  refine⟨r9_,hq2,?_⟩
  exact ZGb):P:=h
theorem ZGc {P:Prop} (h:P:=by
  refine Y4 ?_
  refine Y4 ?_
  exact ZGb):P:=h
theorem ZGd {P:Prop} (h:P:=by
  refine Y4 ?_
  refine⟨r7_,hq2,?_⟩
  refine Zg he (fun he=>?_) fun he=>?_
  ·obtain⟨r8_,hq1,he⟩:=ZS he
   obtain⟨r9_,hq2,he⟩:=ZS he
   refine Y5 ?_ ?_
   ·skip
    refine Y5 ?_ ?_
    ·skip
     refine⟨r8_,hq1,?_⟩
     refine Y4 ?_
     refine Y4 ?_
     refine⟨r9_,hq2,?_⟩
     exact ZGb
    ·skip
     exact ZLP
   ·skip
    refine Y4 ?_
    exact ZLP
  ·refine Y5 ?_ ?_
   ·skip
    refine Y5 ?_ ?_
    ·skip
     exact ZGc
    ·skip
     exact ZGc
   ·skip
    refine Y4 ?_
    exact ZGc):P:=h
theorem ZLQ {P:Prop} (h:P:=by
  refine Y4 ?_
  refine⟨r13_,hq2,?_⟩
  refine Y4 ?_
  exact Zv [(4,[900]),(5,[])] (Zj he :) (Za [(900,4),(901,61901)])):P:=h
theorem ZGe {P:Prop} (h:P:=by
  skip
  refine Y4 ?_
  refine And.intro hq1 ?_
  exact ZLQ):P:=h
theorem ZLR {P:Prop} (h:P:=by
  skip
  refine Y5 ?_ ?_
  ·exact ZGe
  ·skip
   refine And.intro hq1 ?_
   refine Y4 ?_
   exact ZLQ):P:=h
theorem ZDX:Zn Tryz.prog 152 ZqJ:=by
 refine Zq (C:=ZDz) Tryz.f152 (Zk Zzl (Zk Zzm (Zk ZbD (Zk ZzS (Zk ZIO (Zk ZHk (Zk ZxA (Zk Zub (Zk ZvW (Zk Zuc (Zk ZvZ Zr))))))))))) fun _ a b k he=>?_
 unfold ZqJ at he;split at he;rotate_left;exact he.elim
 rename_i a0_0 a0_1 a1_0 a1_1 a1_2 a1_3 a1_4
 refine Zs he fun he=>?_
 refine Zg he (fun he=>?_) fun he=>?_
 ·refine Zi he fun r1_ he=>?_
  exact Zv [(4,[900]),(5,[])] (Zj he :) (Za [(900,4),(901,13901)])
 ·refine Zg he (fun he=>?_) fun he=>?_
  ·refine And.intro (by kernel_rfl) ?_
   obtain⟨r6_,hq1,he⟩:=ZS he
   obtain⟨r7_,hq2,he⟩:=ZS he
   refine Y5 ?_ ?_
   ·skip
    refine Y5 ?_ ?_
    ·skip
     refine⟨r6_,hq1,?_⟩
     refine Y4 ?_
     exact ZGd
    ·skip
     refine Y4 ?_
     refine⟨r6_,hq1,?_⟩
     exact ZGd
   ·skip
    refine Y4 ?_
    refine Y4 ?_
    refine⟨r6_,hq1,?_⟩
    exact ZGd
  ·refine Zi he fun r10_ he=>?_
   refine Zg he (fun he=>?_) fun he=>?_
   ·exact Zja
   ·refine Zh he fun he=>?_
    refine Zg he (fun he=>?_) fun he=>?_
    ·refine Zi he fun r11_ he=>?_
     refine Zg he (fun he=>?_) fun he=>?_
     ·exact Zja
     ·refine And.intro (by kernel_rfl) ?_
      obtain⟨hq1,he⟩:=ZD he
      obtain⟨r13_,hq2,he⟩:=ZS he
      refine And.intro ?_ (And.intro ?_ (And.intro ?_ (Y1)))
      ·skip
       refine Y5 ?_ ?_
       ·exact ZGe
       ·exact ZGe
      ·exact ZLR
      ·exact ZLR
    ·refine Zg he (fun he=>?_) fun he=>?_
     ·refine Zi he fun r14_ he=>?_
      exact Zv [(4,[900]),(5,[])] (Zj he :) (Za [(900,4),(901,69901)])
     ·refine Zg he (fun he=>?_) fun he=>?_
      ·refine Zi he fun r15_ he=>?_
       exact Zv [(4,[900]),(5,[])] (Zj he :) (Za [(900,4),(901,77901)])
      ·refine Zg he (fun he=>?_) fun he=>?_
       ·refine Zi he fun r16_ he=>?_
        exact Zv [(4,[900]),(5,[])] (Zj he :) (Za [(900,4),(901,83901)])
       ·refine Zi he fun r17_ he=>?_
        exact Zv [(4,[900]),(5,[])] (Zj he :) (Za [(900,4),(901,89901)])
def Zu1:Con:=fun
  |[.c (.imm (.pair (.sl (.pair (.int .i64) (.int .i64))) (.int .i64)) a0),.c (.imm (.pair (.int .i64) (.pair (.int .i64) (.pair (.int .i64) (.pair (.sl (.pair (.int .i64) (.int .i64))) (.int .i64))))) a1)],[]=>.opt _ (Zuk a0 a1) (fun r=>.ret (.tup [.agg [.own 901 false,.own 902 false],.c (.int .i64 r.1)]) [(900,.rc [.own 901 false,.own 902 false]),(901,.sl 89 y7_ r.2.1 .shallow),(902,.sl 4 .bool r.2.2 .shallow)])
  |_,_=>.fail
def Zwe:Sched:=.alt 8 .done .stop
def Zqx:Sched:=.alt 6 Zwe .stop
def Zwf:Sched:=.alt 6 (.alt 7 Zwe .stop) (.alt 7 Zqx .stop)
def Zwg:Sched:=.alt 5 Zqx .stop
def Zqy:Sched:=.alt 2 Zqx .stop
def Zwh:Sched:=.alt 2 Zwf (.alt 7 Zqy .stop)
def Zwi:Sched:=.alt 2 Zwg (.alt 5 Zqy .stop)
def Zwj:Sched:=.alt 0 Zqy .stop
def ZHW:Cfg:={ y:=tys,n:=70,h:=0,tab:=[(150,ZrG),(151,Zpm),(152,ZqJ)],cut:=[2,6],sched:=[(1,(Zy [1,3,4] (.alt 0 (.alt 2 (.alt 5 Zwf (.alt 7 Zwg .stop)) (.alt 5 Zwh (.alt 7 Zwi .stop))) (.alt 5 (.alt 0 Zwh (.alt 7 Zwj .stop)) (.alt 7 (.alt 0 Zwi (.alt 5 Zwj .stop)) .stop)))))] }
theorem ZGf {P:Prop} (h:P:=by
  exact Zv [(4,[900]),(5,[])] (Zj he :) (Za [(900,10003000),(901,10003002),(902,10003003)])):P:=h
theorem Zx2 {P:Prop} (h:P:=by
  refine Y4 ?_
  refine Y4 ?_
  exact⟨_,he,(Za [(10000000,4),(10000001,6),(10000002,13),(10000003,16)])⟩):P:=h
theorem ZLS {P:Prop} (h:P:=by
  refine Y5 ?_ ?_
  ·skip
   exact Zx2
  ·skip
   exact Zx2):P:=h
theorem ZBY {P:Prop} (h:P:=by
  refine Y4 ?_
  refine And.intro hq1 ?_
  exact Zx2):P:=h
theorem ZLT {P:Prop} (h:P:=by
  refine Y5 ?_ ?_
  ·skip
   refine And.intro hq1 ?_
   exact ZLS
  ·skip
   exact ZBY):P:=h
theorem ZLU {P:Prop} (h:P:=by
  skip
  refine Y5 ?_ ?_
  ·skip
   refine And.intro hq1 ?_
   refine Y4 ?_
   refine And.intro hq2 ?_
   exact Zx2
  ·skip
   refine And.intro hq2 ?_
   exact ZBY):P:=h
theorem ZIP:Zn Tryz.prog 90 Zu1:=by
 refine Zq (C:=ZHW) Tryz.f90 (Zk ZFp (Zk Zzm (Zk ZDX Zr))) fun _ a b k he=>?_
 unfold Zu1 at he;split at he;rotate_left;exact he.elim
 rename_i a0 a1
 refine Zs he fun he=>?_
 refine ZK (ZtA a0 a1) (fun _=>(Zm [(1,.c (.imm Zdg a1)),(4,.c (.ptr 10000000 0)),(6,.c (.ptr 10000001 0))],[(10000000,.rc [.nil,.nil]),(10000001,.rc [.own 10000002 false,.own 10000003 false]),(10000002,.sl 89 y7_ (([]:List D7_)++a0) .shallow),(10000003,.sl 4 .bool (List.replicate (a0.length:Int).toNat false) .shallow)])) he ?_ ?_
 ·rintro⟨⟩ he
  refine Zt (Zpv a1) (fun (i,i_0,i_1)=>(Zm [(1,.c (.imm Zdg a1)),(4,.c (.ptr 10001000 0)),(6,.c (.ptr 10001001 0)),(7,.c (.int .i64 i))],[(10001000,.rc [.nil,.nil]),(10001001,.rc [.own 10001002 false,.own 10001003 false]),(10001002,.sl 89 y7_ i_0 .shallow),(10001003,.sl 4 .bool i_1 .shallow)])) he (Za [(10001000,10000000),(10001001,10000001),(10001002,10000002),(10001003,10000003)]) ?_
  rintro⟨i,i_0,i_1⟩ _ he
  refine Zg he (fun he=>?_) fun he=>?_
  ·refine ZK (ZtB a1 i i_0 i_1) (fun _=>(Zm [(1,.c (.imm Zdg a1)),(4,.c (.ptr 10003000 0)),(6,.c (.ptr 10003001 0)),(7,.c (.int .i64 i)),(8,.c (.iptr Zdg (a1.getD i.toNat (0,(0,(0,([],0))))) 0))],[(10003000,.rc [.nil,.nil]),(10003001,.rc [.own 10003002 false,.own 10003003 false]),(10003002,.sl 89 y7_ i_0 .shallow),(10003003,.sl 4 .bool i_1 .shallow)])) he ?_ ?_
   ·rintro⟨⟩ he
    refine Zi he fun r4_ he=>?_
    refine Zg he (fun he=>?_) fun he=>?_
    ·exact ZGf
    ·refine Zg he (fun he=>?_) fun he=>?_
     ·refine Zi he fun r5_ he=>?_
      refine Zg he (fun he=>?_) fun he=>?_
      ·exact ZGf
      ·refine Zh he fun he=>?_
       refine Zh he fun he=>?_
       exact⟨_,(Zj he :),(Za [(10001000,10003000),(10001001,10003001),(10001002,10003002),(10001003,10003003)])⟩
     ·refine Zi he fun r6_ he=>?_
      refine Zg he (fun he=>?_) fun he=>?_
      ·exact ZGf
      ·refine Zh he fun he=>?_
       refine Zh he fun he=>?_
       refine Zh he fun he=>?_
       exact⟨_,(Zj he :),(Za [(10001000,10003000),(10001001,10003001),(10001002,62),(10001003,67)])⟩
   ·skip
    refine Zh he fun he=>?_
    exact⟨_,he,(ZcA [(10003000,10001000),(10003001,10001001),(10003002,10001002),(10003003,10001003)] rfl rfl ⟨⟨rfl,rfl,Y1⟩,⟨Y3,Y3,Y1⟩,Y2,Y2,Y1⟩ ⟨.inl rfl,⟨Y2,rfl⟩,⟨Y2,rfl⟩,rfl,.inr ⟨8,rfl,⟨rfl,by repeat (first|exact trivial|refine And.intro trivial ?_)⟩,rfl⟩,Y1⟩)⟩
  ·exact Zv [(4,[900]),(5,[])] (Zj he :) (Za [(900,10001000),(901,10001002),(902,10001003)])
 ·skip
  refine And.intro (by kernel_rfl) ?_
  obtain⟨hq1,he⟩:=ZD he
  obtain⟨hq2,he⟩:=ZD he
  refine And.intro ?_ (And.intro ?_ (And.intro ?_ (Y1)))
  ·skip
   refine And.intro ?_ (And.intro ?_ (And.intro ?_ (Y1)))
   ·skip
    refine And.intro hq1 ?_
    refine Y5 ?_ ?_
    ·skip
     refine And.intro hq2 ?_
     exact ZLS
    ·skip
     refine Y4 ?_
     refine And.intro hq2 ?_
     exact Zx2
   ·skip
    refine And.intro hq2 ?_
    exact ZLT
   ·exact ZLU
  ·skip
   refine And.intro hq2 ?_
   refine Y5 ?_ ?_
   ·skip
    exact ZLT
   ·skip
    refine Y4 ?_
    exact ZBY
  ·skip
   refine Y5 ?_ ?_
   ·exact ZLU
   ·skip
    refine And.intro hq2 ?_
    refine Y4 ?_
    exact ZBY
def ZjO:Con:=fun
  |[.agg [.imm (.pair (.int .i64) (.int .i64)) c__0,.int .i64 c__1]],[]=>.opt _ (Zfi (c__0,c__1)) (fun r=>.ret (.c (.bool r)) [])
  |_,_=>.fail
def ZmR:Sched:=Zy [7,8,9] .done
def ZmS:Sched:=.alt 4 ZmR .stop
def ZwS:Cfg:={ y:=tys,n:=12,h:=0,tab:=[(168,Zbd),(216,Zn3)],sched:=[(1,(.alt 0 (.alt 1 (Zy [2,5] (.alt 3 (.alt 4 (.alt 6 ZmR .stop) (.alt 6 ZmS .stop)) (.alt 6 (.alt 3 ZmS .stop) .stop))) .stop) .stop))] }
theorem Zw4:Zn Tryz.prog 153 ZjO:=by
 refine Zq (C:=ZwS) Tryz.f153 (Zk ZbD (Zk ZxB Zr)) fun _ a b k he=>?_
 unfold ZjO at he;split at he;rotate_left;exact he.elim
 rename_i c__0 c__1
 refine Zs he fun he=>?_
 refine And.intro (by kernel_rfl) ?_
 refine Y4 ?_
 refine Y4 ?_
 refine Zi he fun r3_ he=>?_
 refine Zg he (fun he=>?_) fun he=>?_
 ·obtain⟨r4_,hq1,he⟩:=ZS he
  refine Y5 ?_ ?_
  ·skip
   refine Y5 ?_ ?_
   ·skip
    refine⟨r4_,hq1,?_⟩
    exact Zx6
   ·exact ZLC
  ·exact ZLB
 ·refine Y5 ?_ ?_
  ·exact ZLD
  ·exact ZEL
def ZrF:Con:=fun
  |[.agg [.imm (.pair (.sl (.pair (.int .i64) (.int .i64))) (.int .i64)) d_0,.imm .bool d_1]],[]=>.opt _ (Zre (d_0,d_1)) (fun r=>.ret (.c (.int .i64 r)) [])
  |_,_=>.fail
def ZE1:Cfg:={ y:=tys,n:=26,h:=0,tab:=[(153,ZjO)] }
theorem ZFo:Zn Tryz.prog 91 ZrF:=by
 refine Zq (C:=ZE1) Tryz.f91 (Zk Zw4 Zr) fun _ a b k he=>?_
 unfold ZrF at he;split at he;rotate_left;exact he.elim
 rename_i d_0 d_1
 refine Zs he fun he=>?_
 refine Zt (Zm5 (d_0,d_1)) (fun i=>(Zm [(1,.c (.ptr 10000000 0)),(3,.c (.int .i64 i))],[(10000000,.rc [.imm y7_ (d_0,d_1).1,.imm .bool (d_0,d_1).2])])) he (Za [(10000000,1)]) ?_
 rintro i _ he
 refine Zg he (fun he=>?_) fun he=>?_
 ·refine Zh he fun he=>?_
  refine Zg he (fun he=>?_) fun he=>?_
  ·refine Zh he fun he=>?_
   refine Zi he fun r1_ he=>?_
   exact Zvy
  ·exact ZdC
 ·exact ZM
def ZjN:Con:=fun
  |[.c (.imm (.pair (.sl (.pair (.int .i64) (.int .i64))) (.int .i64)) list_),.c (.imm (.pair (.int .i64) (.pair (.int .i64) (.pair (.int .i64) (.pair (.sl (.pair (.int .i64) (.int .i64))) (.int .i64))))) steps)],[]=>.opt _ (Zhs list_ steps) (fun r=>.ret (.c (.bool r)) [])
  |_,_=>.fail
def ZwR:Cfg:={ y:=tys,n:=24,h:=0,tab:=[(90,Zu1),(91,ZrF),(146,Ztd)] }
theorem Zw3:Zn Tryz.prog 82 ZjN:=by
 refine Zq (C:=ZwR) Tryz.f82 (Zk ZIP (Zk ZFo (Zk ZHj Zr))) fun _ a b k he=>?_
 unfold ZjN at he;split at he;rotate_left;exact he.elim
 rename_i list_ steps
 refine Zs he fun he=>?_
 refine Zi he fun r1_ he=>?_
 refine Zg he (fun he=>?_) fun he=>?_
 ·exact Zbf
 ·refine Zi he fun r2_ he=>?_
  refine Zg he (fun he=>?_) fun he=>?_
  ·refine Zi he fun r3_ he=>?_
   exact Z3
  ·exact Z3
def Zmy:Con:=fun
  |[.agg [.imm (.int .i64) m_0,.imm (.pair (.int .i64) (.pair (.sl (.int .i64)) (.pair (.sl (.int .i64)) (.pair (.int .i64) (.sl (.sl (.int .i64))))))) m_1],.c (.imm (.int .i64) coefs),.c (.imm (.int .i64) cells),.c (.imm (.pair (.int .i64) (.pair (.int .i64) (.pair (.int .i64) (.pair (.sl (.pair (.int .i64) (.int .i64))) (.int .i64))))) steps)],[]=>.opt _ (Zeq (m_0,m_1) coefs cells steps) (fun r=>.ret (.c (.bool r)) [])
  |_,_=>.fail
def ZoQ:Sched:=.alt 11 (.first 12 .done) .stop
def ZjH:Sched:=.alt 6 (Zy [7,8,9] ZoQ) .stop
def ZoR:Sched:=.alt 6 (Zy [7,8,9] (.alt 10 ZoQ .stop)) (.alt 10 ZjH .stop)
def ZoS:Sched:=.alt 4 (.first 5 ZjH) .stop
def ZoT:Sched:=.alt 0 ZjH .stop
def ZoU:Sched:=.alt 5 (.alt 7 (.first 8 .done) .stop) .stop
def ZoV:Sched:=.alt 4 ZoU .stop
def ZoW:Sched:=.alt 2 ZoU .stop
def ZoX:Sched:=.alt 2 ZoV (.alt 4 ZoW .stop)
def ZzA:Cfg:={ y:=tys,n:=55,h:=0,tab:=[(62,Zjh),(63,ZkD),(64,Zfy),(65,Zn7),(81,Znt),(82,ZjN)],cut:=[5],deep:=[47,51],sched:=[(4,(Zy [1,2,3] (.alt 0 (.alt 4 (.first 5 ZoR) (.alt 10 ZoS .stop)) (.alt 4 (.first 5 (.alt 0 ZoR (.alt 10 ZoT .stop))) (.alt 10 (.alt 0 ZoS (.alt 4 (.first 5 ZoT) .stop)) .stop))))),(5,(Zy [1,6] (.alt 0 (.alt 2 (.alt 3 ZoV .stop) (.alt 3 ZoX .stop)) (.alt 3 (.alt 0 ZoX (.alt 4 (.alt 0 ZoW .stop) .stop)) .stop))))] }
theorem ZBZ {P:Prop} (h:P:=by
  refine Y4 ?_
  refine And.intro hq2 ?_
  refine Y4 ?_
  refine⟨r9_,hq3,?_⟩
  exact Zmo):P:=h
theorem ZLV {P:Prop} (h:P:=by
  skip
  refine Y5 ?_ ?_
  ·skip
   refine And.intro hq1 ?_
   refine Y4 ?_
   exact ZBZ
  ·skip
   refine Y4 ?_
   refine And.intro hq1 ?_
   exact ZBZ):P:=h
theorem ZLW {P:Prop} (h:P:=by
  refine Y4 ?_
  exact⟨_,he,(Za [(10000000,16900),(10000001,11),(10000002,45901)])⟩):P:=h
theorem ZB0 {P:Prop} (h:P:=by
  refine Y4 ?_
  refine⟨r7_,hq3,?_⟩
  exact ZLW):P:=h
theorem ZLX {P:Prop} (h:P:=by
  refine Y5 ?_ ?_
  ·skip
   refine⟨r7_,hq3,?_⟩
   refine Y4 ?_
   exact ZLW
  ·skip
   exact ZB0):P:=h
theorem ZLY {P:Prop} (h:P:=by
  skip
  refine Y4 ?_
  refine⟨r6_,hq1,?_⟩
  refine And.intro hq2 ?_
  exact ZB0):P:=h
theorem ZzQ:Zn Tryz.prog 21 Zmy:=by
 refine Zq (C:=ZzA) Tryz.f21 (Zk ZsY (Zk ZrP (Zk ZoB (Zk ZxF (Zk ZAE (Zk Zw3 Zr)))))) fun _ a b k he=>?_
 unfold Zmy at he;split at he;rotate_left;exact he.elim
 rename_i m_0 m_1 coefs cells steps
 refine Zs he fun he=>?_
 refine Zi he fun r1_ he=>?_
 refine ZC he (fun he=>?_) fun he=>?_
 ·refine Zi he fun r2_ he=>?_
  refine ZC he (fun he=>?_) fun he=>?_
  ·refine Zi he fun r3_ he=>?_
   refine ZC he (fun he=>?_) fun he=>?_
   ·refine Zg he (fun he=>?_) fun he=>?_
    ·exact Zmo
    ·refine ZK (ZlA steps r1_) (fun (c_1,c_0)=>(Zm [(3,.c (.imm Zdg steps)),(9,.c (.own 10000000 false)),(11,.c (.ptr 10000001 0))],[(10000000,.sl 89 y7_ r1_.2 (.deep true .no)),(10000001,.rc [.own 10000002 false,.int .i64 c_1]),(10000002,.sl 155 y6_ c_0 .shallow)])) he ?_ ?_
     ·rintro⟨c_1,c_0⟩ he
      refine And.intro (by kernel_rfl) ?_
      obtain⟨hq1,he⟩:=ZD he
      obtain⟨hq2,he⟩:=ZD he
      obtain⟨r9_,hq3,he⟩:=ZS he
      refine Y5 ?_ ?_
      ·skip
       refine Y5 ?_ ?_
       ·skip
        refine And.intro hq1 ?_
        refine Y4 ?_
        refine Y4 ?_
        exact ZBZ
       ·exact ZLV
      ·skip
       refine Y5 ?_ ?_
       ·exact ZLV
       ·skip
        refine Y4 ?_
        refine Y4 ?_
        refine And.intro hq1 ?_
        exact ZBZ
     ·skip
      refine And.intro (by kernel_rfl) ?_
      obtain⟨r6_,hq1,he⟩:=ZS he
      obtain⟨hq2,he⟩:=ZD he
      obtain⟨r7_,hq3,he⟩:=ZS he
      refine And.intro ?_ (And.intro ?_ (And.intro ?_ (Y1)))
      ·skip
       refine Y5 ?_ ?_
       ·skip
        refine⟨r6_,hq1,?_⟩
        refine And.intro hq2 ?_
        exact ZLX
       ·exact ZLY
      ·skip
       refine⟨r6_,hq1,?_⟩
       refine And.intro hq2 ?_
       refine Y5 ?_ ?_
       ·skip
        exact ZLX
       ·skip
        refine Y4 ?_
        exact ZB0
      ·skip
       refine Y5 ?_ ?_
       ·exact ZLY
       ·skip
        refine⟨r6_,hq1,?_⟩
        refine And.intro hq2 ?_
        refine Y4 ?_
        exact ZB0
   ·exact Zmo
  ·exact Zmo
 ·exact Zmo
def ZeZ:Con:=fun
  |[.c (.own 3 false),.c (.ptr 0 0),.c (.ptr 1 0),.c (.ptr 2 0)],[(0,.rc [.imm (.int .i64) o0_0,.imm (.pair (.int .i64) (.pair (.sl (.int .i64)) (.pair (.sl (.int .i64)) (.pair (.int .i64) (.sl (.sl (.int .i64))))))) o0_1]),(1,.rc [.own 4 true]),(2,.rc [.imm (.int .i64) o2]),(3,.sl 3 (.int .i64) cells .shallow),(4,.sl 3 (.int .i64) o4 .shallow)]=>.opt _ (Zef (o0_0,o0_1) o2 cells o4) (fun r=>.ret (.c (.bool r.1)) [(0,.rc [.imm y0_ o0_0,.imm y5_ o0_1]),(1,.rc [.own 900 true]),(2,.rc [.imm y0_ o2]),(3,.sl 3 y0_ cells .shallow),(4,.dead),(900,.sl 3 y0_ r.2 .shallow)])
  |_,_=>.fail
def Zez:Sched:=.alt 12 (Zy [13,14,15] .done) .stop
def ZhA:Sched:=.alt 11 Zez .stop
def ZhB:Sched:=.alt 10 Zez .stop
def ZeA:Sched:=.alt 9 Zez .stop
def ZhC:Sched:=.alt 9 ZhA (.alt 11 ZeA .stop)
def ZhD:Sched:=.alt 9 ZhB (.alt 10 ZeA .stop)
def ZhE:Sched:=.alt 7 ZeA .stop
def Zqt:Cfg:={ y:=tys,n:=24,h:=5,tab:=[(60,ZkA),(74,Zim),(75,Zd1)],sched:=[(1,(.first 1 (.alt 0 (.alt 2 (.first 3 (.alt 4 (Zy [5,6,8] (.alt 7 (.alt 9 (.alt 10 ZhA (.alt 11 ZhB .stop)) (.alt 10 ZhC (.alt 11 ZhD .stop))) (.alt 10 (.alt 7 ZhC (.alt 11 ZhE .stop)) (.alt 11 (.alt 7 ZhD (.alt 10 ZhE .stop)) .stop)))) .stop)) .stop) .stop)))] }
theorem ZcS {P:Prop} (h:P:=by
  obtain⟨hne0,he⟩:=ZD he
  exact Zv [(5,[])] (Zj he :) (ZcA [(900,24900)] rfl rfl ⟨⟨.inl rfl,.inl rfl,Y1⟩,⟨⟨Y2,hne0⟩,Y1⟩,⟨.inl rfl,Y1⟩,Y2,Y1,Y2,Y1⟩ ⟨.inr rfl,Y1⟩)):P:=h
theorem ZGg {P:Prop} (h:P:=by
  refine Y4 ?_
  refine Y4 ?_
  exact Zv [(5,[])] (Zj he :) (Za [(900,4)])):P:=h
theorem ZB1 {P:Prop} (h:P:=by
  skip
  refine Y5 ?_ ?_
  ·skip
   exact ZGg
  ·skip
   exact ZGg):P:=h
theorem ZLZ {P:Prop} (h:P:=by
  skip
  refine Y5 ?_ ?_
  ·exact ZB1
  ·skip
   refine Y4 ?_
   exact ZGg):P:=h
theorem Zq2:Zn Tryz.prog 73 ZeZ:=by
 refine Zq (C:=Zqt) Tryz.f73 (Zk ZrO (Zk Zrs (Zk Zgr Zr))) fun _ a b k he=>?_
 unfold ZeZ at he;split at he;rotate_left;exact he.elim
 rename_i o0_0 o0_1 o2 cells o4
 refine Zs he fun he=>?_
 refine And.intro (by kernel_rfl) ?_
 refine Y4 ?_
 refine Y4 ?_
 refine Zi he fun r4_ he=>?_
 refine Y4 ?_
 refine Zg he (fun he=>?_) fun he=>?_
 ·refine ZC he (fun he=>?_) fun he=>?_
  ·obtain⟨r5_,hq1,he⟩:=ZS he
   obtain⟨r6_,hq2,he⟩:=ZS he
   refine And.intro ?_ (And.intro ?_ (And.intro ?_ (Y1)))
   ·skip
    refine And.intro ?_ (And.intro ?_ (And.intro ?_ (Y1)))
    ·skip
     refine⟨r5_,hq1,?_⟩
     refine Y5 ?_ ?_
     ·skip
      refine Y4 ?_
      refine Y4 ?_
      refine⟨r6_,hq2,?_⟩
      refine Zg he (fun he=>?_) fun he=>?_
      ·refine Zi he fun r7_ he=>?_
       exact ZcS
      ·exact Zv [(5,[])] (Zj he :) (Za [(900,4)])
     ·skip
      refine Y4 ?_
      refine Y4 ?_
      refine⟨r6_,hq2,?_⟩
      refine Zg he (fun he=>?_) fun he=>?_
      ·refine Zi he fun r8_ he=>?_
       exact ZcS
      ·exact Zv [(5,[])] (Zj he :) (Za [(900,4)])
    ·skip
     refine Y5 ?_ ?_
     ·skip
      refine⟨r5_,hq1,?_⟩
      refine Y4 ?_
      refine Y4 ?_
      refine⟨r6_,hq2,?_⟩
      refine Zg he (fun he=>?_) fun he=>?_
      ·refine Zi he fun r9_ he=>?_
       exact ZcS
      ·exact Zv [(5,[])] (Zj he :) (Za [(900,4)])
     ·skip
      refine Y4 ?_
      refine⟨r5_,hq1,?_⟩
      refine Y4 ?_
      refine⟨r6_,hq2,?_⟩
      refine Zg he (fun he=>?_) fun he=>?_
      ·refine Zi he fun r10_ he=>?_
       exact ZcS
      ·exact Zv [(5,[])] (Zj he :) (Za [(900,4)])
    ·skip
     refine Y5 ?_ ?_
     ·skip
      refine⟨r5_,hq1,?_⟩
      refine Y4 ?_
      refine Y4 ?_
      refine⟨r6_,hq2,?_⟩
      refine Zg he (fun he=>?_) fun he=>?_
      ·refine Zi he fun r11_ he=>?_
       exact ZcS
      ·exact Zv [(5,[])] (Zj he :) (Za [(900,4)])
     ·skip
      refine Y4 ?_
      refine⟨r5_,hq1,?_⟩
      refine Y4 ?_
      refine⟨r6_,hq2,?_⟩
      refine Zg he (fun he=>?_) fun he=>?_
      ·refine Zi he fun r12_ he=>?_
       exact ZcS
      ·exact Zv [(5,[])] (Zj he :) (Za [(900,4)])
   ·skip
    refine Y5 ?_ ?_
    ·skip
     refine Y5 ?_ ?_
     ·skip
      refine⟨r5_,hq1,?_⟩
      refine Y4 ?_
      refine Y4 ?_
      refine⟨r6_,hq2,?_⟩
      refine Zg he (fun he=>?_) fun he=>?_
      ·refine Zi he fun r13_ he=>?_
       exact ZcS
      ·exact Zv [(5,[])] (Zj he :) (Za [(900,4)])
     ·skip
      refine Y4 ?_
      refine⟨r5_,hq1,?_⟩
      refine Y4 ?_
      refine⟨r6_,hq2,?_⟩
      refine Zg he (fun he=>?_) fun he=>?_
      ·refine Zi he fun r14_ he=>?_
       exact ZcS
      ·exact Zv [(5,[])] (Zj he :) (Za [(900,4)])
    ·skip
     refine Y4 ?_
     refine Y4 ?_
     refine⟨r5_,hq1,?_⟩
     refine Y4 ?_
     refine⟨r6_,hq2,?_⟩
     refine Zg he (fun he=>?_) fun he=>?_
     ·refine Zi he fun r15_ he=>?_
      exact ZcS
     ·exact Zv [(5,[])] (Zj he :) (Za [(900,4)])
   ·skip
    refine Y5 ?_ ?_
    ·skip
     refine Y5 ?_ ?_
     ·skip
      refine⟨r5_,hq1,?_⟩
      refine Y4 ?_
      refine Y4 ?_
      refine⟨r6_,hq2,?_⟩
      refine Zg he (fun he=>?_) fun he=>?_
      ·refine Zi he fun r16_ he=>?_
       exact ZcS
      ·exact Zv [(5,[])] (Zj he :) (Za [(900,4)])
     ·skip
      refine Y4 ?_
      refine⟨r5_,hq1,?_⟩
      refine Y4 ?_
      refine⟨r6_,hq2,?_⟩
      refine Zg he (fun he=>?_) fun he=>?_
      ·refine Zi he fun r17_ he=>?_
       exact ZcS
      ·exact Zv [(5,[])] (Zj he :) (Za [(900,4)])
    ·skip
     refine Y4 ?_
     refine Y4 ?_
     refine⟨r5_,hq1,?_⟩
     refine Y4 ?_
     refine⟨r6_,hq2,?_⟩
     refine Zg he (fun he=>?_) fun he=>?_
     ·refine Zi he fun r18_ he=>?_
      exact ZcS
     ·exact Zv [(5,[])] (Zj he :) (Za [(900,4)])
  ·refine And.intro ?_ (And.intro ?_ (And.intro ?_ (Y1)))
   ·skip
    refine And.intro ?_ (And.intro ?_ (And.intro ?_ (Y1)))
    ·skip
     refine Y5 ?_ ?_
     ·skip
      refine Y4 ?_
      refine Y4 ?_
      refine Zi he fun r19_ he=>?_
      exact ZcS
     ·skip
      refine Y4 ?_
      refine Y4 ?_
      refine Zi he fun r20_ he=>?_
      exact ZcS
    ·skip
     refine Y5 ?_ ?_
     ·skip
      refine Y4 ?_
      refine Y4 ?_
      refine Zi he fun r21_ he=>?_
      exact ZcS
     ·skip
      refine Y4 ?_
      refine Y4 ?_
      refine Zi he fun r22_ he=>?_
      exact ZcS
    ·skip
     refine Y5 ?_ ?_
     ·skip
      refine Y4 ?_
      refine Y4 ?_
      refine Zi he fun r23_ he=>?_
      exact ZcS
     ·skip
      refine Y4 ?_
      refine Y4 ?_
      refine Zi he fun r24_ he=>?_
      exact ZcS
   ·skip
    refine Y5 ?_ ?_
    ·skip
     refine Y5 ?_ ?_
     ·skip
      refine Y4 ?_
      refine Y4 ?_
      refine Zi he fun r25_ he=>?_
      exact ZcS
     ·skip
      refine Y4 ?_
      refine Y4 ?_
      refine Zi he fun r26_ he=>?_
      exact ZcS
    ·skip
     refine Y4 ?_
     refine Y4 ?_
     refine Y4 ?_
     refine Zi he fun r27_ he=>?_
     exact ZcS
   ·skip
    refine Y5 ?_ ?_
    ·skip
     refine Y5 ?_ ?_
     ·skip
      refine Y4 ?_
      refine Y4 ?_
      refine Zi he fun r28_ he=>?_
      exact ZcS
     ·skip
      refine Y4 ?_
      refine Y4 ?_
      refine Zi he fun r29_ he=>?_
      exact ZcS
    ·skip
     refine Y4 ?_
     refine Y4 ?_
     refine Y4 ?_
     refine Zi he fun r30_ he=>?_
     exact ZcS
 ·refine And.intro ?_ (And.intro ?_ (And.intro ?_ (Y1)))
  ·skip
   refine And.intro ?_ (And.intro ?_ (And.intro ?_ (Y1)))
   ·exact ZB1
   ·exact ZB1
   ·exact ZB1
  ·exact ZLZ
  ·exact ZLZ
def ZdG:Con:=fun
  |[.c (.imm (.int .i64) sizes),.c (.imm (.int .i64) from_),.c (.fn 73 [0,1,2])],[(0,.rc [.imm (.int .i64) o0_0,.imm (.pair (.int .i64) (.pair (.sl (.int .i64)) (.pair (.sl (.int .i64)) (.pair (.int .i64) (.sl (.sl (.int .i64))))))) o0_1]),(1,.rc [.nil]),(2,.rc [.imm (.int .i64) o2])]=>.opt _ (ZcE sizes from_ (o0_0,o0_1) o2) (fun r=>.ret (.tup []) [(0,.rc [.imm y0_ o0_0,.imm y5_ o0_1]),(1,.rc [.own 900 true]),(2,.rc [.imm y0_ o2]),(900,.sl 3 y0_ r .shallow)])
  |_,_=>.fail
def Zl4:Cfg:={ y:=tys,n:=42,h:=3,tab:=[(73,ZeZ),(75,Zd1)],cut:=[6],hand:=[(73,[0])] }
theorem Zml:Zn Tryz.prog 72 ZdG:=by
 refine Zq (C:=Zl4) Tryz.f72 (Zk Zq2 (Zk Zgr Zr)) fun _ a b k he=>?_
 unfold ZdG at he;split at he;rotate_left;exact he.elim
 rename_i sizes from_ o0_0 o0_1 o2
 refine Zs he fun he=>?_
 refine Zi he fun r1_ he=>?_
 refine Zt (Zcj sizes (o0_0,o0_1) o2) (fun (cells2,cap)=>(Zm [(0,.c (.imm y0_ sizes)),(2,.c (.fn 73 [0,1,2])),(6,.c (.own 10000000 false))],[(0,.rc [.imm y0_ (o0_0,o0_1).1,.imm y5_ (o0_0,o0_1).2]),(1,.rc [.own 10000001 true]),(2,.rc [.imm y0_ o2]),(10000000,.sl 3 y0_ cells2 .shallow),(10000001,.sl 3 y0_ cap .shallow)])) he (Za [(10000000,10900)]) ?_
 rintro⟨cells2,cap⟩ _ he
 refine Zi he fun r3_ he=>?_
 refine Zg he (fun he=>?_) fun he=>?_
 ·refine Zh he fun he=>?_
  refine ZK (Zci r3_) (fun (i3,cells4)=>(Zm [(0,.c (.imm y0_ sizes)),(2,.c (.fn 73 [0,1,2])),(6,.c (.own 10004000 false)),(7,.c (.int .i64 i3))],[(0,.rc [.imm y0_ (o0_0,o0_1).1,.imm y5_ (o0_0,o0_1).2]),(1,.rc [.own 10004001 true]),(2,.rc [.imm y0_ o2]),(10004000,.sl 3 y0_ cells4 .shallow),(10004001,.sl 3 y0_ r3_.2 .shallow)])) he ?_ ?_
  ·rintro⟨i3,cells4⟩ he
   refine Zg he (fun he=>?_) fun he=>?_
   ·exact Zv [] (Zj he :) (Za [(900,10004001)] (l:=[]) (st':=[(0,.rc [.imm y0_ o0_0,.imm y5_ o0_1]),(1,.rc [.own 900 true]),(2,.rc [.imm y0_ o2]),(900,.sl 3 y0_ r3_.2 .shallow)]))
   ·refine Zh he fun he=>?_
    refine Zh he fun he=>?_
    refine Zh he fun he=>?_
    exact⟨_,(Zj he :),(Za [(10000000,10004000),(10000001,10004001)])⟩
  ·skip
   refine Zt (ZbG sizes r3_) (fun (i2,cells3)=>(Zm [(0,.c (.imm y0_ sizes)),(2,.c (.fn 73 [0,1,2])),(6,.c (.own 10003000 false)),(7,.c (.int .i64 i2))],[(0,.rc [.imm y0_ (o0_0,o0_1).1,.imm y5_ (o0_0,o0_1).2]),(1,.rc [.own 10003001 true]),(2,.rc [.imm y0_ o2]),(10003000,.sl 3 y0_ cells3 .shallow),(10003001,.sl 3 y0_ r3_.2 .shallow)])) he (Za [(10003000,10000000),(10003001,13900)]) ?_
   exact ZLn
 ·exact Zv [] (Zj he :) (Za [(900,13900)] (l:=[]) (st':=[(0,.rc [.imm y0_ o0_0,.imm y5_ o0_1]),(1,.rc [.own 900 true]),(2,.rc [.imm y0_ o2]),(900,.sl 3 y0_ r3_.2 .shallow)]))
def Zlb:Con:=fun
  |[.agg [.imm (.int .i64) m_0,.imm (.pair (.int .i64) (.pair (.sl (.int .i64)) (.pair (.sl (.int .i64)) (.pair (.int .i64) (.sl (.sl (.int .i64))))))) m_1],.c (.imm (.int .i64) coefs)],[]=>.opt _ (Zgm (m_0,m_1) coefs) (fun r=>.ret (.tup [.c (.own 900 false),.c (.bool r.1)]) [(900,.sl 3 y0_ r.2 .shallow)])
  |_,_=>.fail
def ZiN:Sched:=.alt 7 .done .stop
def Zot:Sched:=.alt 6 ZiN .stop
def ZiO:Sched:=.alt 5 ZiN .stop
def Zou:Sched:=.alt 5 Zot (.alt 6 ZiO .stop)
def Zov:Sched:=.alt 3 (.first 4 ZiO) .stop
def Zow:Sched:=.alt 1 ZiN .stop
def Zox:Sched:=.alt 1 ZiO (.alt 5 Zow .stop)
def Zyb:Cfg:={ y:=tys,n:=27,h:=0,tab:=[(56,ZeM),(71,Zfn),(72,ZdG)],cut:=[5],sched:=[(4,(Zy [0,2] (.alt 1 (.alt 3 (.first 4 Zou) (.alt 6 Zov .stop)) (.alt 3 (.first 4 (.alt 1 Zou (.alt 5 (.alt 1 Zot (.alt 6 Zow .stop)) (.alt 6 Zox .stop)))) (.alt 6 (.alt 1 Zov (.alt 3 (.first 4 Zox) .stop)) .stop)))))] }
theorem Zx3 {P:Prop} (h:P:=by
  refine Y4 ?_
  refine⟨r4_,hq2,?_⟩
  exact⟨_,he,(Za [(10000000,6),(10000001,24900)])⟩):P:=h
theorem ZGh {P:Prop} (h:P:=by
  skip
  refine And.intro hq1 ?_
  refine Y4 ?_
  exact Zx3):P:=h
theorem ZGi {P:Prop} (h:P:=by
  skip
  refine Y4 ?_
  refine And.intro hq1 ?_
  exact Zx3):P:=h
theorem ZL0 {P:Prop} (h:P:=by
  skip
  refine Y5 ?_ ?_
  ·exact ZGh
  ·exact ZGi):P:=h
theorem ZL1 {P:Prop} (h:P:=by
  skip
  refine Y4 ?_
  refine Y4 ?_
  refine And.intro hq1 ?_
  exact Zx3):P:=h
theorem ZyC:Zn Tryz.prog 16 Zlb:=by
 refine Zq (C:=Zyb) Tryz.f16 (Zk Zjr (Zk Zj9 (Zk Zml Zr))) fun _ a b k he=>?_
 unfold Zlb at he;split at he;rotate_left;exact he.elim
 rename_i m_0 m_1 coefs
 refine Zs he fun he=>?_
 refine Zi he fun r1_ he=>?_
 refine ZC he (fun he=>?_) fun he=>?_
 ·refine Zi he fun r2_ he=>?_
  refine Zg he (fun he=>?_) fun he=>?_
  ·exact Zv [(4,[]),(5,[])] (Zj he :) (Za [])
  ·refine ZK (Zqj) (fun best=>(Zm [(6,.c (.ptr 10000000 0))],[(10000000,.rc [.own 10000001 true]),(10000001,.sl 3 y0_ best .shallow)])) he ?_ ?_
   ·rintro best he
    refine And.intro (by kernel_rfl) ?_
    exact ZEN
   ·skip
    refine And.intro (by kernel_rfl) ?_
    obtain⟨hq1,he⟩:=ZD he
    obtain⟨r4_,hq2,he⟩:=ZS he
    refine And.intro ?_ (And.intro ?_ (And.intro ?_ (Y1)))
    ·skip
     refine Y5 ?_ ?_
     ·exact ZL0
     ·exact ZL1
    ·skip
     refine And.intro ?_ (And.intro ?_ (And.intro ?_ (Y1)))
     ·exact ZL0
     ·skip
      refine And.intro hq1 ?_
      refine Y5 ?_ ?_
      ·skip
       refine Y4 ?_
       exact Zx3
      ·skip
       refine Y4 ?_
       exact Zx3
     ·skip
      refine Y5 ?_ ?_
      ·exact ZGi
      ·exact ZGh
    ·skip
     refine Y5 ?_ ?_
     ·exact ZL1
     ·skip
      refine Y5 ?_ ?_
      ·exact ZGi
      ·exact ZGh
 ·exact Zv [(4,[]),(5,[])] (Zj he :) (Za [])
def Zkz:Con:=fun
  |[.agg [.imm (.int .i64) m_0,.imm (.pair (.int .i64) (.pair (.sl (.int .i64)) (.pair (.sl (.int .i64)) (.pair (.int .i64) (.sl (.sl (.int .i64))))))) m_1],.c (.imm (.int .i64) coefs),.c (.imm (.int .i64) cells)],[]=>.opt _ (ZdO (m_0,m_1) coefs cells) (fun r=>.ret (.tup [.c (.int .i64 r.1),.c (.bool r.2)]) [])
  |_,_=>.fail
def Zxi:Cfg:={ y:=tys,n:=21,h:=0,tab:=[(56,ZeM),(60,ZkA),(76,Zj2)] }
theorem ZGj {P:Prop} (h:P:=by
  exact Zv [(6,[]),(7,[])] (Zj he :) (Za [])):P:=h
theorem Zxy:Zn Tryz.prog 17 Zkz:=by
 refine Zq (C:=Zxi) Tryz.f17 (Zk Zjr (Zk ZrO (Zk ZtP Zr))) fun _ a b k he=>?_
 unfold Zkz at he;split at he;rotate_left;exact he.elim
 rename_i m_0 m_1 coefs cells
 refine Zs he fun he=>?_
 refine Zi he fun r1_ he=>?_
 refine ZC he (fun he=>?_) fun he=>?_
 ·refine Zi he fun r2_ he=>?_
  refine Zg he (fun he=>?_) fun he=>?_
  ·exact ZGj
  ·refine Zi he fun r3_ he=>?_
   exact ZGj
 ·exact ZGj
def ZkB:Con:=fun
  |[.c (.imm (.int .u8) a0)],[]=>.opt _ (ZmG a0) (fun r=>.ret (.c (.bool r)) [])
  |_,_=>.fail
def Zxj:Cfg:={ y:=tys,n:=79,h:=0,tab:=[(16,Zlb),(17,Zkz),(18,Zmr),(21,Zmy),(28,ZiX)] }
theorem Zxz:Zn Tryz.prog 5 ZkB:=by
 refine Zq (C:=Zxj) Tryz.f5 (Zk ZyC (Zk Zxy (Zk ZzJ (Zk ZzQ (Zk ZvX Zr))))) fun _ a b k he=>?_
 unfold ZkB at he;split at he;rotate_left;exact he.elim
 rename_i a0
 refine Zs he fun he=>?_
 refine Zg he (fun he=>?_) fun he=>?_
 ·exact Zbf
 ·refine Zi he fun r1_ he=>?_
  refine Zi he fun r2_ he=>?_
  refine Zi he fun r3_ he=>?_
  refine ZC he (fun he=>?_) fun he=>?_
  ·refine Zg he (fun he=>?_) fun he=>?_
   ·refine Zi he fun r4_ he=>?_
    exact ZM
   ·refine Zi he fun r6_ he=>?_
    refine Zi he fun r7_ he=>?_
    refine Zi he fun r8_ he=>?_
    refine Zg he (fun he=>?_) fun he=>?_
    ·exact ZEI
    ·exact ZM
  ·refine Zi he fun r5_ he=>?_
   exact ZM
end
end Go.AE.Y
