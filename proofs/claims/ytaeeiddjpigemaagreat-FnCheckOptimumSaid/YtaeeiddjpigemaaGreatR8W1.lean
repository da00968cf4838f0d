/-
  Walks: each function keeps the contract that its model gives. No conditions.
-/
import Derived.Test.YtaeeiddjpigemaaGreatR8Tab
import Derived.Test.YtaeeiddjpigemaaGreatR8M
import Derived.Test.YtaeeiddjpigemaaGreatR8S
namespace Go.AE.Y
open Go Go.AE Go.Proofs
set_option linter.unusedVariables false
set_option maxHeartbeats 2000000
set_option maxRecDepth 100000
noncomputable section
def ZrE:Con:=fun
  |[.c (.imm (.int .u8) code)],[]=>.opt _ (Zrd code) (fun r=>.ret (.c (.ptr 900 0)) [(900,.rc [.imm (.int .u8) r.1,.int .i64 r.2])])
  |_,_=>.fail
def ZEX:Cfg:={ y:=tys,n:=11,h:=0,tab:=[],cut:=[3] }
theorem ZFn:Zn Tryz.prog 50 ZrE:=by
 refine Zq (C:=ZEX) Tryz.f50 Zr fun _ a b k he=>?_
 unfold ZrE at he;split at he;rotate_left;exact he.elim
 rename_i code
 refine Zs he fun he=>?_
 refine ZK (Zm1) (fun code1=>(Zm [(0,.c (.imm (.int .u8) code1))],[])) he ?_ ?_
 ·rintro code1 he
  exact Zv [(2,[])] (Zj he :) (Za [(900,10)])
 ·skip
  refine Zg he (fun he=>?_) fun he=>?_
  ·refine Zh he fun he=>?_
   exact⟨_,he,(Za [])⟩
  ·exact⟨_,he,(Za [])⟩
def Zc0:Con:=fun
  |[.c (.ptr 0 0),.c (.int .i64 a1)],[(0,.rc [.imm (.int .u8) o0_0,.int .i64 o0_1])]=>.opt _ (ZbT a1 (o0_0,o0_1)) (fun r=>.ret (.c (.int .i64 r.1)) [(0,.rc [.imm (.int .u8) r.2.1,.int .i64 r.2.2])])
  |_,_=>.fail
def ZCa:Cfg:={ y:=tys,n:=99,h:=1,tab:=[] }
theorem Z3 {P:Prop} (h:P:=by
  exact Zv [(4,[])] (Zj he :) (Za [])):P:=h
theorem ZMN {P:Prop} (h:P:=by
  refine Zh he fun he=>?_
  exact Z3):P:=h
theorem ZHO {P:Prop} (h:P:=by
  refine Zh he fun he=>?_
  exact ZMN):P:=h
theorem Zeo:Zn Tryz.prog 87 Zc0:=by
 refine Zq (C:=ZCa) Tryz.f87 Zr fun _ a b k he=>?_
 unfold Zc0 at he;split at he;rotate_left;exact he.elim
 rename_i a1 o0_0 o0_1
 refine Zs he fun he=>?_
 refine Zh he fun he=>?_
 refine ZC he (fun he=>?_) fun he=>?_
 ·refine Zg he (fun he=>?_) fun he=>?_
  ·exact Z3
  ·refine Zh he fun he=>?_
   refine Zg he (fun he=>?_) fun he=>?_
   ·refine Zh he fun he=>?_
    refine fun _=>?_
    exact ZHO
   ·refine And.intro (by kernel_rfl) ?_
    refine Zh he fun he=>?_
    refine Zh he fun he=>?_
    refine fun _=>?_
    refine Zh he fun he=>?_
    refine Zh he fun he=>?_
    refine Zh he fun he=>?_
    refine Zh he fun he=>?_
    refine Zh he fun he=>?_
    refine Zh he fun he=>?_
    refine fun _=>?_
    refine Zh he fun he=>?_
    refine Zh he fun he=>?_
    refine Zh he fun he=>?_
    refine Zh he fun he=>?_
    refine Zh he fun he=>?_
    refine Zh he fun he=>?_
    refine Zh he fun he=>?_
    refine Zh he fun he=>?_
    refine Zh he fun he=>?_
    exact ZHO
 ·exact Z3
def ZeH:Con:=fun
  |[.c (.ptr 0 0),.c (.imm (.int .i64) list_)],[(0,.rc [.imm (.int .u8) r__0,.int .i64 r__1])]=>.opt _ (Zbk list_ (r__0,r__1)) (fun r=>.ret (.c (.int .i64 r.1)) [(0,.rc [.imm (.int .u8) r.2.1,.int .i64 r.2.2])])
  |_,_=>.fail
def ZCF:Cfg:={ y:=tys,n:=12,h:=1,tab:=[(87,Zc0)] }
theorem Zh1:Zn Tryz.prog 54 ZeH:=by
 refine Zq (C:=ZCF) Tryz.f54 (Zk Zeo Zr) fun _ a b k he=>?_
 unfold ZeH at he;split at he;rotate_left;exact he.elim
 rename_i list_ r__0 r__1
 refine Zs he fun he=>?_
 refine Zi he fun r1_ he=>?_
 exact ZMN
def Zny:Con:=fun
  |[.c (.ptr 0 0),.agg [.own 1 false,.own 2 false],.c (.int .i64 a2)],[(0,.rc [.imm (.int .u8) o0_0,.int .i64 o0_1]),(1,.sl 3 (.int .i64) o1 .shallow),(2,.sl 145 (.pair (.int .i64) (.pair (.sl (.int .i64)) (.pair (.sl (.int .i64)) (.pair (.int .i64) (.sl (.sl (.int .i64))))))) o2 (.deep true .no))]=>.opt _ (Zig a2 (o0_0,o0_1) o1 o2) (fun r=>.ret (.c (.own 900 false)) [(0,.rc [.imm (.int .u8) r.1.1,.int .i64 r.1.2]),(1,.sl 3 y0_ o1 .shallow),(2,.sl 145 y5_ o2 (.deep true .no)),(900,.sl 3 y0_ r.2 .shallow)])
  |_,_=>.fail
def ZAd:Cfg:={ y:=tys,n:=96,h:=3,tab:=[(87,Zc0)],cut:=[7,12,18] }
theorem ZPn {P:Prop} (h:P:=by
  refine Zh he fun he=>?_
  refine Zh he fun he=>?_
  exact⟨_,(Zj he :),(Za [(10002001,56)])⟩):P:=h
theorem ZdC {P:Prop} (h:P:=by
  refine Zh he fun he=>?_
  exact⟨_,(Zj he :),(Za [])⟩):P:=h
theorem ZPo {P:Prop} (h:P:=by
  refine Zh he fun he=>?_
  refine Zh he fun he=>?_
  exact⟨_,(Zj he :),(Za [(10000001,26)])⟩):P:=h
theorem ZAH:Zn Tryz.prog 185 Zny:=by
 refine Zq (C:=ZAd) Tryz.f185 (Zk Zeo Zr) fun _ a b k he=>?_
 unfold Zny at he;split at he;rotate_left;exact he.elim
 rename_i a2 o0_0 o0_1 o1 o2
 refine Zs he fun he=>?_
 refine ZK (ZiH a2 o1) (fun (i3,i4)=>(Zm [(0,.c (.ptr 0 0)),(2,.c (.int .i64 a2)),(4,.c (.ptr 10001000 0)),(7,.c (.own 10001001 false))],[(0,.rc [.imm (.int .u8) i3.1,.int .i64 i3.2]),(1,.sl 3 y0_ o1 .shallow),(2,.sl 145 y5_ o2 (.deep true .no)),(10001000,.rc [.own 1 false,.own 2 false]),(10001001,.sl 3 y0_ i4 .shallow)])) he ?_ ?_
 ·rintro⟨i3,i4⟩ he
  refine ZK (ZfM a2 i3) (fun i7=>(Zm [(0,.c (.ptr 0 0)),(2,.c (.int .i64 a2)),(7,.c (.own 10003000 false))],[(0,.rc [.imm (.int .u8) i3.1,.int .i64 i3.2]),(1,.sl 3 y0_ o1 .shallow),(2,.sl 145 y5_ o2 (.deep true .no)),(10003000,.sl 3 y0_ i7 .shallow)])) he ?_ ?_
  ·rintro i7 he
   refine ZK (ZdT i3) (fun i12=>(Zm [(0,.c (.ptr 0 0)),(7,.c (.own 10006000 false))],[(0,.rc [.imm (.int .u8) i3.1,.int .i64 i3.2]),(1,.sl 3 y0_ o1 .shallow),(2,.sl 145 y5_ o2 (.deep true .no)),(10006000,.sl 3 y0_ i12 .shallow)])) he ?_ ?_
   ·rintro i12 he
    refine Zg he (fun he=>?_) fun he=>?_
    ·refine Zi he fun r3_ he=>?_
     refine Zg he (fun he=>?_) fun he=>?_
     ·refine Zh he fun he=>?_
      refine Zh he fun he=>?_
      refine Zh he fun he=>?_
      refine Zh he fun he=>?_
      exact Zv [(6,[])] (Zj he :) (Za [(900,10006000)])
     ·exact Zv [(6,[])] (Zj he :) (Za [(900,10006000)])
    ·exact Zv [(6,[])] (Zj he :) (Za [(900,10006000)])
   ·skip
    refine ZC he (fun he=>?_) fun he=>?_
    ·refine Zg he (fun he=>?_) fun he=>?_
     ·refine Zt (ZmM a2 i3) (fun (i8,i9)=>(Zm [(0,.c (.ptr 0 0)),(2,.c (.int .i64 a2)),(7,.c (.own 10004000 false)),(10,.c (.int .i64 i8))],[(0,.rc [.imm (.int .u8) i3.1,.int .i64 i3.2]),(1,.sl 3 y0_ o1 .shallow),(2,.sl 145 y5_ o2 (.deep true .no)),(10004000,.sl 3 y0_ i9 .shallow)])) he (Za [(10004000,66)]) ?_
      rintro⟨i8,i9⟩ _ he
      refine Zg he (fun he=>?_) fun he=>?_
      ·refine Zh he fun he=>?_
       refine Zh he fun he=>?_
       exact⟨_,(Zj he :),(Za [(10004000,75)])⟩
      ·exact⟨_,(Zbn he :),(Za [(10006000,10004000)])⟩
     ·exact⟨_,he,(Za [(10006000,10003000)])⟩
    ·refine Zt (ZmL a2 i3) (fun (i10,i11)=>(Zm [(0,.c (.ptr 0 0)),(2,.c (.int .i64 a2)),(7,.c (.own 10005000 false)),(10,.c (.int .i64 i10))],[(0,.rc [.imm (.int .u8) i3.1,.int .i64 i3.2]),(1,.sl 3 y0_ o1 .shallow),(2,.sl 145 y5_ o2 (.deep true .no)),(10005000,.sl 3 y0_ i11 .shallow)])) he (Za [(10005000,66)]) ?_
     rintro⟨i10,i11⟩ _ he
     refine Zg he (fun he=>?_) fun he=>?_
     ·refine Zh he fun he=>?_
      refine Zh he fun he=>?_
      exact⟨_,(Zj he :),(Za [(10005000,75)])⟩
     ·exact⟨_,(Zbn he :),(Za [(10006000,10005000)])⟩
  ·skip
   refine Zt (ZiI a2 o1 i3) (fun (i5,i6)=>(Zm [(0,.c (.ptr 0 0)),(2,.c (.int .i64 a2)),(4,.c (.ptr 10002000 0)),(7,.c (.own 10002001 false)),(9,.c (.int .i64 i5))],[(0,.rc [.imm (.int .u8) i3.1,.int .i64 i3.2]),(1,.sl 3 y0_ o1 .shallow),(2,.sl 145 y5_ o2 (.deep true .no)),(10002000,.rc [.own 1 false,.own 2 false]),(10002001,.sl 3 y0_ i6 .shallow)])) he (Za [(10002000,10001000),(10002001,10001001)]) ?_
   rintro⟨i5,i6⟩ _ he
   refine Zg he (fun he=>?_) fun he=>?_
   ·refine Zg he (fun he=>?_) fun he=>?_
    ·refine ZC he (fun he=>?_) fun he=>?_
     ·refine Zh he fun he=>?_
      refine Zh he fun he=>?_
      refine Zg he (fun he=>?_) fun he=>?_
      ·exact ZPn
      ·exact ZdC
     ·exact ZPn
    ·exact⟨_,(Zbn he :),(Za [(10003000,10002001)])⟩
   ·exact⟨_,(Zbn he :),(Za [(10003000,10002001)])⟩
 ·skip
  refine Zt (ZiJ a2 o1) (fun (i,i1,i2)=>(Zm [(0,.c (.ptr 0 0)),(2,.c (.int .i64 a2)),(4,.c (.ptr 10000000 0)),(7,.c (.own 10000001 false)),(8,.c (.int .i64 i))],[(0,.rc [.imm (.int .u8) i1.1,.int .i64 i1.2]),(1,.sl 3 y0_ o1 .shallow),(2,.sl 145 y5_ o2 (.deep true .no)),(10000000,.rc [.own 1 false,.own 2 false]),(10000001,.sl 3 y0_ i2 .shallow)])) he (Za [(10000000,4),(10000001,12)]) ?_
  rintro⟨i,i1,i2⟩ _ he
  refine Zg he (fun he=>?_) fun he=>?_
  ·refine Zi he fun r2_ he=>?_
   refine Zg he (fun he=>?_) fun he=>?_
   ·exact ZPo
   ·exact ZdC
  ·exact⟨_,(Zbn he :),(Za [(10001000,10000000),(10001001,10000001)])⟩
def Znx:Con:=fun
  |[.c (.ptr 0 0),.agg [.own 1 false,.own 2 false]],[(0,.rc [.imm (.int .u8) o0_0,.int .i64 o0_1]),(1,.sl 3 (.int .i64) o1 .shallow),(2,.sl 145 (.pair (.int .i64) (.pair (.sl (.int .i64)) (.pair (.sl (.int .i64)) (.pair (.int .i64) (.sl (.sl (.int .i64))))))) o2 (.deep true .no))]=>.opt _ (ZlK (o0_0,o0_1) o1 o2) (fun r=>.ret (.agg [.int .i64 r.2.1,.own 901 false,.own 902 false,.int .i64 r.2.2.1,.own 903 false]) [(0,.rc [.imm (.int .u8) r.1.1,.int .i64 r.1.2]),(1,.sl 3 y0_ o1 .shallow),(2,.sl 145 y5_ o2 (.deep true .no)),(900,.rc [.int .i64 r.2.1,.own 901 false,.own 902 false,.int .i64 r.2.2.1,.own 903 false]),(901,.sl 3 y0_ r.2.2.2.1 .shallow),(902,.sl 3 y0_ r.2.2.2.2.1 .shallow),(903,.sl 23 (.sl y0_) r.2.2.2.2.2 (.deep true .no))])
  |_,_=>.fail
def Zqd:Sched:=.alt 6 (.first 7 (.alt 8 .done .stop)) .stop
def Zqe:Sched:=.alt 5 Zqd .stop
def Zqf:Sched:=.alt 4 Zqe .stop
def ZAc:Cfg:={ y:=tys,n:=77,h:=3,tab:=[(54,ZeH),(87,Zc0),(185,Zny)],cut:=[9,19],hand:=[(185,[1])],deep:=[66],sched:=[(8,(Zy [0,2] (.alt 1 (.alt 3 Zqf .stop) (.alt 3 (.alt 1 Zqf (.alt 4 (.alt 1 Zqe (.alt 5 (.alt 1 Zqd .stop) .stop)) .stop)) .stop))))] }
theorem ZMO {P:Prop} (h:P:=by
  refine Zh he fun he=>?_
  exact⟨_,(Zj he :),(Za [(10000003,35)])⟩):P:=h
theorem ZHP {P:Prop} (h:P:=by
  refine Y4 ?_
  refine Y4 ?_
  refine And.intro hq2 ?_
  refine Y4 ?_
  exact ZMO):P:=h
theorem ZAG:Zn Tryz.prog 124 Znx:=by
 refine Zq (C:=ZAc) Tryz.f124 (Zk Zh1 (Zk Zeo (Zk ZAH Zr))) fun _ a b k he=>?_
 unfold Znx at he;split at he;rotate_left;exact he.elim
 rename_i o0_0 o0_1 o1 o2
 refine Zs he fun he=>?_
 refine Zi he fun r1_ he=>?_
 refine Zi he fun r2_ he=>?_
 refine Zg he (fun he=>?_) fun he=>?_
 ·refine ZK (ZmJ r1_ r2_) (fun (i2,i_21)=>(Zm [(0,.c (.ptr 0 0)),(4,.c (.ptr 10001000 0)),(5,.c (.ptr 10001001 0))],[(0,.rc [.imm (.int .u8) i2.1,.int .i64 i2.2]),(1,.sl 3 y0_ o1 .shallow),(2,.sl 145 y5_ o2 (.deep true .no)),(10001000,.rc [.int .i64 (0:Int),.nil,.nil,.int .i64 (0:Int),.nil]),(10001001,.rc [.int .i64 r1_.1,.own 10001002 false,.own 10001003 false,.int .i64 (0:Int),.nil]),(10001002,.sl 3 y0_ r2_.2 .shallow),(10001003,.sl 3 y0_ i_21 .shallow)])) he ?_ ?_
  ·rintro⟨i2,i_21⟩ he
   refine Zi he fun r6_ he=>?_
   exact Zv [(4,[900])] (Zj he :) (Za [(900,10001000),(901,10001002),(902,10001003)])
  ·skip
   refine Zt (ZiE r1_ r2_) (fun (i,i1,i_2)=>(Zm [(0,.c (.ptr 0 0)),(4,.c (.ptr 10000000 0)),(5,.c (.ptr 10000001 0)),(6,.c (.int .i64 i))],[(0,.rc [.imm (.int .u8) i1.1,.int .i64 i1.2]),(1,.sl 3 y0_ o1 .shallow),(2,.sl 145 y5_ o2 (.deep true .no)),(10000000,.rc [.int .i64 (0:Int),.nil,.nil,.int .i64 (0:Int),.nil]),(10000001,.rc [.int .i64 r1_.1,.own 10000002 false,.own 10000003 false,.int .i64 (0:Int),.nil]),(10000002,.sl 3 y0_ r2_.2 .shallow),(10000003,.sl 3 y0_ i_2 .shallow)])) he (Za [(10000000,4),(10000001,5),(10000002,17900)]) ?_
   rintro⟨i,i1,i_2⟩ _ he
   refine Zg he (fun he=>?_) fun he=>?_
   ·refine And.intro (by kernel_rfl) ?_
    obtain⟨r5_,hq1,he⟩:=ZS he
    obtain⟨hq2,he⟩:=ZD he
    refine Y5 ?_ ?_
    ·skip
     refine Y4 ?_
     refine Y4 ?_
     refine⟨r5_,hq1,?_⟩
     exact ZHP
    ·skip
     refine Y5 ?_ ?_
     ·skip
      refine Y4 ?_
      refine⟨r5_,hq1,?_⟩
      exact ZHP
     ·skip
      refine⟨r5_,hq1,?_⟩
      refine Y5 ?_ ?_
      ·skip
       exact ZHP
      ·skip
       exact ZHP
   ·exact⟨_,(Zbn he :),(Za [(10001000,10000000),(10001001,10000001),(10001002,10000002),(10001003,10000003)])⟩
 ·refine Zg he (fun he=>?_) fun he=>?_
  ·refine Zi he fun r7_ he=>?_
   refine Zt (ZiF r1_ r2_) (fun (i3,i9,i_4)=>(Zm [(0,.c (.ptr 0 0)),(4,.c (.ptr 10002000 0)),(5,.c (.ptr 10002001 0)),(7,.c (.int .i64 i3))],[(0,.rc [.imm (.int .u8) i9.1,.int .i64 i9.2]),(1,.sl 3 y0_ o1 .shallow),(2,.sl 145 y5_ o2 (.deep true .no)),(10002000,.rc [.int .i64 (0:Int),.nil,.nil,.int .i64 (0:Int),.nil]),(10002001,.rc [.int .i64 r1_.1,.own 10002002 false,.nil,.int .i64 (0:Int),.own 10002003 false]),(10002002,.sl 3 y0_ r2_.2 .shallow),(10002003,.sl 23 (.sl y0_) i_4 (.deep true .no))])) he (Za [(10002000,4),(10002001,5),(10002002,17900)]) ?_
   rintro⟨i3,i9,i_4⟩ _ he
   refine Zg he (fun he=>?_) fun he=>?_
   ·refine ZK (ZmK i3 i_4) (fun (i13,i14)=>(Zm [(0,.c (.ptr 0 0)),(4,.c (.ptr 10006000 0)),(5,.c (.ptr 10006001 0)),(7,.c (.int .i64 i3)),(8,.c (.own 10006002 false))],[(0,.rc [.imm (.int .u8) i13.1,.int .i64 i13.2]),(1,.sl 3 y0_ o1 .shallow),(2,.sl 145 y5_ o2 (.deep true .no)),(10006000,.rc [.int .i64 (0:Int),.nil,.nil,.int .i64 (0:Int),.nil]),(10006001,.rc [.int .i64 r1_.1,.own 10006003 false,.nil,.int .i64 (0:Int),.own 10006004 false]),(10006002,.sl 3 y0_ i14 .shallow),(10006003,.sl 3 y0_ r2_.2 .shallow),(10006004,.sl 23 (.sl y0_) i_4 (.deep true .no))])) he ?_ ?_
    ·rintro⟨i13,i14⟩ he
     refine Zh he fun he=>?_
     refine Zh he fun he=>?_
     exact⟨_,(Zj he :),(Za [(10002000,10006000),(10002001,10006001),(10002002,10006003),(10002003,67)])⟩
    ·skip
     refine Zt (ZiG r2_ i3 i_4) (fun (i10,i11,i12)=>(Zm [(0,.c (.ptr 0 0)),(4,.c (.ptr 10005000 0)),(5,.c (.ptr 10005001 0)),(7,.c (.int .i64 i3)),(8,.c (.own 10005002 false)),(9,.c (.int .i64 i10))],[(0,.rc [.imm (.int .u8) i11.1,.int .i64 i11.2]),(1,.sl 3 y0_ o1 .shallow),(2,.sl 145 y5_ o2 (.deep true .no)),(10005000,.rc [.int .i64 (0:Int),.nil,.nil,.int .i64 (0:Int),.nil]),(10005001,.rc [.int .i64 r1_.1,.own 10005003 false,.nil,.int .i64 (0:Int),.own 10005004 false]),(10005002,.sl 3 y0_ i12 .shallow),(10005003,.sl 3 y0_ r2_.2 .shallow),(10005004,.sl 23 (.sl y0_) i_4 (.deep true .no))])) he (Za [(10005000,10002000),(10005001,10002001),(10005002,50),(10005003,10002002),(10005004,10002003)]) ?_
     rintro⟨i10,i11,i12⟩ _ he
     refine Zg he (fun he=>?_) fun he=>?_
     ·refine Zi he fun r11_ he=>?_
      refine Zh he fun he=>?_
      refine Zh he fun he=>?_
      exact⟨_,(Zj he :),(Za [(10005002,62)])⟩
     ·exact⟨_,(Zbn he :),(Za [(10006000,10005000),(10006001,10005001),(10006002,10005002),(10006003,10005003),(10006004,10005004)])⟩
   ·exact Zv [(4,[900])] (Zj he :) (Za [(900,10002000),(901,10002002),(903,10002003)])
  ·refine Zg he (fun he=>?_) fun he=>?_
   ·refine Zi he fun r12_ he=>?_
    refine Zh he fun he=>?_
    exact Zv [(4,[900])] (Zj he :) (Za [(900,4),(901,74)])
   ·exact Zv [(4,[900])] (Zj he :) (Za [(900,4),(901,17900)])
def ZrI:Con:=fun
  |[.c (.ptr 0 0)],[(0,.rc [.imm (.int .u8) o0_0,.int .i64 o0_1])]=>.opt _ (Zrh (o0_0,o0_1)) (fun r=>.ret (.agg [.own 901 false,.own 902 false]) [(0,.rc [.imm (.int .u8) r.1.1,.int .i64 r.1.2]),(900,.rc [.own 901 false,.own 902 false]),(901,.sl 3 y0_ r.2.1 .shallow),(902,.sl 145 y5_ r.2.2 (.deep true .no))])
  |_,_=>.fail
def ZtH:Sched:=.alt 6 (.first 7 (.alt 8 .done .stop)) .stop
def ZtI:Sched:=.alt 5 ZtH .stop
def ZtJ:Sched:=.alt 4 ZtI .stop
def ZtK:Sched:=Zy [0,2] (.alt 1 (.alt 3 ZtJ .stop) (.alt 3 (.alt 1 ZtJ (.alt 4 (.alt 1 ZtI (.alt 5 (.alt 1 ZtH .stop) .stop)) .stop)) .stop))
def ZE5:Cfg:={ y:=tys,n:=67,h:=1,tab:=[(54,ZeH),(124,Znx)],cut:=[6,15],hand:=[(124,[1])],deep:=[63],sched:=[(5,ZtK),(18,ZtK)] }
theorem ZHQ {P:Prop} (h:P:=by
  refine Y4 ?_
  refine Y4 ?_
  refine And.intro hq2 ?_
  refine Y4 ?_
  refine Zh he fun he=>?_
  exact⟨_,(Zj he :),(Za [(10006003,64)])⟩):P:=h
theorem ZBo {P:Prop} (h:P:=by
  refine Zh he fun he=>?_
  exact ZdC):P:=h
theorem Zvu {P:Prop} (h:P:=by
  refine Zh he fun he=>?_
  exact ZBo):P:=h
theorem Zvv {P:Prop} (h:P:=by
  refine Zh he fun he=>?_
  exact Zvu):P:=h
theorem ZNW {P:Prop} (h:P:=by
  exact⟨_,(Zj he :),(Za [(10002000,10004000),(10002001,10004001),(10002002,10004002)])⟩):P:=h
theorem ZNX {P:Prop} (h:P:=by
  refine Zh he fun he=>?_
  exact⟨_,(Zj he :),(Za [(10000002,22)])⟩):P:=h
theorem ZEF {P:Prop} (h:P:=by
  refine Y4 ?_
  refine Y4 ?_
  refine And.intro hq2 ?_
  refine Y4 ?_
  exact ZNX):P:=h
theorem ZFr:Zn Tryz.prog 52 ZrI:=by
 refine Zq (C:=ZE5) Tryz.f52 (Zk Zh1 (Zk ZAG Zr)) fun _ a b k he=>?_
 unfold ZrI at he;split at he;rotate_left;exact he.elim
 rename_i o0_0 o0_1
 refine Zs he fun he=>?_
 refine ZK (Zna) (fun (i2,i_01)=>(Zm [(0,.c (.ptr 0 0)),(2,.c (.ptr 10001000 0)),(3,.c (.ptr 10001001 0))],[(0,.rc [.imm (.int .u8) i2.1,.int .i64 i2.2]),(10001000,.rc [.nil,.nil]),(10001001,.rc [.own 10001002 false,.nil]),(10001002,.sl 3 y0_ i_01 .shallow)])) he ?_ ?_
 ·rintro⟨i2,i_01⟩ he
  refine ZK (Znb i2) (fun i_03=>(Zm [(0,.c (.ptr 0 0)),(2,.c (.ptr 10005000 0)),(3,.c (.ptr 10005001 0))],[(0,.rc [.imm (.int .u8) i2.1,.int .i64 i2.2]),(10005000,.rc [.nil,.nil]),(10005001,.rc [.own 10005002 false,.nil]),(10005002,.sl 3 y0_ i_03 .shallow)])) he ?_ ?_
  ·rintro i_03 he
   refine Zi he fun r5_ he=>?_
   refine Zt (Znc i_03) (fun (i8,i9,i_1)=>(Zm [(0,.c (.ptr 0 0)),(2,.c (.ptr 10006000 0)),(3,.c (.ptr 10006001 0)),(7,.c (.int .i64 i8))],[(0,.rc [.imm (.int .u8) i9.1,.int .i64 i9.2]),(10006000,.rc [.nil,.nil]),(10006001,.rc [.own 10006002 false,.own 10006003 false]),(10006002,.sl 3 y0_ i_03 .shallow),(10006003,.sl 145 y5_ i_1 (.deep true .no))])) he (Za [(10006000,10005000),(10006001,10005001),(10006002,10005002)]) ?_
   rintro⟨i8,i9,i_1⟩ _ he
   refine Zg he (fun he=>?_) fun he=>?_
   ·refine And.intro (by kernel_rfl) ?_
    obtain⟨r8_,hq1,he⟩:=ZS he
    obtain⟨hq2,he⟩:=ZD he
    refine Y5 ?_ ?_
    ·skip
     refine Y4 ?_
     refine Y4 ?_
     refine⟨r8_,hq1,?_⟩
     exact ZHQ
    ·skip
     refine Y5 ?_ ?_
     ·skip
      refine Y4 ?_
      refine⟨r8_,hq1,?_⟩
      exact ZHQ
     ·skip
      refine⟨r8_,hq1,?_⟩
      refine Y5 ?_ ?_
      ·skip
       exact ZHQ
      ·skip
       exact ZHQ
   ·exact Zv [(2,[900])] (Zj he :) (Za [(900,10006000),(901,10006002),(902,10006003)])
  ·skip
   refine Zt (Znd i2) (fun (i3,i_02)=>(Zm [(0,.c (.ptr 0 0)),(2,.c (.ptr 10002000 0)),(3,.c (.ptr 10002001 0)),(5,.c (.int .i64 i3))],[(0,.rc [.imm (.int .u8) i2.1,.int .i64 i2.2]),(10002000,.rc [.nil,.nil]),(10002001,.rc [.own 10002002 false,.nil]),(10002002,.sl 3 y0_ i_02 .shallow)])) he (Za [(10002000,10001000),(10002001,10001001),(10002002,10001002)]) ?_
   rintro⟨i3,i_02⟩ _ he
   refine Zg he (fun he=>?_) fun he=>?_
   ·refine Zt (ZgL i_02) (fun (i6,i7)=>(Zm [(0,.c (.ptr 0 0)),(2,.c (.ptr 10004000 0)),(3,.c (.ptr 10004001 0)),(5,.c (.int .i64 i6)),(6,.c (.int .i64 i7))],[(0,.rc [.imm (.int .u8) i2.1,.int .i64 i2.2]),(10004000,.rc [.nil,.nil]),(10004001,.rc [.own 10004002 false,.nil]),(10004002,.sl 3 y0_ i_02 .shallow)])) he (Za [(10004000,10002000),(10004001,10002001),(10004002,10002002)]) ?_
    rintro⟨i6,i7⟩ _ he
    refine Zg he (fun he=>?_) fun he=>?_
    ·exact Zvv
    ·refine Zg he (fun he=>?_) fun he=>?_
     ·refine Zh he fun he=>?_
      refine Zh he fun he=>?_
      exact⟨_,(Zj he :),(Za [(10002000,10004000),(10002001,10004001),(10002002,49)])⟩
     ·exact ZNW
   ·exact⟨_,(Zbn he :),(Za [(10005000,10002000),(10005001,10002001),(10005002,10002002)])⟩
 ·skip
  refine Zi he fun r1_ he=>?_
  refine Zt (Zne) (fun (i,i1,i_0)=>(Zm [(0,.c (.ptr 0 0)),(2,.c (.ptr 10000000 0)),(3,.c (.ptr 10000001 0)),(4,.c (.int .i64 i))],[(0,.rc [.imm (.int .u8) i1.1,.int .i64 i1.2]),(10000000,.rc [.nil,.nil]),(10000001,.rc [.own 10000002 false,.nil]),(10000002,.sl 3 y0_ i_0 .shallow)])) he (Za [(10000000,2),(10000001,3)]) ?_
  rintro⟨i,i1,i_0⟩ _ he
  refine Zg he (fun he=>?_) fun he=>?_
  ·refine And.intro (by kernel_rfl) ?_
   obtain⟨r4_,hq1,he⟩:=ZS he
   obtain⟨hq2,he⟩:=ZD he
   refine Y5 ?_ ?_
   ·skip
    refine Y4 ?_
    refine Y4 ?_
    refine⟨r4_,hq1,?_⟩
    exact ZEF
   ·skip
    refine Y5 ?_ ?_
    ·skip
     refine Y4 ?_
     refine⟨r4_,hq1,?_⟩
     exact ZEF
    ·skip
     refine⟨r4_,hq1,?_⟩
     refine Y5 ?_ ?_
     ·skip
      exact ZEF
     ·skip
      exact ZEF
  ·exact⟨_,(Zbn he :),(Za [(10001000,10000000),(10001001,10000001),(10001002,10000002)])⟩
def Ztf:Con:=fun
  |[.agg [.imm (.int .i64) m_0,.imm (.pair (.int .i64) (.pair (.sl (.int .i64)) (.pair (.sl (.int .i64)) (.pair (.int .i64) (.sl (.sl (.int .i64))))))) m_1]],[]=>.opt _ (Zr8 (m_0,m_1)) (fun r=>.ret (.agg [.own 901 false,.own 902 false]) [(900,.rc [.own 901 false,.own 902 false]),(901,.sl 3 y0_ r.1 .shallow),(902,.sl 145 y5_ r.2 (.deep true .no))])
  |_,_=>.fail
def ZuL:Sched:=.alt 14 .done .stop
def ZuM:Sched:=.alt 12 ZuL .stop
def ZpH:Sched:=.alt 9 ZuM .stop
def ZuN:Sched:=.alt 9 (.alt 12 (.alt 13 ZuL .stop) (.alt 13 ZuM .stop)) (.alt 13 ZpH .stop)
def ZuO:Sched:=.alt 6 ZpH .stop
def ZpI:Sched:=.alt 5 ZpH .stop
def ZuP:Sched:=.alt 5 ZuN (.alt 13 ZpI .stop)
def ZuQ:Sched:=.alt 5 ZuO (.alt 6 ZpI .stop)
def ZuR:Sched:=.alt 2 ZpI .stop
def ZtE:Sched:=.alt 10 (.first 11 (.alt 12 .done .stop)) .stop
def ZtF:Sched:=.alt 9 ZtE .stop
def ZtG:Sched:=.alt 8 ZtF .stop
def ZG7:Cfg:={ y:=tys,n:=64,h:=0,tab:=[],cut:=[1,6,7,11],deep:=[54,60],sched:=[(6,(Zy [0,1,3,4,7,8,10,11] (.alt 2 (.alt 5 (.alt 6 ZuN (.alt 13 ZuO .stop)) (.alt 6 ZuP (.alt 13 ZuQ .stop))) (.alt 6 (.alt 2 ZuP (.alt 13 ZuR .stop)) (.alt 13 (.alt 2 ZuQ (.alt 6 ZuR .stop)) .stop))))),(10,(Zy [0,3,4,5,6,7] (.alt 1 (.alt 2 ZtG .stop) (.alt 2 (.alt 1 ZtG (.alt 8 (.alt 1 ZtF (.alt 9 (.alt 1 ZtE .stop) .stop)) .stop)) .stop))))] }
theorem ZEG {P:Prop} (h:P:=by
  refine Y4 ?_
  refine Y4 ?_
  refine And.intro hq2 ?_
  refine Y4 ?_
  refine Zh he fun he=>?_
  exact⟨_,(Zj he :),(Za [(10008007,55)])⟩):P:=h
theorem ZJF {P:Prop} (h:P:=by
  refine Y4 ?_
  refine Y4 ?_
  exact⟨_,he,(Za [(10007000,10006000),(10007001,10006001),(10007002,6),(10007003,10006002),(10007004,10006003),(10007005,30),(10007006,34)])⟩):P:=h
theorem Zvw {P:Prop} (h:P:=by
  refine Y4 ?_
  refine And.intro hq2 ?_
  exact ZJF):P:=h
theorem ZNY {P:Prop} (h:P:=by
  refine Y5 ?_ ?_
  ·skip
   refine And.intro hq2 ?_
   refine Y5 ?_ ?_
   ·skip
    exact ZJF
   ·skip
    exact ZJF
  ·skip
   exact Zvw):P:=h
theorem ZNZ {P:Prop} (h:P:=by
  skip
  refine Y5 ?_ ?_
  ·skip
   refine And.intro hq1 ?_
   exact ZNY
  ·skip
   refine Y4 ?_
   refine And.intro hq1 ?_
   exact Zvw):P:=h
theorem ZN0 {P:Prop} (h:P:=by
  skip
  refine Y5 ?_ ?_
  ·skip
   refine And.intro hq1 ?_
   refine Y4 ?_
   exact Zvw
  ·skip
   refine Y4 ?_
   refine And.intro hq1 ?_
   exact Zvw):P:=h
theorem ZHl:Zn Tryz.prog 123 Ztf:=by
 refine Zq (C:=ZG7) Tryz.f123 Zr fun _ a b k he=>?_
 unfold Ztf at he;split at he;rotate_left;exact he.elim
 rename_i m_0 m_1
 refine Zs he fun he=>?_
 refine ZK (ZxS (m_0,m_1)) (fun _=>(Zm [(1,.c (.iptr ZGk (m_0,m_1) 0)),(2,.c (.ptr 10000000 0))],[(10000000,.rc [.nil,.nil])])) he ?_ ?_
 ·rintro⟨⟩ he
  refine Zh he fun he=>?_
  refine Zt (ZrU (m_0,m_1)) (fun (i,out_1)=>(Zm [(1,.c (.iptr ZGk (m_0,m_1) 0)),(2,.c (.ptr 10001000 0)),(3,.c (.ptr 10001001 0)),(4,.c (.int .i64 i))],[(10001000,.rc [.nil,.nil]),(10001001,.rc [.own 10001002 false,.own 10001003 false]),(10001002,.sl 3 y0_ (([]:List Int)++(m_0,m_1).1) .shallow),(10001003,.sl 145 y5_ out_1 (.deep true .no))])) he (Za [(10001000,10000000),(10001001,3),(10001002,11)]) ?_
  rintro⟨i,out_1⟩ _ he
  refine Zg he (fun he=>?_) fun he=>?_
  ·refine ZK (ZxT (m_0,m_1) i out_1) (fun _=>(Zm [(1,.c (.iptr ZGk (m_0,m_1) 0)),(2,.c (.ptr 10006000 0)),(3,.c (.ptr 10006001 0)),(4,.c (.int .i64 i)),(5,.c (.iptr y5_ ((m_0,m_1).2.getD i.toNat (0,([],([],(0,[]))))) 0))],[(10006000,.rc [.nil,.nil]),(10006001,.rc [.own 10006002 false,.own 10006003 false]),(10006002,.sl 3 y0_ (([]:List Int)++(m_0,m_1).1) .shallow),(10006003,.sl 145 y5_ out_1 (.deep true .no))])) he ?_ ?_
   ·rintro⟨⟩ he
    refine ZK (ZxU (m_0,m_1) i out_1) (fun _=>(Zm [(1,.c (.iptr ZGk (m_0,m_1) 0)),(2,.c (.ptr 10007000 0)),(3,.c (.ptr 10007001 0)),(4,.c (.int .i64 i)),(5,.c (.iptr y5_ ((m_0,m_1).2.getD i.toNat (0,([],([],(0,[]))))) 0)),(6,.c (.ptr 10007002 0))],[(10007000,.rc [.nil,.nil]),(10007001,.rc [.own 10007003 false,.own 10007004 false]),(10007002,.rc [.int .i64 ((m_0,m_1).2.getD i.toNat (0,([],([],(0,[]))))).1,.own 10007005 false,.own 10007006 false,.int .i64 ((m_0,m_1).2.getD i.toNat (0,([],([],(0,[]))))).2.2.2.1,.nil]),(10007003,.sl 3 y0_ (([]:List Int)++(m_0,m_1).1) .shallow),(10007004,.sl 145 y5_ out_1 (.deep true .no)),(10007005,.sl 3 y0_ (([]:List Int)++((m_0,m_1).2.getD i.toNat (0,([],([],(0,[]))))).2.1) .shallow),(10007006,.sl 3 y0_ (([]:List Int)++((m_0,m_1).2.getD i.toNat (0,([],([],(0,[]))))).2.2.1) .shallow)])) he ?_ ?_
    ·rintro⟨⟩ he
     refine ZK (ZxV (m_0,m_1) i out_1) (fun y_43=>(Zm [(1,.c (.iptr ZGk (m_0,m_1) 0)),(2,.c (.ptr 10009000 0)),(3,.c (.ptr 10009001 0)),(4,.c (.int .i64 i)),(6,.c (.ptr 10009002 0))],[(10009000,.rc [.nil,.nil]),(10009001,.rc [.own 10009003 false,.own 10009004 false]),(10009002,.rc [.int .i64 ((m_0,m_1).2.getD i.toNat (0,([],([],(0,[]))))).1,.own 10009005 false,.own 10009006 false,.int .i64 ((m_0,m_1).2.getD i.toNat (0,([],([],(0,[]))))).2.2.2.1,.own 10009007 false]),(10009003,.sl 3 y0_ (([]:List Int)++(m_0,m_1).1) .shallow),(10009004,.sl 145 y5_ out_1 (.deep true .no)),(10009005,.sl 3 y0_ (([]:List Int)++((m_0,m_1).2.getD i.toNat (0,([],([],(0,[]))))).2.1) .shallow),(10009006,.sl 3 y0_ (([]:List Int)++((m_0,m_1).2.getD i.toNat (0,([],([],(0,[]))))).2.2.1) .shallow),(10009007,.sl 23 (.sl y0_) y_43 (.deep true .no))])) he ?_ ?_
     ·rintro y_43 he
      refine Zh he fun he=>?_
      refine Zh he fun he=>?_
      exact⟨_,(Zj he :),(Za [(10001000,10009000),(10001001,10009001),(10001002,10009003),(10001003,61)])⟩
     ·skip
      refine Zt (ZhO (m_0,m_1) i out_1) (fun (k_1,y_42)=>(Zm [(1,.c (.iptr ZGk (m_0,m_1) 0)),(2,.c (.ptr 10008000 0)),(3,.c (.ptr 10008001 0)),(4,.c (.int .i64 i)),(5,.c (.iptr y5_ ((m_0,m_1).2.getD i.toNat (0,([],([],(0,[]))))) 0)),(6,.c (.ptr 10008002 0)),(7,.c (.int .i64 k_1))],[(10008000,.rc [.nil,.nil]),(10008001,.rc [.own 10008003 false,.own 10008004 false]),(10008002,.rc [.int .i64 ((m_0,m_1).2.getD i.toNat (0,([],([],(0,[]))))).1,.own 10008005 false,.own 10008006 false,.int .i64 ((m_0,m_1).2.getD i.toNat (0,([],([],(0,[]))))).2.2.2.1,.own 10008007 false]),(10008003,.sl 3 y0_ (([]:List Int)++(m_0,m_1).1) .shallow),(10008004,.sl 145 y5_ out_1 (.deep true .no)),(10008005,.sl 3 y0_ (([]:List Int)++((m_0,m_1).2.getD i.toNat (0,([],([],(0,[]))))).2.1) .shallow),(10008006,.sl 3 y0_ (([]:List Int)++((m_0,m_1).2.getD i.toNat (0,([],([],(0,[]))))).2.2.1) .shallow),(10008007,.sl 23 (.sl y0_) y_42 (.deep true .no))])) he (Za [(10008000,10007000),(10008001,10007001),(10008002,10007002),(10008003,10007003),(10008004,10007004),(10008005,10007005),(10008006,10007006)]) ?_
      rintro⟨k_1,y_42⟩ _ he
      refine Zg he (fun he=>?_) fun he=>?_
      ·refine And.intro (by kernel_rfl) ?_
       refine Zh he fun he=>?_
       obtain⟨hq1,he⟩:=ZD he
       obtain⟨hq2,he⟩:=ZD he
       refine Y5 ?_ ?_
       ·skip
        refine Y4 ?_
        refine Y4 ?_
        refine And.intro hq1 ?_
        exact ZEG
       ·skip
        refine Y5 ?_ ?_
        ·skip
         refine Y4 ?_
         refine And.intro hq1 ?_
         exact ZEG
        ·skip
         refine And.intro hq1 ?_
         refine Y5 ?_ ?_
         ·skip
          exact ZEG
         ·skip
          exact ZEG
      ·exact⟨_,(Zbn he :),(Za [(10009000,10008000),(10009001,10008001),(10009002,10008002),(10009003,10008003),(10009004,10008004),(10009005,10008005),(10009006,10008006),(10009007,10008007)])⟩
    ·skip
     refine And.intro (by kernel_rfl) ?_
     obtain⟨hq1,he⟩:=ZD he
     obtain⟨hq2,he⟩:=ZD he
     refine And.intro ?_ (And.intro ?_ (And.intro ?_ (Y1)))
     ·skip
      refine And.intro ?_ (And.intro ?_ (And.intro ?_ (Y1)))
      ·skip
       refine And.intro hq1 ?_
       refine Y5 ?_ ?_
       ·skip
        exact ZNY
       ·skip
        refine Y4 ?_
        exact Zvw
      ·exact ZNZ
      ·exact ZN0
     ·skip
      refine Y5 ?_ ?_
      ·exact ZNZ
      ·skip
       refine Y4 ?_
       refine Y4 ?_
       refine And.intro hq1 ?_
       exact Zvw
     ·skip
      refine Y5 ?_ ?_
      ·exact ZN0
      ·skip
       refine Y4 ?_
       refine Y4 ?_
       refine And.intro hq1 ?_
       exact Zvw
   ·skip
    refine Zh he fun he=>?_
    exact⟨_,he,(ZcA [(10006000,10001000),(10006001,10001001),(10006002,10001002),(10006003,10001003)] rfl rfl ⟨⟨rfl,rfl,Y1⟩,⟨Y3,Y3,Y1⟩,Y2,Y2,Y1⟩ ⟨.inl rfl,⟨Y2,rfl⟩,⟨Y2,rfl⟩,rfl,.inr ⟨5,rfl,⟨rfl,by repeat (first|exact trivial|refine And.intro trivial ?_)⟩,rfl⟩,Y1⟩)⟩
  ·exact Zv [(2,[900])] (Zj he :) (Za [(900,10001000),(901,10001002),(902,10001003)])
 ·skip
  exact⟨_,he,(ZcA [(10000000,2)] rfl rfl ⟨⟨rfl,rfl,Y1⟩,Y1⟩ ⟨.inr ⟨1,rfl,⟨rfl,by repeat (first|exact trivial|refine And.intro trivial ?_)⟩,rfl⟩,⟨Y2,rfl⟩,Y1⟩)⟩
def ZqL:Con:=fun
  |[.c (.ptr 0 0),.agg [.imm (.int .i64) a1_0,.imm (.pair (.int .i64) (.pair (.sl (.int .i64)) (.pair (.sl (.int .i64)) (.pair (.int .i64) (.sl (.sl (.int .i64))))))) a1_1]],[(0,.rc [.imm (.int .u8) o0_0,.int .i64 o0_1])]=>.opt _ (Zpx (a1_0,a1_1) (o0_0,o0_1)) (fun r=>.ret (.agg [.own 901 false,.own 902 false]) [(0,.rc [.imm (.int .u8) r.1.1,.int .i64 r.1.2]),(900,.rc [.own 901 false,.own 902 false]),(901,.sl 3 y0_ r.2.1 .shallow),(902,.sl 145 y5_ r.2.2 (.deep true .no))])
  |_,_=>.fail
def Zsw:Sched:=.first 5 (.alt 6 .done .stop)
def Zsx:Sched:=.alt 4 Zsw .stop
def Zsy:Sched:=Zy [5,6] (.alt 7 .done .stop)
def Zsz:Sched:=.alt 4 Zsy .stop
def ZsA:Sched:=Zy [0,2] (.alt 1 (.alt 3 Zsz .stop) (.alt 3 (.alt 1 Zsz (.alt 4 (.alt 1 Zsy .stop) .stop)) .stop))
def ZsB:Sched:=.first 10 (.alt 11 .done .stop)
def ZsC:Sched:=.alt 9 ZsB .stop
def ZsD:Sched:=.alt 6 ZsB .stop
def ZsE:Sched:=.alt 6 ZsC (.alt 9 ZsD .stop)
def ZDB:Cfg:={ y:=tys,n:=89,h:=1,tab:=[(54,ZeH),(87,Zc0),(123,Ztf)],sched:=[(6,(Zy [0,2] (.alt 1 (.alt 3 Zsx .stop) (.alt 3 (.alt 1 Zsx (.alt 4 (.alt 1 Zsw .stop) .stop)) .stop)))),(12,ZsA),(15,(Zy [0,2,3,7] (.alt 1 (Zy [4,5] (.alt 6 (.alt 8 ZsC .stop) (.alt 8 ZsE .stop))) (.alt 8 (.alt 1 (Zy [4,5] ZsE) (.alt 9 (.alt 1 (Zy [4,5] ZsD) .stop) .stop)) .stop)))),(18,ZsA)] }
theorem Zx4 {P:Prop} (h:P:=by
  exact Zv [(4,[900])] (Zj he :) (Za [(900,4),(901,9901),(902,9902)])):P:=h
theorem Zvx {P:Prop} (h:P:=by
  refine And.intro hq2 ?_
  refine Y4 ?_
  exact Zx4):P:=h
theorem ZJG {P:Prop} (h:P:=by
  refine Y4 ?_
  exact Zvx):P:=h
theorem ZEH {P:Prop} (h:P:=by
  refine And.intro hq3 ?_
  refine Y4 ?_
  exact Zv [(4,[900])] (Zj he :) ((ZCr [9902] rfl).trans (Za [(900,4),(901,9901),(902,9902)] (l:=[(4,.c (.ptr 900 0))]) (st':=[(0,.rc [.imm (.int .u8) r8_.2.1,.int .i64 r8_.2.2]),(900,.rc [.own 901 false,.own 902 false]),(901,.sl 3 y0_ r1_.1 .shallow),(902,.sl 145 y5_ ((r1_.2.set ((r1_.2.length:Int) - (1:Int)).toNat (r1_.2.getD ((r1_.2.length:Int) - (1:Int)).toNat (0,([],([],(0,[])))))).set ((r1_.2.length:Int) - (1:Int)).toNat (((r1_.2.set ((r1_.2.length:Int) - (1:Int)).toNat (r1_.2.getD ((r1_.2.length:Int) - (1:Int)).toNat (0,([],([],(0,[])))))).getD ((r1_.2.length:Int) - (1:Int)).toNat (0,([],([],(0,[]))))).1,((((r1_.2.set ((r1_.2.length:Int) - (1:Int)).toNat (r1_.2.getD ((r1_.2.length:Int) - (1:Int)).toNat (0,([],([],(0,[])))))).getD ((r1_.2.length:Int) - (1:Int)).toNat (0,([],([],(0,[]))))).2.1.set (0:Int).toNat r8_.1),((r1_.2.set ((r1_.2.length:Int) - (1:Int)).toNat (r1_.2.getD ((r1_.2.length:Int) - (1:Int)).toNat (0,([],([],(0,[])))))).getD ((r1_.2.length:Int) - (1:Int)).toNat (0,([],([],(0,[]))))).2.2))) (.deep true .no))])))):P:=h
theorem ZN1 {P:Prop} (h:P:=by
  refine Y5 ?_ ?_
  ·skip
   refine Y4 ?_
   refine⟨r8_,hq2,?_⟩
   exact ZEH
  ·skip
   refine⟨r8_,hq2,?_⟩
   refine Y4 ?_
   exact ZEH):P:=h
theorem ZDZ:Zn Tryz.prog 51 ZqL:=by
 refine Zq (C:=ZDB) Tryz.f51 (Zk Zh1 (Zk Zeo (Zk ZHl Zr))) fun _ a b k he=>?_
 unfold ZqL at he;split at he;rotate_left;exact he.elim
 rename_i a1_0 a1_1 o0_0 o0_1
 refine Zs he fun he=>?_
 refine Zi he fun r1_ he=>?_
 refine Zi he fun r2_ he=>?_
 refine Zg he (fun he=>?_) fun he=>?_
 ·refine Zg he (fun he=>?_) fun he=>?_
  ·refine And.intro (by kernel_rfl) ?_
   obtain⟨r4_,hq1,he⟩:=ZS he
   obtain⟨hq2,he⟩:=ZD he
   refine Y5 ?_ ?_
   ·skip
    refine Y4 ?_
    refine Y4 ?_
    refine⟨r4_,hq1,?_⟩
    exact Zvx
   ·skip
    refine Y5 ?_ ?_
    ·skip
     refine Y4 ?_
     refine⟨r4_,hq1,?_⟩
     exact Zvx
    ·skip
     refine⟨r4_,hq1,?_⟩
     exact ZJG
  ·exact Zx4
 ·refine Zg he (fun he=>?_) fun he=>?_
  ·refine Zt (ZlM r1_ r2_) (fun i_0=>(Zm [(4,.c (.ptr 10000000 0)),(5,.c (.ptr 10000001 0))],[(0,.rc [.imm (.int .u8) r2_.2.1,.int .i64 r2_.2.2]),(10000000,.rc [.nil,.nil]),(10000001,.rc [.own 10000002 false,.own 10000003 false]),(10000002,.sl 3 y0_ i_0 .shallow),(10000003,.sl 145 y5_ r1_.2 (.deep true .no))])) he (Za [(10000000,4),(10000001,5),(10000002,9901),(10000003,9902)]) ?_
   rintro i_0 _ he
   refine Zg he (fun he=>?_) fun he=>?_
   ·refine Zh he fun he=>?_
    exact⟨_,(Zj he :),(Za [(10000002,35)])⟩
   ·exact Zv [(4,[900])] (Zj he :) (Za [(900,10000000),(901,10000002),(902,10000003)])
  ·refine Zg he (fun he=>?_) fun he=>?_
   ·refine Zg he (fun he=>?_) fun he=>?_
    ·refine And.intro (by kernel_rfl) ?_
     obtain⟨r6_,hq1,he⟩:=ZS he
     obtain⟨hq2,he⟩:=ZD he
     refine Y5 ?_ ?_
     ·skip
      refine Y4 ?_
      refine Y4 ?_
      refine⟨r6_,hq1,?_⟩
      exact Zvx
     ·skip
      refine Y5 ?_ ?_
      ·skip
       refine Y4 ?_
       refine⟨r6_,hq1,?_⟩
       exact Zvx
      ·skip
       refine⟨r6_,hq1,?_⟩
       exact ZJG
    ·exact Zx4
   ·refine Zg he (fun he=>?_) fun he=>?_
    ·refine Zg he (fun he=>?_) fun he=>?_
     ·refine Zh he fun he=>?_
      refine Zh he fun he=>?_
      refine Zg he (fun he=>?_) fun he=>?_
      ·refine And.intro (by kernel_rfl) ?_
       refine Zh he fun he=>?_
       obtain⟨hq1,he⟩:=ZD he
       obtain⟨r8_,hq2,he⟩:=ZS he
       obtain⟨hq3,he⟩:=ZD he
       refine Y5 ?_ ?_
       ·skip
        refine And.intro hq1 ?_
        refine Y5 ?_ ?_
        ·skip
         refine Y4 ?_
         refine Y4 ?_
         refine⟨r8_,hq2,?_⟩
         exact ZEH
        ·skip
         exact ZN1
       ·skip
        refine Y5 ?_ ?_
        ·skip
         refine And.intro hq1 ?_
         exact ZN1
        ·skip
         refine⟨r8_,hq2,?_⟩
         refine Y4 ?_
         refine And.intro hq1 ?_
         refine Y4 ?_
         exact ZEH
      ·exact Zv [(4,[900])] (Zj he :) ((ZCr [9902] rfl).trans (Za [(900,4),(901,9901),(902,9902)] (l:=[(4,.c (.ptr 900 0))]) (st':=[(0,.rc [.imm (.int .u8) r2_.2.1,.int .i64 r2_.2.2]),(900,.rc [.own 901 false,.own 902 false]),(901,.sl 3 y0_ r1_.1 .shallow),(902,.sl 145 y5_ (r1_.2.set ((r1_.2.length:Int) - (1:Int)).toNat (r1_.2.getD ((r1_.2.length:Int) - (1:Int)).toNat (0,([],([],(0,[])))))) (.deep true .no))])))
     ·exact Zx4
    ·refine Zg he (fun he=>?_) fun he=>?_
     ·refine Zg he (fun he=>?_) fun he=>?_
      ·refine And.intro (by kernel_rfl) ?_
       obtain⟨r10_,hq1,he⟩:=ZS he
       obtain⟨hq2,he⟩:=ZD he
       refine Y5 ?_ ?_
       ·skip
        refine Y4 ?_
        refine Y4 ?_
        refine⟨r10_,hq1,?_⟩
        exact Zvx
       ·skip
        refine Y5 ?_ ?_
        ·skip
         refine Y4 ?_
         refine⟨r10_,hq1,?_⟩
         exact Zvx
        ·skip
         refine⟨r10_,hq1,?_⟩
         exact ZJG
      ·exact Zx4
     ·refine Zg he (fun he=>?_) fun he=>?_
      ·exact Zv [(4,[900])] (Zj he :) (Za [(900,4)])
      ·exact Zx4
def Ztj:Con:=fun
  |[.agg [.imm (.int .i64) m_0,.imm (.pair (.int .i64) (.pair (.sl (.int .i64)) (.pair (.sl (.int .i64)) (.pair (.int .i64) (.sl (.sl (.int .i64))))))) m_1],.c (.imm (.int .i64) list_)],[]=>.opt _ (Zsb (m_0,m_1) list_) (fun r=>.ret (.c (.bool r)) [])
  |_,_=>.fail
def ZHb:Cfg:={ y:=tys,n:=45,h:=0,tab:=[] }
theorem ZJH {P:Prop} (h:P:=by
  refine Zg he (fun he=>?_) fun he=>?_
  ·exact Z3
  ·exact ZdC):P:=h
theorem ZJI {P:Prop} (h:P:=by
  refine Zh he fun he=>?_
  refine Zh he fun he=>?_
  exact ZJH):P:=h
theorem ZHp:Zn Tryz.prog 243 Ztj:=by
 refine Zq (C:=ZHb) Tryz.f243 Zr fun _ a b k he=>?_
 unfold Ztj at he;split at he;rotate_left;exact he.elim
 rename_i m_0 m_1 list_
 refine Zs he fun he=>?_
 refine Zt (Zop (m_0,m_1) list_) (fun i=>(Zm [(1,.c (.imm y0_ list_)),(2,.c (.ptr 10000000 0)),(5,.c (.int .i64 i))],[(10000000,.rc [.imm y0_ (m_0,m_1).1,.imm y5_ (m_0,m_1).2])])) he (Za [(10000000,2)]) ?_
 rintro i _ he
 refine Zg he (fun he=>?_) fun he=>?_
 ·refine And.intro (by kernel_rfl) ?_
  refine Zh he fun he=>?_
  refine ZC he (fun he=>?_) fun he=>?_
  ·refine Zh he fun he=>?_
   refine Zg he (fun he=>?_) fun he=>?_
   ·exact Z3
   ·refine Zt (ZkU list_ i) (fun k_=>(Zm [(1,.c (.imm y0_ list_)),(2,.c (.ptr 10001000 0)),(5,.c (.int .i64 i)),(6,.c (.int .i64 k_))],[(10001000,.rc [.imm y0_ (m_0,m_1).1,.imm y5_ (m_0,m_1).2])])) he (Za [(10001000,10000000)]) ?_
    rintro k_ _ he
    refine Zg he (fun he=>?_) fun he=>?_
    ·refine And.intro (by kernel_rfl) ?_
     exact ZJI
    ·refine Zh he fun he=>?_
     exact⟨_,(Zj he :),(Za [(10000000,10001000)])⟩
  ·exact Z3
 ·exact Z3
def ZqK:Con:=fun
  |[.agg [.int .i64 r__0,.imm (.int .i64) r__1,.imm (.int .i64) r__2,.int .i64 r__3,.imm (.sl (.int .i64)) r__4]],[]=>.opt _ (Zpw (r__0,(r__1,(r__2,(r__3,r__4))))) (fun r=>.ret (.c (.bool r)) [])
  |_,_=>.fail
def ZDA:Cfg:={ y:=tys,n:=50,h:=0,tab:=[] }
theorem ZM {P:Prop} (h:P:=by
  exact Zv [(2,[])] (Zj he :) (Za [])):P:=h
theorem Zvy {P:Prop} (h:P:=by
  refine Zg he (fun he=>?_) fun he=>?_
  ·exact ZM
  ·exact ZdC):P:=h
theorem ZBp {P:Prop} (h:P:=by
  refine Zg he (fun he=>?_) fun he=>?_
  ·exact ZM
  ·exact ZM):P:=h
theorem ZEI {P:Prop} (h:P:=by
  refine Zg he (fun he=>?_) fun he=>?_
  ·exact ZBp
  ·exact ZM):P:=h
theorem ZDY:Zn Tryz.prog 244 ZqK:=by
 refine Zq (C:=ZDA) Tryz.f244 Zr fun _ a b k he=>?_
 unfold ZqK at he;split at he;rotate_left;exact he.elim
 rename_i r__0 r__1 r__2 r__3 r__4
 refine Zs he fun he=>?_
 refine Zt (ZlL (r__0,(r__1,(r__2,(r__3,r__4))))) (fun i=>(Zm [(1,.c (.ptr 10000000 0)),(3,.c (.int .i64 i))],[(10000000,.rc [.int .i64 (r__0,(r__1,(r__2,(r__3,r__4)))).1,.imm y0_ (r__0,(r__1,(r__2,(r__3,r__4)))).2.1,.imm y0_ (r__0,(r__1,(r__2,(r__3,r__4)))).2.2.1,.int .i64 (r__0,(r__1,(r__2,(r__3,r__4)))).2.2.2.1,.imm (.sl y0_) (r__0,(r__1,(r__2,(r__3,r__4)))).2.2.2.2])])) he (Za [(10000000,1)]) ?_
 rintro i _ he
 refine Zg he (fun he=>?_) fun he=>?_
 ·refine Zh he fun he=>?_
  refine ZC he (fun he=>?_) fun he=>?_
  ·refine Zh he fun he=>?_
   refine ZC he (fun he=>?_) fun he=>?_
   ·refine Zh he fun he=>?_
    exact Zvy
   ·exact ZM
  ·exact ZM
 ·exact ZEI
def ZrJ:Con:=fun
  |[.agg [.int .i64 r__0,.imm (.int .i64) r__1,.imm (.int .i64) r__2,.int .i64 r__3,.imm (.sl (.int .i64)) r__4]],[]=>.opt _ (Zri (r__0,(r__1,(r__2,(r__3,r__4))))) (fun r=>.ret (.c (.bool r)) [])
  |_,_=>.fail
def ZE6:Cfg:={ y:=tys,n:=56,h:=0,tab:=[] }
theorem ZFs:Zn Tryz.prog 245 ZrJ:=by
 refine Zq (C:=ZE6) Tryz.f245 Zr fun _ a b k he=>?_
 unfold ZrJ at he;split at he;rotate_left;exact he.elim
 rename_i r__0 r__1 r__2 r__3 r__4
 refine Zs he fun he=>?_
 refine Zt (Znf (r__0,(r__1,(r__2,(r__3,r__4))))) (fun i=>(Zm [(1,.c (.ptr 10000000 0)),(3,.c (.int .i64 i))],[(10000000,.rc [.int .i64 (r__0,(r__1,(r__2,(r__3,r__4)))).1,.imm y0_ (r__0,(r__1,(r__2,(r__3,r__4)))).2.1,.imm y0_ (r__0,(r__1,(r__2,(r__3,r__4)))).2.2.1,.int .i64 (r__0,(r__1,(r__2,(r__3,r__4)))).2.2.2.1,.imm (.sl y0_) (r__0,(r__1,(r__2,(r__3,r__4)))).2.2.2.2])])) he (Za [(10000000,1)]) ?_
 rintro i _ he
 refine Zg he (fun he=>?_) fun he=>?_
 ·refine And.intro (by kernel_rfl) ?_
  refine Zh he fun he=>?_
  refine Zg he (fun he=>?_) fun he=>?_
  ·exact ZM
  ·refine Zt (ZjE (r__0,(r__1,(r__2,(r__3,r__4)))) i) (fun k_=>(Zm [(1,.c (.ptr 10001000 0)),(3,.c (.int .i64 i)),(4,.c (.int .i64 k_))],[(10001000,.rc [.int .i64 (r__0,(r__1,(r__2,(r__3,r__4)))).1,.imm y0_ (r__0,(r__1,(r__2,(r__3,r__4)))).2.1,.imm y0_ (r__0,(r__1,(r__2,(r__3,r__4)))).2.2.1,.int .i64 (r__0,(r__1,(r__2,(r__3,r__4)))).2.2.2.1,.imm (.sl y0_) (r__0,(r__1,(r__2,(r__3,r__4)))).2.2.2.2])])) he (Za [(10001000,10000000)]) ?_
   rintro k_ _ he
   refine Zh he fun he=>?_
   refine Zg he (fun he=>?_) fun he=>?_
   ·refine Zh he fun he=>?_
    refine Zh he fun he=>?_
    refine ZC he (fun he=>?_) fun he=>?_
    ·refine Zh he fun he=>?_
     refine Zh he fun he=>?_
     exact Zvy
    ·exact ZM
   ·refine Zh he fun he=>?_
    exact⟨_,(Zj he :),(Za [(10000000,10001000)])⟩
 ·exact ZM
def Zti:Con:=fun
  |[.agg [.imm (.int .i64) m_0,.imm (.pair (.int .i64) (.pair (.sl (.int .i64)) (.pair (.sl (.int .i64)) (.pair (.int .i64) (.sl (.sl (.int .i64))))))) m_1],.agg [.int .i64 r__0,.imm (.int .i64) r__1,.imm (.int .i64) r__2,.int .i64 r__3,.imm (.sl (.int .i64)) r__4]],[]=>.opt _ (Zsa (m_0,m_1) (r__0,(r__1,(r__2,(r__3,r__4))))) (fun r=>.ret (.c (.bool r)) [])
  |_,_=>.fail
def ZHa:Cfg:={ y:=tys,n:=55,h:=0,tab:=[(243,Ztj),(244,ZqK),(245,ZrJ)],cut:=[3] }
theorem Zx5 {P:Prop} (h:P:=by
  refine Zi he fun r2_ he=>?_
  exact Z3):P:=h
theorem ZN2 {P:Prop} (h:P:=by
  refine Zg he (fun he=>?_) fun he=>?_
  ·refine Zg he (fun he=>?_) fun he=>?_
   ·exact Z3
   ·exact⟨_,he,(Za [(10000000,3)])⟩
  ·exact⟨_,he,(Za [(10000000,3)])⟩):P:=h
theorem ZHo:Zn Tryz.prog 188 Zti:=by
 refine Zq (C:=ZHa) Tryz.f188 (Zk ZHp (Zk ZDY (Zk ZFs Zr))) fun _ a b k he=>?_
 unfold Zti at he;split at he;rotate_left;exact he.elim
 rename_i m_0 m_1 r__0 r__1 r__2 r__3 r__4
 refine Zs he fun he=>?_
 refine ZK (Zf1 (r__0,(r__1,(r__2,(r__3,r__4))))) (fun _=>(Zm [(3,.c (.ptr 10000000 0))],[(10000000,.rc [.int .i64 (r__0,(r__1,(r__2,(r__3,r__4)))).1,.imm y0_ (r__0,(r__1,(r__2,(r__3,r__4)))).2.1,.imm y0_ (r__0,(r__1,(r__2,(r__3,r__4)))).2.2.1,.int .i64 (r__0,(r__1,(r__2,(r__3,r__4)))).2.2.2.1,.imm (.sl y0_) (r__0,(r__1,(r__2,(r__3,r__4)))).2.2.2.2])])) he ?_ ?_
 ·rintro⟨⟩ he
  refine Zg he (fun he=>?_) fun he=>?_
  ·exact Zx5
  ·refine Zg he (fun he=>?_) fun he=>?_
   ·exact Z3
   ·refine Zg he (fun he=>?_) fun he=>?_
    ·refine Zi he fun r3_ he=>?_
     exact Z3
    ·refine Zg he (fun he=>?_) fun he=>?_
     ·exact Z3
     ·exact Z3
 ·skip
  refine Zi he fun r1_ he=>?_
  refine ZC he (fun he=>?_) fun he=>?_
  ·refine Zg he (fun he=>?_) fun he=>?_
   ·refine ZC he (fun he=>?_) fun he=>?_
    ·refine ZC he (fun he=>?_) fun he=>?_
     ·exact ZN2
     ·exact Z3
    ·exact Z3
   ·exact ZN2
  ·exact Z3
def Zfo:Con:=fun
  |[.agg [.imm (.int .i64) a0_0,.imm (.pair (.int .i64) (.pair (.sl (.int .i64)) (.pair (.sl (.int .i64)) (.pair (.int .i64) (.sl (.sl (.int .i64))))))) a0_1]],[]=>.opt _ (Zfj (a0_0,a0_1)) (fun r=>.ret (.c (.bool r)) [])
  |_,_=>.fail
def Zqv:Sched:=.alt 6 (.first 7 .done) .stop
def ZB9:Cfg:={ y:=tys,n:=74,h:=0,tab:=[(188,Zti)],cut:=[8],sched:=[(13,(Zy [1,3] (.alt 0 (.alt 2 (Zy [4,5] Zqv) .stop) (.alt 2 (Zy [4,5] (.alt 0 Zqv .stop)) .stop))))] }
theorem Zka:Zn Tryz.prog 130 Zfo:=by
 refine Zq (C:=ZB9) Tryz.f130 (Zk ZHo Zr) fun _ a b k he=>?_
 unfold Zfo at he;split at he;rotate_left;exact he.elim
 rename_i a0_0 a0_1
 refine Zs he fun he=>?_
 refine ZK (Zgv (a0_0,a0_1)) (fun i2=>(Zm [(1,.c (.ptr 10001000 0)),(3,.c (.int .i64 i2))],[(10001000,.rc [.imm y0_ (a0_0,a0_1).1,.imm y5_ (a0_0,a0_1).2])])) he ?_ ?_
 ·rintro i2 he
  refine ZC he (fun he=>?_) fun he=>?_
  ·refine ZC he (fun he=>?_) fun he=>?_
   ·refine ZC he (fun he=>?_) fun he=>?_
    ·refine Zg he (fun he=>?_) fun he=>?_
     ·exact ZM
     ·refine Zt (ZjA (a0_0,a0_1)) (fun i3=>(Zm [(1,.c (.ptr 10002000 0)),(5,.c (.int .i64 i3))],[(10002000,.rc [.imm y0_ (a0_0,a0_1).1,.imm y5_ (a0_0,a0_1).2])])) he (Za [(10002000,10001000)]) ?_
      rintro i3 _ he
      refine Zg he (fun he=>?_) fun he=>?_
      ·refine And.intro (by kernel_rfl) ?_
       obtain⟨hq1,he⟩:=ZD he
       obtain⟨r2_,hq2,he⟩:=ZS he
       refine Y5 ?_ ?_
       ·skip
        refine Y4 ?_
        refine And.intro hq1 ?_
        refine Y4 ?_
        refine⟨r2_,hq2,?_⟩
        exact Zvy
       ·skip
        refine And.intro hq1 ?_
        refine Y4 ?_
        refine Y4 ?_
        refine⟨r2_,hq2,?_⟩
        exact Zvy
      ·exact ZM
    ·exact ZM
   ·exact ZM
  ·exact ZM
 ·skip
  refine Zt (ZnU (a0_0,a0_1)) (fun (i,i1)=>(Zm [(1,.c (.ptr 10000000 0)),(3,.c (.int .i64 i)),(4,.c (.int .i64 i1))],[(10000000,.rc [.imm y0_ (a0_0,a0_1).1,.imm y5_ (a0_0,a0_1).2])])) he (Za [(10000000,1)]) ?_
  rintro⟨i,i1⟩ _ he
  refine Zg he (fun he=>?_) fun he=>?_
  ·refine Zg he (fun he=>?_) fun he=>?_
   ·refine Zh he fun he=>?_
    refine ZC he (fun he=>?_) fun he=>?_
    ·refine Zh he fun he=>?_
     refine Zg he (fun he=>?_) fun he=>?_
     ·exact ZM
     ·exact Zvv
    ·exact ZM
   ·exact⟨_,(Zbn he :),(Za [(10001000,10000000)])⟩
  ·exact⟨_,(Zbn he :),(Za [(10001000,10000000)])⟩
def Zgg:Con:=fun
  |[.agg [.imm (.int .i64) m_0,.imm (.pair (.int .i64) (.pair (.sl (.int .i64)) (.pair (.sl (.int .i64)) (.pair (.int .i64) (.sl (.sl (.int .i64))))))) m_1],.c (.int .i64 cell),.c (.int .i64 value)],[]=>.opt _ (Zhy (m_0,m_1) cell value) (fun r=>.ret (.c (.int .i64 r)) [])
  |_,_=>.fail
def ZHX:Cfg:={ y:=tys,n:=25,h:=0,tab:=[] }
theorem ZkP:Zn Tryz.prog 133 Zgg:=by
 refine Zq (C:=ZHX) Tryz.f133 Zr fun _ a b k he=>?_
 unfold Zgg at he;split at he;rotate_left;exact he.elim
 rename_i m_0 m_1 cell value
 refine Zs he fun he=>?_
 refine Zh he fun he=>?_
 refine Zt (ZtC (m_0,m_1) cell) (fun (n,i)=>(Zm [(1,.c (.int .i64 cell)),(3,.c (.ptr 10000000 0)),(7,.c (.int .i64 n)),(8,.c (.int .i64 i))],[(10000000,.rc [.imm y0_ (m_0,m_1).1,.imm y5_ (m_0,m_1).2])])) he (Za [(10000000,3)]) ?_
 rintro⟨n,i⟩ _ he
 refine Zg he (fun he=>?_) fun he=>?_
 ·exact Zvv
 ·exact Zv [(6,[])] (Zj he :) (Za [])
def Znv:Con:=fun
  |[.c (.int .i64 n)],[]=>.opt _ (Zol n) (fun r=>.ret (.c (.bool r)) [])
  |_,_=>.fail
def ZHT:Cfg:={ y:=tys,n:=13,h:=0,tab:=[] }
theorem Zbf {P:Prop} (h:P:=by
  exact ZQf he):P:=h
theorem ZJJ {P:Prop} (h:P:=by
  refine Zg he (fun he=>?_) fun he=>?_
  ·exact Zbf
  ·exact Zbf):P:=h
theorem Zvb:Zn Tryz.prog 228 Znv:=by
 refine Zq (C:=ZHT) Tryz.f228 Zr fun _ a b k he=>?_
 unfold Znv at he;split at he;rotate_left;exact he.elim
 rename_i n
 refine Zs he fun he=>?_
 refine Zg he (fun he=>?_) fun he=>?_
 ·exact ZJJ
 ·exact Zbf
def Znu:Con:=fun
  |[.c (.int .i64 n)],[]=>.opt _ (ZlF n) (fun r=>.ret (.c (.int .i64 r)) [])
  |_,_=>.fail
def ZHS:Cfg:={ y:=tys,n:=8,h:=0,tab:=[] }
theorem ZEJ {P:Prop} (h:P:=by
  refine Zh he fun he=>?_
  exact Zbf):P:=h
theorem Zva:Zn Tryz.prog 229 Znu:=by
 refine Zq (C:=ZHS) Tryz.f229 Zr fun _ a b k he=>?_
 unfold Znu at he;split at he;rotate_left;exact he.elim
 rename_i n
 refine Zs he fun he=>?_
 refine Zg he (fun he=>?_) fun he=>?_
 ·exact ZEJ
 ·exact Zbf
def Zjg:Con:=fun
  |[.c (.imm (.int .i64) a0)],[]=>.opt _ (Zi7 a0) (fun r=>.ret (.tup [.agg [.own 901 false,.int .i64 r.2.1],.c (.bool r.1)]) [(900,.rc [.own 901 false,.int .i64 r.2.1]),(901,.sl 155 y6_ r.2.2 .shallow)])
  |_,_=>.fail
def Zsg:Sched:=.alt 8 (.first 9 (.alt 10 .done .stop)) .stop
def Zsh:Sched:=.alt 7 Zsg .stop
def Zsi:Sched:=.alt 6 Zsh .stop
def ZDw:Cfg:={ y:=tys,n:=71,h:=0,tab:=[(228,Znv),(229,Znu)],cut:=[13],sched:=[(18,(Zy [0,2,3,4] (.alt 1 (.alt 5 Zsi .stop) (.alt 5 (.alt 1 Zsi (.alt 6 (.alt 1 Zsh (.alt 7 (.alt 1 Zsg .stop) .stop)) .stop)) .stop))))] }
theorem Zro {P:Prop} (h:P:=by
  exact Zv [(2,[900]),(3,[])] (Zj he :) (Za [(900,2)])):P:=h
theorem ZEK {P:Prop} (h:P:=by
  refine Y4 ?_
  refine Y4 ?_
  refine And.intro hq1 ?_
  refine Y4 ?_
  refine Zh he fun he=>?_
  exact⟨_,(Zj he :),(Za [(10002003,68)])⟩):P:=h
theorem ZBq {P:Prop} (h:P:=by
  exact Zv [(2,[900]),(3,[])] (Zj he :) (Za [(900,10000000)])):P:=h
theorem Zq3:Zn Tryz.prog 189 Zjg:=by
 refine Zq (C:=ZDw) Tryz.f189 (Zk Zvb (Zk Zva Zr)) fun _ a b k he=>?_
 unfold Zjg at he;split at he;rotate_left;exact he.elim
 rename_i a0
 refine Zs he fun he=>?_
 refine Zh he fun he=>?_
 refine Zg he (fun he=>?_) fun he=>?_
 ·exact Zro
 ·refine ZK (Zp0) (fun i2=>(Zm [(2,.c (.ptr 10001000 0)),(4,.c (.own 10001001 false))],[(10001000,.rc [.nil,.int .i64 (0:Int)]),(10001001,.sl 3 y0_ i2 .shallow)])) he ?_ ?_
  ·rintro i2 he
   refine Zt (Zh6 i2) (fun (i3,i_0)=>(Zm [(2,.c (.ptr 10002000 0)),(4,.c (.own 10002001 false)),(7,.c (.ptr 10002002 0)),(8,.c (.int .i64 i3))],[(10002000,.rc [.nil,.int .i64 (0:Int)]),(10002001,.sl 3 y0_ i2 .shallow),(10002002,.rc [.own 10002003 false,.int .i64 (1:Int)]),(10002003,.sl 155 y6_ i_0 .shallow)])) he (Za [(10002000,10001000),(10002001,10001001),(10002002,7)]) ?_
   rintro⟨i3,i_0⟩ _ he
   refine Zg he (fun he=>?_) fun he=>?_
   ·refine Zh he fun he=>?_
    refine Zg he (fun he=>?_) fun he=>?_
    ·refine And.intro (by kernel_rfl) ?_
     refine Zh he fun he=>?_
     obtain⟨hq1,he⟩:=ZD he
     refine Y5 ?_ ?_
     ·skip
      refine Y4 ?_
      refine Y4 ?_
      exact ZEK
     ·skip
      refine Y5 ?_ ?_
      ·skip
       refine Y4 ?_
       exact ZEK
      ·skip
       refine Y5 ?_ ?_
       ·skip
        exact ZEK
       ·skip
        exact ZEK
    ·exact ZdC
   ·exact Zv [(2,[900]),(3,[])] (Zj he :) (Za [(900,10002000),(901,10002003)])
  ·skip
   refine Zt (ZlC a0) (fun (i,i1)=>(Zm [(0,.c (.imm y0_ a0)),(2,.c (.ptr 10000000 0)),(4,.c (.own 10000001 false)),(5,.c (.int .i64 i))],[(10000000,.rc [.nil,.int .i64 (0:Int)]),(10000001,.sl 3 y0_ i1 .shallow)])) he (Za [(10000000,2),(10000001,9)]) ?_
   rintro⟨i,i1⟩ _ he
   refine Zg he (fun he=>?_) fun he=>?_
   ·refine Zh he fun he=>?_
    refine Zi he fun r3_ he=>?_
    refine Zg he (fun he=>?_) fun he=>?_
    ·exact ZBq
    ·refine Zh he fun he=>?_
     refine Zi he fun r4_ he=>?_
     refine And.intro (by kernel_rfl) ?_
     refine Zh he fun he=>?_
     refine Zh he fun he=>?_
     refine Zh he fun he=>?_
     refine Zg he (fun he=>?_) fun he=>?_
     ·exact ZBq
     ·exact Zvu
   ·exact⟨_,(Zbn he :),(Za [(10001000,10000000),(10001001,10000001)])⟩
def Zpo:Con:=fun
  |[.c (.imm (.int .i64) vars)],[]=>.opt _ (Zph vars) (fun r=>.ret (.agg [.own 901 false,.int .i64 r.1]) [(900,.rc [.own 901 false,.int .i64 r.1]),(901,.sl 155 y6_ r.2 .shallow)])
  |_,_=>.fail
def ZuT:Sched:=.alt 9 (.first 10 (.alt 11 .done .stop)) .stop
def ZuU:Sched:=.alt 8 ZuT .stop
def ZHd:Cfg:={ y:=tys,n:=27,h:=0,tab:=[],sched:=[(5,(Zy [0,2,3,4,5,6] (.alt 1 (.alt 7 ZuU .stop) (.alt 7 (.alt 1 ZuU (.alt 8 (.alt 1 ZuT .stop) .stop)) .stop))))] }
theorem ZJK {P:Prop} (h:P:=by
  refine Y4 ?_
  refine Y4 ?_
  refine And.intro hq1 ?_
  refine Y4 ?_
  refine Zh he fun he=>?_
  exact⟨_,(Zj he :),(Za [(10000002,24)])⟩):P:=h
theorem Zzo:Zn Tryz.prog 190 Zpo:=by
 refine Zq (C:=ZHd) Tryz.f190 Zr fun _ a b k he=>?_
 unfold Zpo at he;split at he;rotate_left;exact he.elim
 rename_i vars
 refine Zs he fun he=>?_
 refine Zh he fun he=>?_
 refine Zt (ZkX vars) (fun (i,c_0)=>(Zm [(0,.c (.imm y0_ vars)),(2,.c (.ptr 10000000 0)),(3,.c (.ptr 10000001 0)),(4,.c (.int .i64 i))],[(10000000,.rc [.nil,.int .i64 (0:Int)]),(10000001,.rc [.own 10000002 false,.int .i64 ((vars.length:Int) - (1:Int))]),(10000002,.sl 155 y6_ c_0 .shallow)])) he (Za [(10000000,2),(10000001,3)]) ?_
 rintro⟨i,c_0⟩ _ he
 refine Zg he (fun he=>?_) fun he=>?_
 ·refine And.intro (by kernel_rfl) ?_
  refine Zh he fun he=>?_
  refine Zh he fun he=>?_
  obtain⟨hq1,he⟩:=ZD he
  refine Y5 ?_ ?_
  ·skip
   refine Y4 ?_
   exact ZJK
  ·skip
   refine Y5 ?_ ?_
   ·skip
    exact ZJK
   ·skip
    exact ZJK
 ·exact Zv [(2,[900])] (Zj he :) (Za [(900,10000000),(901,10000002)])
def Ztk:Con:=fun
  |[.agg [.imm (.int .i64) m_0,.imm (.pair (.int .i64) (.pair (.sl (.int .i64)) (.pair (.sl (.int .i64)) (.pair (.int .i64) (.sl (.sl (.int .i64))))))) m_1],.c (.int .i64 cell)],[]=>.opt _ (Zsc (m_0,m_1) cell) (fun r=>.ret (.c (.own 900 false)) [(900,.sl 89 y7_ r (.deep true .no))])
  |_,_=>.fail
def ZuS:Sched:=.alt 3 (.first 4 .done) .stop
def ZHc:Cfg:={ y:=tys,n:=35,h:=0,tab:=[(133,Zgg),(189,Zjg),(190,Zpo)],cut:=[6],deep:=[34],sched:=[(7,(.first 1 (.alt 0 (.alt 2 ZuS .stop) (.alt 2 (.alt 0 ZuS .stop) .stop))))] }
theorem ZN3 {P:Prop} (h:P:=by
  refine Y4 ?_
  exact Zv [(4,[])] (Zj he :) (Za [(900,34)])):P:=h
theorem ZHq:Zn Tryz.prog 131 Ztk:=by
 refine Zq (C:=ZHc) Tryz.f131 (Zk ZkP (Zk Zq3 (Zk Zzo Zr))) fun _ a b k he=>?_
 unfold Ztk at he;split at he;rotate_left;exact he.elim
 rename_i m_0 m_1 cell
 refine Zs he fun he=>?_
 refine ZK (ZkV) (fun vars1=>(Zm [(5,.c (.own 10001000 false))],[(10001000,.sl 3 y0_ vars1 .shallow)])) he ?_ ?_
 ·rintro vars1 he
  refine Zi he fun r3_ he=>?_
  refine And.intro (by kernel_rfl) ?_
  obtain⟨r5_,hq1,he⟩:=ZS he
  refine Y5 ?_ ?_
  ·skip
   refine Y4 ?_
   refine⟨r5_,hq1,?_⟩
   exact ZN3
  ·skip
   refine⟨r5_,hq1,?_⟩
   refine Y4 ?_
   exact ZN3
 ·skip
  refine Zt (ZkW (m_0,m_1) cell) (fun (k_,vars)=>(Zm [(1,.c (.int .i64 cell)),(2,.c (.ptr 10000000 0)),(5,.c (.own 10000001 false)),(6,.c (.int .i64 k_))],[(10000000,.rc [.imm y0_ (m_0,m_1).1,.imm y5_ (m_0,m_1).2]),(10000001,.sl 3 y0_ vars .shallow)])) he (Za [(10000000,2),(10000001,9)]) ?_
  rintro⟨k_,vars⟩ _ he
  refine Zh he fun he=>?_
  refine Zg he (fun he=>?_) fun he=>?_
  ·refine Zi he fun r2_ he=>?_
   refine Zh he fun he=>?_
   refine Zh he fun he=>?_
   exact⟨_,(Zj he :),(Za [(10000001,25)])⟩
  ·exact⟨_,(Zbn he :),(Za [(10001000,10000001)])⟩
def Zbd:Con:=fun
  |[.agg [.imm (.pair (.int .i64) (.int .i64)) c__0,.int .i64 c__1]],[]=>.opt _ (ZV (c__0,c__1)) (fun r=>.ret (.c (.bool r)) [])
  |_,_=>.fail
def ZmT:Sched:=.alt 28 (Zy [29,30,31] .done) .stop
def ZmU:Sched:=.alt 25 ZmT .stop
def ZwT:Cfg:={ y:=tys,n:=57,h:=0,tab:=[(228,Znv),(229,Znu)],sched:=[(5,(.first 0 (.alt 1 (.alt 2 (Zy [3,4,5] (.alt 6 (Zy [7,8,9,10] (.alt 11 (Zy [12,13,14,15,16,17,18,20,21,26] (.alt 19 (Zy [22,23,24] (.alt 25 (.alt 27 ZmT .stop) (.alt 27 ZmU .stop))) (.alt 27 (.alt 19 (Zy [22,23,24] ZmU) .stop) .stop))) .stop)) .stop)) .stop) .stop)))] }
theorem ZN4 {P:Prop} (h:P:=by
  refine Y4 ?_
  refine⟨r5_,hq2,?_⟩
  refine Y4 ?_
  refine⟨r6_,hq3,?_⟩
  exact Zvy):P:=h
theorem Zk0 {P:Prop} (h:P:=by
  refine Y4 ?_
  exact ZdC):P:=h
theorem Zx6 {P:Prop} (h:P:=by
  refine Y4 ?_
  exact ZM):P:=h
theorem ZEL {P:Prop} (h:P:=by
  skip
  refine Y4 ?_
  exact Zx6):P:=h
theorem ZJL {P:Prop} (h:P:=by
  refine Y5 ?_ ?_
  ·skip
   refine Y5 ?_ ?_
   ·exact ZEL
   ·exact ZEL
  ·skip
   refine Y4 ?_
   refine Y4 ?_
   exact Zx6):P:=h
theorem ZbD:Zn Tryz.prog 168 Zbd:=by
 refine Zq (C:=ZwT) Tryz.f168 (Zk Zvb (Zk Zva Zr)) fun _ a b k he=>?_
 unfold Zbd at he;split at he;rotate_left;exact he.elim
 rename_i c__0 c__1
 refine Zs he fun he=>?_
 refine Zt (ZfD (c__0,c__1)) (fun i=>(Zm [(1,.c (.ptr 10000000 0)),(3,.c (.int .i64 i))],[(10000000,.rc [.imm y6_ (c__0,c__1).1,.int .i64 (c__0,c__1).2])])) he (Za [(10000000,1)]) ?_
 rintro i _ he
 refine Zg he (fun he=>?_) fun he=>?_
 ·refine Zh he fun he=>?_
  refine And.intro (by kernel_rfl) ?_
  refine Y4 ?_
  refine Y4 ?_
  refine Zi he fun r4_ he=>?_
  refine ZC he (fun he=>?_) fun he=>?_
  ·refine Y4 ?_
   refine ZC he (fun he=>?_) fun he=>?_
   ·refine Y4 ?_
    refine ZC he (fun he=>?_) fun he=>?_
    ·refine Zg he (fun he=>?_) fun he=>?_
     ·refine Zh he fun he=>?_
      obtain⟨hq1,he⟩:=ZD he
      obtain⟨r5_,hq2,he⟩:=ZS he
      obtain⟨r6_,hq3,he⟩:=ZS he
      refine Y5 ?_ ?_
      ·skip
       refine And.intro hq1 ?_
       refine Y5 ?_ ?_
       ·skip
        refine⟨r5_,hq2,?_⟩
        refine Y4 ?_
        refine Y4 ?_
        refine⟨r6_,hq3,?_⟩
        exact Zvy
       ·skip
        exact ZN4
      ·skip
       refine Y4 ?_
       refine And.intro hq1 ?_
       exact ZN4
     ·refine Y5 ?_ ?_
      ·skip
       refine Y5 ?_ ?_
       ·skip
        refine Y4 ?_
        exact Zk0
       ·skip
        refine Y4 ?_
        exact Zk0
      ·skip
       refine Y4 ?_
       refine Y4 ?_
       exact Zk0
    ·exact ZJL
   ·refine Y4 ?_
    exact ZJL
  ·refine Y4 ?_
   refine Y4 ?_
   exact ZJL
 ·exact ZBp
end
end Go.AE.Y
