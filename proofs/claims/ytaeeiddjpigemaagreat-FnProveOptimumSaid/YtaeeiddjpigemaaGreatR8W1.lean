/-
  Walks: each function keeps the contract that its model gives. No conditions.
-/
import Derived.Test.YtaeeiddjpigemaaGreatR8Tab
import Derived.Test.YtaeeiddjpigemaaGreatR8M
import Derived.Test.YtaeeiddjpigemaaGreatR8S
namespace Go.AE.Y
open Go Go.AE Go.Proofs
set_option linter.unusedVariables false
set_option maxHeartbeats 2000000
set_option maxRecDepth 100000
noncomputable section
def Zqz:Con:=fun
  |[.c (.imm (.int .u8) code)],[]=>.opt _ (Zp9 code) (fun r=>.ret (.c (.ptr 900 0)) [(900,.rc [.imm (.int .u8) r.1,.int .i64 r.2])])
  |_,_=>.fail
def ZCF:Cfg:={ y:=tys,n:=11,h:=0,tab:=[],cut:=[3] }
theorem ZC2:Zn Tryz.prog 50 Zqz:=by
 refine Zq (C:=ZCF) Tryz.f50 Zr fun _ a b k he=>?_
 unfold Zqz at he;split at he;rotate_left;exact he.elim
 rename_i code
 refine Zs he fun he=>?_
 refine ZN (Zmi) (fun code1=>(Zm [(0,.c (.imm (.int .u8) code1))],[])) he ?_ ?_
 ·rintro code1 he
  exact Zt [(2,[])] (Zj he :) (Za [(900,10)])
 ·skip
  refine Zh he (fun he=>?_) fun he=>?_
  ·refine Zg he fun he=>?_
   exact⟨_,he,(Za [])⟩
  ·exact⟨_,he,(Za [])⟩
def Zex:Con:=fun
  |[.c (.ptr 0 0),.c (.int .i64 a1)],[(0,.rc [.imm (.int .u8) o0_0,.int .i64 o0_1])]=>.opt _ (Zdt a1 (o0_0,o0_1)) (fun r=>.ret (.c (.int .i64 r.1)) [(0,.rc [.imm (.int .u8) r.2.1,.int .i64 r.2.2])])
  |_,_=>.fail
def ZzT:Cfg:={ y:=tys,n:=99,h:=1,tab:=[] }
theorem Zbd {P:Prop} (h:P:=by
  exact Zt [(4,[])] (Zj he :) (Za [])):P:=h
theorem ZJ4 {P:Prop} (h:P:=by
  refine Zg he fun he=>?_
  exact Zbd):P:=h
theorem ZFg {P:Prop} (h:P:=by
  refine Zg he fun he=>?_
  exact ZJ4):P:=h
theorem ZgU:Zn Tryz.prog 87 Zex:=by
 refine Zq (C:=ZzT) Tryz.f87 Zr fun _ a b k he=>?_
 unfold Zex at he;split at he;rotate_left;exact he.elim
 rename_i a1 o0_0 o0_1
 refine Zs he fun he=>?_
 refine Zg he fun he=>?_
 refine ZD he (fun he=>?_) fun he=>?_
 ·refine Zh he (fun he=>?_) fun he=>?_
  ·exact Zbd
  ·refine Zg he fun he=>?_
   refine Zh he (fun he=>?_) fun he=>?_
   ·refine Zg he fun he=>?_
    refine fun _=>?_
    exact ZFg
   ·refine And.intro (by kernel_rfl) ?_
    refine Zg he fun he=>?_
    refine Zg he fun he=>?_
    refine fun _=>?_
    refine Zg he fun he=>?_
    refine Zg he fun he=>?_
    refine Zg he fun he=>?_
    refine Zg he fun he=>?_
    refine Zg he fun he=>?_
    refine Zg he fun he=>?_
    refine fun _=>?_
    refine Zg he fun he=>?_
    refine Zg he fun he=>?_
    refine Zg he fun he=>?_
    refine Zg he fun he=>?_
    refine Zg he fun he=>?_
    refine Zg he fun he=>?_
    refine Zg he fun he=>?_
    refine Zg he fun he=>?_
    refine Zg he fun he=>?_
    exact ZFg
 ·exact Zbd
def ZeO:Con:=fun
  |[.c (.ptr 0 0),.c (.imm (.int .i64) list_)],[(0,.rc [.imm (.int .u8) r__0,.int .i64 r__1])]=>.opt _ (Zbl list_ (r__0,r__1)) (fun r=>.ret (.c (.int .i64 r.1)) [(0,.rc [.imm (.int .u8) r.2.1,.int .i64 r.2.2])])
  |_,_=>.fail
def ZAp:Cfg:={ y:=tys,n:=12,h:=1,tab:=[(87,Zex)] }
theorem ZhU:Zn Tryz.prog 54 ZeO:=by
 refine Zq (C:=ZAp) Tryz.f54 (Zk ZgU Zr) fun _ a b k he=>?_
 unfold ZeO at he;split at he;rotate_left;exact he.elim
 rename_i list_ r__0 r__1
 refine Zs he fun he=>?_
 refine Zi he fun r1_ he=>?_
 exact ZJ4
def ZmL:Con:=fun
  |[.c (.ptr 0 0),.agg [.own 1 false,.own 2 false],.c (.int .i64 a2)],[(0,.rc [.imm (.int .u8) o0_0,.int .i64 o0_1]),(1,.sl 3 (.int .i64) o1 .shallow),(2,.sl 145 (.pair (.int .i64) (.pair (.sl (.int .i64)) (.pair (.sl (.int .i64)) (.pair (.int .i64) (.sl (.sl (.int .i64))))))) o2 (.deep true .no))]=>.opt _ (Zh1 a2 (o0_0,o0_1) o1 o2) (fun r=>.ret (.c (.own 900 false)) [(0,.rc [.imm (.int .u8) r.1.1,.int .i64 r.1.2]),(1,.sl 3 y0_ o1 .shallow),(2,.sl 145 y5_ o2 (.deep true .no)),(900,.sl 3 y0_ r.2 .shallow)])
  |_,_=>.fail
def ZxZ:Cfg:={ y:=tys,n:=96,h:=3,tab:=[(87,Zex)],cut:=[7,12,18] }
theorem ZMR {P:Prop} (h:P:=by
  refine Zg he fun he=>?_
  refine Zg he fun he=>?_
  exact⟨_,(Zj he :),(Za [(10002001,56)])⟩):P:=h
theorem ZdH {P:Prop} (h:P:=by
  refine Zg he fun he=>?_
  exact⟨_,(Zj he :),(Za [])⟩):P:=h
theorem Zyx:Zn Tryz.prog 185 ZmL:=by
 refine Zq (C:=ZxZ) Tryz.f185 (Zk ZgU Zr) fun _ a b k he=>?_
 unfold ZmL at he;split at he;rotate_left;exact he.elim
 rename_i a2 o0_0 o0_1 o1 o2
 refine Zs he fun he=>?_
 refine ZN (Zis a2 o1) (fun (i3,i4)=>(Zm [(0,.c (.ptr 0 0)),(2,.c (.int .i64 a2)),(4,.c (.ptr 10001000 0)),(7,.c (.own 10001001 false))],[(0,.rc [.imm (.int .u8) i3.1,.int .i64 i3.2]),(1,.sl 3 y0_ o1 .shallow),(2,.sl 145 y5_ o2 (.deep true .no)),(10001000,.rc [.own 1 false,.own 2 false]),(10001001,.sl 3 y0_ i4 .shallow)])) he ?_ ?_
 ·rintro⟨i3,i4⟩ he
  refine ZN (ZfE a2 i3) (fun i7=>(Zm [(0,.c (.ptr 0 0)),(2,.c (.int .i64 a2)),(7,.c (.own 10003000 false))],[(0,.rc [.imm (.int .u8) i3.1,.int .i64 i3.2]),(1,.sl 3 y0_ o1 .shallow),(2,.sl 145 y5_ o2 (.deep true .no)),(10003000,.sl 3 y0_ i7 .shallow)])) he ?_ ?_
  ·rintro i7 he
   refine ZN (ZdX i3) (fun i12=>(Zm [(0,.c (.ptr 0 0)),(7,.c (.own 10006000 false))],[(0,.rc [.imm (.int .u8) i3.1,.int .i64 i3.2]),(1,.sl 3 y0_ o1 .shallow),(2,.sl 145 y5_ o2 (.deep true .no)),(10006000,.sl 3 y0_ i12 .shallow)])) he ?_ ?_
   ·rintro i12 he
    refine Zh he (fun he=>?_) fun he=>?_
    ·refine Zi he fun r3_ he=>?_
     refine Zh he (fun he=>?_) fun he=>?_
     ·refine Zg he fun he=>?_
      refine Zg he fun he=>?_
      refine Zg he fun he=>?_
      refine Zg he fun he=>?_
      exact Zt [(6,[])] (Zj he :) (Za [(900,10006000)])
     ·exact Zt [(6,[])] (Zj he :) (Za [(900,10006000)])
    ·exact Zt [(6,[])] (Zj he :) (Za [(900,10006000)])
   ·skip
    refine ZD he (fun he=>?_) fun he=>?_
    ·refine Zh he (fun he=>?_) fun he=>?_
     ·refine Zp (Zl5 a2 i3) (fun (i8,i9)=>(Zm [(0,.c (.ptr 0 0)),(2,.c (.int .i64 a2)),(7,.c (.own 10004000 false)),(10,.c (.int .i64 i8))],[(0,.rc [.imm (.int .u8) i3.1,.int .i64 i3.2]),(1,.sl 3 y0_ o1 .shallow),(2,.sl 145 y5_ o2 (.deep true .no)),(10004000,.sl 3 y0_ i9 .shallow)])) he (Za [(10004000,66)]) ?_
      rintro⟨i8,i9⟩ _ he
      refine Zh he (fun he=>?_) fun he=>?_
      ·refine Zg he fun he=>?_
       refine Zg he fun he=>?_
       exact⟨_,(Zj he :),(Za [(10004000,75)])⟩
      ·exact⟨_,(Zbp he :),(Za [(10006000,10004000)])⟩
     ·exact⟨_,he,(Za [(10006000,10003000)])⟩
    ·refine Zp (Zl4 a2 i3) (fun (i10,i11)=>(Zm [(0,.c (.ptr 0 0)),(2,.c (.int .i64 a2)),(7,.c (.own 10005000 false)),(10,.c (.int .i64 i10))],[(0,.rc [.imm (.int .u8) i3.1,.int .i64 i3.2]),(1,.sl 3 y0_ o1 .shallow),(2,.sl 145 y5_ o2 (.deep true .no)),(10005000,.sl 3 y0_ i11 .shallow)])) he (Za [(10005000,66)]) ?_
     rintro⟨i10,i11⟩ _ he
     refine Zh he (fun he=>?_) fun he=>?_
     ·refine Zg he fun he=>?_
      refine Zg he fun he=>?_
      exact⟨_,(Zj he :),(Za [(10005000,75)])⟩
     ·exact⟨_,(Zbp he :),(Za [(10006000,10005000)])⟩
  ·skip
   refine Zp (Zit a2 o1 i3) (fun (i5,i6)=>(Zm [(0,.c (.ptr 0 0)),(2,.c (.int .i64 a2)),(4,.c (.ptr 10002000 0)),(7,.c (.own 10002001 false)),(9,.c (.int .i64 i5))],[(0,.rc [.imm (.int .u8) i3.1,.int .i64 i3.2]),(1,.sl 3 y0_ o1 .shallow),(2,.sl 145 y5_ o2 (.deep true .no)),(10002000,.rc [.own 1 false,.own 2 false]),(10002001,.sl 3 y0_ i6 .shallow)])) he (Za [(10002000,10001000),(10002001,10001001)]) ?_
   rintro⟨i5,i6⟩ _ he
   refine Zh he (fun he=>?_) fun he=>?_
   ·refine Zh he (fun he=>?_) fun he=>?_
    ·refine ZD he (fun he=>?_) fun he=>?_
     ·refine Zg he fun he=>?_
      refine Zg he fun he=>?_
      refine Zh he (fun he=>?_) fun he=>?_
      ·exact ZMR
      ·exact ZdH
     ·exact ZMR
    ·exact⟨_,(Zbp he :),(Za [(10003000,10002001)])⟩
   ·exact⟨_,(Zbp he :),(Za [(10003000,10002001)])⟩
 ·skip
  refine Zp (Ziu a2 o1) (fun (i,i1,i2)=>(Zm [(0,.c (.ptr 0 0)),(2,.c (.int .i64 a2)),(4,.c (.ptr 10000000 0)),(7,.c (.own 10000001 false)),(8,.c (.int .i64 i))],[(0,.rc [.imm (.int .u8) i1.1,.int .i64 i1.2]),(1,.sl 3 y0_ o1 .shallow),(2,.sl 145 y5_ o2 (.deep true .no)),(10000000,.rc [.own 1 false,.own 2 false]),(10000001,.sl 3 y0_ i2 .shallow)])) he (Za [(10000000,4),(10000001,12)]) ?_
  rintro⟨i,i1,i2⟩ _ he
  refine Zh he (fun he=>?_) fun he=>?_
  ·refine Zi he fun r2_ he=>?_
   refine Zh he (fun he=>?_) fun he=>?_
   ·refine Zg he fun he=>?_
    refine Zg he fun he=>?_
    exact⟨_,(Zj he :),(Za [(10000001,26)])⟩
   ·exact ZdH
  ·exact⟨_,(Zbp he :),(Za [(10001000,10000000),(10001001,10000001)])⟩
def ZmK:Con:=fun
  |[.c (.ptr 0 0),.agg [.own 1 false,.own 2 false]],[(0,.rc [.imm (.int .u8) o0_0,.int .i64 o0_1]),(1,.sl 3 (.int .i64) o1 .shallow),(2,.sl 145 (.pair (.int .i64) (.pair (.sl (.int .i64)) (.pair (.sl (.int .i64)) (.pair (.int .i64) (.sl (.sl (.int .i64))))))) o2 (.deep true .no))]=>.opt _ (Zlf (o0_0,o0_1) o1 o2) (fun r=>.ret (.agg [.int .i64 r.2.1,.own 901 false,.own 902 false,.int .i64 r.2.2.1,.own 903 false]) [(0,.rc [.imm (.int .u8) r.1.1,.int .i64 r.1.2]),(1,.sl 3 y0_ o1 .shallow),(2,.sl 145 y5_ o2 (.deep true .no)),(900,.rc [.int .i64 r.2.1,.own 901 false,.own 902 false,.int .i64 r.2.2.1,.own 903 false]),(901,.sl 3 y0_ r.2.2.2.1 .shallow),(902,.sl 3 y0_ r.2.2.2.2.1 .shallow),(903,.sl 23 (.sl y0_) r.2.2.2.2.2 (.deep true .no))])
  |_,_=>.fail
def Zpk:Sched:=.alt 6 (.first 7 (.alt 8 .done .stop)) .stop
def Zpl:Sched:=.alt 5 Zpk .stop
def Zpm:Sched:=.alt 4 Zpl .stop
def ZxY:Cfg:={ y:=tys,n:=77,h:=3,tab:=[(54,ZeO),(87,Zex),(185,ZmL)],cut:=[9,19],hand:=[(185,[1])],deep:=[66],sched:=[(8,(ZB [0,2] (.alt 1 (.alt 3 Zpm .stop) (.alt 3 (.alt 1 Zpm (.alt 4 (.alt 1 Zpl (.alt 5 (.alt 1 Zpk .stop) .stop)) .stop)) .stop))))] }
theorem ZJ5 {P:Prop} (h:P:=by
  refine Zg he fun he=>?_
  exact⟨_,(Zj he :),(Za [(10000003,35)])⟩):P:=h
theorem ZFh {P:Prop} (h:P:=by
  refine Y4 ?_
  refine Y4 ?_
  refine And.intro hq2 ?_
  refine Y4 ?_
  exact ZJ5):P:=h
theorem Zyw:Zn Tryz.prog 124 ZmK:=by
 refine Zq (C:=ZxY) Tryz.f124 (Zk ZhU (Zk ZgU (Zk Zyx Zr))) fun _ a b k he=>?_
 unfold ZmK at he;split at he;rotate_left;exact he.elim
 rename_i o0_0 o0_1 o1 o2
 refine Zs he fun he=>?_
 refine Zi he fun r1_ he=>?_
 refine Zi he fun r2_ he=>?_
 refine Zh he (fun he=>?_) fun he=>?_
 ·refine ZN (Zl2 r1_ r2_) (fun (i2,i_21)=>(Zm [(0,.c (.ptr 0 0)),(4,.c (.ptr 10001000 0)),(5,.c (.ptr 10001001 0))],[(0,.rc [.imm (.int .u8) i2.1,.int .i64 i2.2]),(1,.sl 3 y0_ o1 .shallow),(2,.sl 145 y5_ o2 (.deep true .no)),(10001000,.rc [.int .i64 (0:Int),.nil,.nil,.int .i64 (0:Int),.nil]),(10001001,.rc [.int .i64 r1_.1,.own 10001002 false,.own 10001003 false,.int .i64 (0:Int),.nil]),(10001002,.sl 3 y0_ r2_.2 .shallow),(10001003,.sl 3 y0_ i_21 .shallow)])) he ?_ ?_
  ·rintro⟨i2,i_21⟩ he
   refine Zi he fun r6_ he=>?_
   exact Zt [(4,[900])] (Zj he :) (Za [(900,10001000),(901,10001002),(902,10001003)])
  ·skip
   refine Zp (Zip r1_ r2_) (fun (i,i1,i_2)=>(Zm [(0,.c (.ptr 0 0)),(4,.c (.ptr 10000000 0)),(5,.c (.ptr 10000001 0)),(6,.c (.int .i64 i))],[(0,.rc [.imm (.int .u8) i1.1,.int .i64 i1.2]),(1,.sl 3 y0_ o1 .shallow),(2,.sl 145 y5_ o2 (.deep true .no)),(10000000,.rc [.int .i64 (0:Int),.nil,.nil,.int .i64 (0:Int),.nil]),(10000001,.rc [.int .i64 r1_.1,.own 10000002 false,.own 10000003 false,.int .i64 (0:Int),.nil]),(10000002,.sl 3 y0_ r2_.2 .shallow),(10000003,.sl 3 y0_ i_2 .shallow)])) he (Za [(10000000,4),(10000001,5),(10000002,17900)]) ?_
   rintro⟨i,i1,i_2⟩ _ he
   refine Zh he (fun he=>?_) fun he=>?_
   ·refine And.intro (by kernel_rfl) ?_
    obtain⟨r5_,hq1,he⟩:=ZX he
    obtain⟨hq2,he⟩:=ZP he
    refine Y5 ?_ ?_
    ·skip
     refine Y4 ?_
     refine Y4 ?_
     refine⟨r5_,hq1,?_⟩
     exact ZFh
    ·skip
     refine Y5 ?_ ?_
     ·skip
      refine Y4 ?_
      refine⟨r5_,hq1,?_⟩
      exact ZFh
     ·skip
      refine⟨r5_,hq1,?_⟩
      refine Y5 ?_ ?_
      ·skip
       exact ZFh
      ·skip
       exact ZFh
   ·exact⟨_,(Zbp he :),(Za [(10001000,10000000),(10001001,10000001),(10001002,10000002),(10001003,10000003)])⟩
 ·refine Zh he (fun he=>?_) fun he=>?_
  ·refine Zi he fun r7_ he=>?_
   refine Zp (Ziq r1_ r2_) (fun (i3,i9,i_4)=>(Zm [(0,.c (.ptr 0 0)),(4,.c (.ptr 10002000 0)),(5,.c (.ptr 10002001 0)),(7,.c (.int .i64 i3))],[(0,.rc [.imm (.int .u8) i9.1,.int .i64 i9.2]),(1,.sl 3 y0_ o1 .shallow),(2,.sl 145 y5_ o2 (.deep true .no)),(10002000,.rc [.int .i64 (0:Int),.nil,.nil,.int .i64 (0:Int),.nil]),(10002001,.rc [.int .i64 r1_.1,.own 10002002 false,.nil,.int .i64 (0:Int),.own 10002003 false]),(10002002,.sl 3 y0_ r2_.2 .shallow),(10002003,.sl 23 (.sl y0_) i_4 (.deep true .no))])) he (Za [(10002000,4),(10002001,5),(10002002,17900)]) ?_
   rintro⟨i3,i9,i_4⟩ _ he
   refine Zh he (fun he=>?_) fun he=>?_
   ·refine ZN (Zl3 i3 i_4) (fun (i13,i14)=>(Zm [(0,.c (.ptr 0 0)),(4,.c (.ptr 10006000 0)),(5,.c (.ptr 10006001 0)),(7,.c (.int .i64 i3)),(8,.c (.own 10006002 false))],[(0,.rc [.imm (.int .u8) i13.1,.int .i64 i13.2]),(1,.sl 3 y0_ o1 .shallow),(2,.sl 145 y5_ o2 (.deep true .no)),(10006000,.rc [.int .i64 (0:Int),.nil,.nil,.int .i64 (0:Int),.nil]),(10006001,.rc [.int .i64 r1_.1,.own 10006003 false,.nil,.int .i64 (0:Int),.own 10006004 false]),(10006002,.sl 3 y0_ i14 .shallow),(10006003,.sl 3 y0_ r2_.2 .shallow),(10006004,.sl 23 (.sl y0_) i_4 (.deep true .no))])) he ?_ ?_
    ·rintro⟨i13,i14⟩ he
     refine Zg he fun he=>?_
     refine Zg he fun he=>?_
     exact⟨_,(Zj he :),(Za [(10002000,10006000),(10002001,10006001),(10002002,10006003),(10002003,67)])⟩
    ·skip
     refine Zp (Zir r2_ i3 i_4) (fun (i10,i11,i12)=>(Zm [(0,.c (.ptr 0 0)),(4,.c (.ptr 10005000 0)),(5,.c (.ptr 10005001 0)),(7,.c (.int .i64 i3)),(8,.c (.own 10005002 false)),(9,.c (.int .i64 i10))],[(0,.rc [.imm (.int .u8) i11.1,.int .i64 i11.2]),(1,.sl 3 y0_ o1 .shallow),(2,.sl 145 y5_ o2 (.deep true .no)),(10005000,.rc [.int .i64 (0:Int),.nil,.nil,.int .i64 (0:Int),.nil]),(10005001,.rc [.int .i64 r1_.1,.own 10005003 false,.nil,.int .i64 (0:Int),.own 10005004 false]),(10005002,.sl 3 y0_ i12 .shallow),(10005003,.sl 3 y0_ r2_.2 .shallow),(10005004,.sl 23 (.sl y0_) i_4 (.deep true .no))])) he (Za [(10005000,10002000),(10005001,10002001),(10005002,50),(10005003,10002002),(10005004,10002003)]) ?_
     rintro⟨i10,i11,i12⟩ _ he
     refine Zh he (fun he=>?_) fun he=>?_
     ·refine Zi he fun r11_ he=>?_
      refine Zg he fun he=>?_
      refine Zg he fun he=>?_
      exact⟨_,(Zj he :),(Za [(10005002,62)])⟩
     ·exact⟨_,(Zbp he :),(Za [(10006000,10005000),(10006001,10005001),(10006002,10005002),(10006003,10005003),(10006004,10005004)])⟩
   ·exact Zt [(4,[900])] (Zj he :) (Za [(900,10002000),(901,10002002),(903,10002003)])
  ·refine Zh he (fun he=>?_) fun he=>?_
   ·refine Zi he fun r12_ he=>?_
    refine Zg he fun he=>?_
    exact Zt [(4,[900])] (Zj he :) (Za [(900,4),(901,74)])
   ·exact Zt [(4,[900])] (Zj he :) (Za [(900,4),(901,17900)])
def ZqB:Con:=fun
  |[.c (.ptr 0 0)],[(0,.rc [.imm (.int .u8) o0_0,.int .i64 o0_1])]=>.opt _ (Zqd (o0_0,o0_1)) (fun r=>.ret (.agg [.own 901 false,.own 902 false]) [(0,.rc [.imm (.int .u8) r.1.1,.int .i64 r.1.2]),(900,.rc [.own 901 false,.own 902 false]),(901,.sl 3 y0_ r.2.1 .shallow),(902,.sl 145 y5_ r.2.2 (.deep true .no))])
  |_,_=>.fail
def Zsl:Sched:=.alt 6 (.first 7 (.alt 8 .done .stop)) .stop
def Zsm:Sched:=.alt 5 Zsl .stop
def Zsn:Sched:=.alt 4 Zsm .stop
def Zso:Sched:=ZB [0,2] (.alt 1 (.alt 3 Zsn .stop) (.alt 3 (.alt 1 Zsn (.alt 4 (.alt 1 Zsm (.alt 5 (.alt 1 Zsl .stop) .stop)) .stop)) .stop))
def ZCJ:Cfg:={ y:=tys,n:=67,h:=1,tab:=[(54,ZeO),(124,ZmK)],cut:=[6,15],hand:=[(124,[1])],deep:=[63],sched:=[(5,Zso),(18,Zso)] }
theorem ZFi {P:Prop} (h:P:=by
  refine Y4 ?_
  refine Y4 ?_
  refine And.intro hq2 ?_
  refine Y4 ?_
  refine Zg he fun he=>?_
  exact⟨_,(Zj he :),(Za [(10006003,64)])⟩):P:=h
theorem ZCy {P:Prop} (h:P:=by
  refine Zg he fun he=>?_
  exact ZdH):P:=h
theorem ZvF {P:Prop} (h:P:=by
  refine Zg he fun he=>?_
  exact ZCy):P:=h
theorem ZtN {P:Prop} (h:P:=by
  refine Zg he fun he=>?_
  exact ZvF):P:=h
theorem ZLe {P:Prop} (h:P:=by
  exact⟨_,(Zj he :),(Za [(10002000,10004000),(10002001,10004001),(10002002,10004002)])⟩):P:=h
theorem ZLf {P:Prop} (h:P:=by
  refine Zg he fun he=>?_
  exact⟨_,(Zj he :),(Za [(10000002,22)])⟩):P:=h
theorem ZCn {P:Prop} (h:P:=by
  refine Y4 ?_
  refine Y4 ?_
  refine And.intro hq2 ?_
  refine Y4 ?_
  exact ZLf):P:=h
theorem ZC4:Zn Tryz.prog 52 ZqB:=by
 refine Zq (C:=ZCJ) Tryz.f52 (Zk ZhU (Zk Zyw Zr)) fun _ a b k he=>?_
 unfold ZqB at he;split at he;rotate_left;exact he.elim
 rename_i o0_0 o0_1
 refine Zs he fun he=>?_
 refine ZN (Zmn) (fun (i2,i_01)=>(Zm [(0,.c (.ptr 0 0)),(2,.c (.ptr 10001000 0)),(3,.c (.ptr 10001001 0))],[(0,.rc [.imm (.int .u8) i2.1,.int .i64 i2.2]),(10001000,.rc [.nil,.nil]),(10001001,.rc [.own 10001002 false,.nil]),(10001002,.sl 3 y0_ i_01 .shallow)])) he ?_ ?_
 ·rintro⟨i2,i_01⟩ he
  refine ZN (Zmo i2) (fun i_03=>(Zm [(0,.c (.ptr 0 0)),(2,.c (.ptr 10005000 0)),(3,.c (.ptr 10005001 0))],[(0,.rc [.imm (.int .u8) i2.1,.int .i64 i2.2]),(10005000,.rc [.nil,.nil]),(10005001,.rc [.own 10005002 false,.nil]),(10005002,.sl 3 y0_ i_03 .shallow)])) he ?_ ?_
  ·rintro i_03 he
   refine Zi he fun r5_ he=>?_
   refine Zp (Zmp i_03) (fun (i8,i9,i_1)=>(Zm [(0,.c (.ptr 0 0)),(2,.c (.ptr 10006000 0)),(3,.c (.ptr 10006001 0)),(7,.c (.int .i64 i8))],[(0,.rc [.imm (.int .u8) i9.1,.int .i64 i9.2]),(10006000,.rc [.nil,.nil]),(10006001,.rc [.own 10006002 false,.own 10006003 false]),(10006002,.sl 3 y0_ i_03 .shallow),(10006003,.sl 145 y5_ i_1 (.deep true .no))])) he (Za [(10006000,10005000),(10006001,10005001),(10006002,10005002)]) ?_
   rintro⟨i8,i9,i_1⟩ _ he
   refine Zh he (fun he=>?_) fun he=>?_
   ·refine And.intro (by kernel_rfl) ?_
    obtain⟨r8_,hq1,he⟩:=ZX he
    obtain⟨hq2,he⟩:=ZP he
    refine Y5 ?_ ?_
    ·skip
     refine Y4 ?_
     refine Y4 ?_
     refine⟨r8_,hq1,?_⟩
     exact ZFi
    ·skip
     refine Y5 ?_ ?_
     ·skip
      refine Y4 ?_
      refine⟨r8_,hq1,?_⟩
      exact ZFi
     ·skip
      refine⟨r8_,hq1,?_⟩
      refine Y5 ?_ ?_
      ·skip
       exact ZFi
      ·skip
       exact ZFi
   ·exact Zt [(2,[900])] (Zj he :) (Za [(900,10006000),(901,10006002),(902,10006003)])
  ·skip
   refine Zp (Zmq i2) (fun (i3,i_02)=>(Zm [(0,.c (.ptr 0 0)),(2,.c (.ptr 10002000 0)),(3,.c (.ptr 10002001 0)),(5,.c (.int .i64 i3))],[(0,.rc [.imm (.int .u8) i2.1,.int .i64 i2.2]),(10002000,.rc [.nil,.nil]),(10002001,.rc [.own 10002002 false,.nil]),(10002002,.sl 3 y0_ i_02 .shallow)])) he (Za [(10002000,10001000),(10002001,10001001),(10002002,10001002)]) ?_
   rintro⟨i3,i_02⟩ _ he
   refine Zh he (fun he=>?_) fun he=>?_
   ·refine Zp (Zgx i_02) (fun (i6,i7)=>(Zm [(0,.c (.ptr 0 0)),(2,.c (.ptr 10004000 0)),(3,.c (.ptr 10004001 0)),(5,.c (.int .i64 i6)),(6,.c (.int .i64 i7))],[(0,.rc [.imm (.int .u8) i2.1,.int .i64 i2.2]),(10004000,.rc [.nil,.nil]),(10004001,.rc [.own 10004002 false,.nil]),(10004002,.sl 3 y0_ i_02 .shallow)])) he (Za [(10004000,10002000),(10004001,10002001),(10004002,10002002)]) ?_
    rintro⟨i6,i7⟩ _ he
    refine Zh he (fun he=>?_) fun he=>?_
    ·exact ZtN
    ·refine Zh he (fun he=>?_) fun he=>?_
     ·refine Zg he fun he=>?_
      refine Zg he fun he=>?_
      exact⟨_,(Zj he :),(Za [(10002000,10004000),(10002001,10004001),(10002002,49)])⟩
     ·exact ZLe
   ·exact⟨_,(Zbp he :),(Za [(10005000,10002000),(10005001,10002001),(10005002,10002002)])⟩
 ·skip
  refine Zi he fun r1_ he=>?_
  refine Zp (Zmr) (fun (i,i1,i_0)=>(Zm [(0,.c (.ptr 0 0)),(2,.c (.ptr 10000000 0)),(3,.c (.ptr 10000001 0)),(4,.c (.int .i64 i))],[(0,.rc [.imm (.int .u8) i1.1,.int .i64 i1.2]),(10000000,.rc [.nil,.nil]),(10000001,.rc [.own 10000002 false,.nil]),(10000002,.sl 3 y0_ i_0 .shallow)])) he (Za [(10000000,2),(10000001,3)]) ?_
  rintro⟨i,i1,i_0⟩ _ he
  refine Zh he (fun he=>?_) fun he=>?_
  ·refine And.intro (by kernel_rfl) ?_
   obtain⟨r4_,hq1,he⟩:=ZX he
   obtain⟨hq2,he⟩:=ZP he
   refine Y5 ?_ ?_
   ·skip
    refine Y4 ?_
    refine Y4 ?_
    refine⟨r4_,hq1,?_⟩
    exact ZCn
   ·skip
    refine Y5 ?_ ?_
    ·skip
     refine Y4 ?_
     refine⟨r4_,hq1,?_⟩
     exact ZCn
    ·skip
     refine⟨r4_,hq1,?_⟩
     refine Y5 ?_ ?_
     ·skip
      exact ZCn
     ·skip
      exact ZCn
  ·exact⟨_,(Zbp he :),(Za [(10001000,10000000),(10001001,10000001),(10001002,10000002)])⟩
def Zr1:Con:=fun
  |[.agg [.imm (.int .i64) m_0,.imm (.pair (.int .i64) (.pair (.sl (.int .i64)) (.pair (.sl (.int .i64)) (.pair (.int .i64) (.sl (.sl (.int .i64))))))) m_1]],[]=>.opt _ (Zq5 (m_0,m_1)) (fun r=>.ret (.agg [.own 901 false,.own 902 false]) [(900,.rc [.own 901 false,.own 902 false]),(901,.sl 3 y0_ r.1 .shallow),(902,.sl 145 y5_ r.2 (.deep true .no))])
  |_,_=>.fail
def Ztc:Sched:=.alt 14 .done .stop
def Ztd:Sched:=.alt 12 Ztc .stop
def ZoM:Sched:=.alt 9 Ztd .stop
def Zte:Sched:=.alt 9 (.alt 12 (.alt 13 Ztc .stop) (.alt 13 Ztd .stop)) (.alt 13 ZoM .stop)
def Ztf:Sched:=.alt 6 ZoM .stop
def ZoN:Sched:=.alt 5 ZoM .stop
def Ztg:Sched:=.alt 5 Zte (.alt 13 ZoN .stop)
def Zth:Sched:=.alt 5 Ztf (.alt 6 ZoN .stop)
def Zti:Sched:=.alt 2 ZoN .stop
def Zsi:Sched:=.alt 10 (.first 11 (.alt 12 .done .stop)) .stop
def Zsj:Sched:=.alt 9 Zsi .stop
def Zsk:Sched:=.alt 8 Zsj .stop
def ZEA:Cfg:={ y:=tys,n:=64,h:=0,tab:=[],cut:=[1,6,7,11],deep:=[54,60],sched:=[(6,(ZB [0,1,3,4,7,8,10,11] (.alt 2 (.alt 5 (.alt 6 Zte (.alt 13 Ztf .stop)) (.alt 6 Ztg (.alt 13 Zth .stop))) (.alt 6 (.alt 2 Ztg (.alt 13 Zti .stop)) (.alt 13 (.alt 2 Zth (.alt 6 Zti .stop)) .stop))))),(10,(ZB [0,3,4,5,6,7] (.alt 1 (.alt 2 Zsk .stop) (.alt 2 (.alt 1 Zsk (.alt 8 (.alt 1 Zsj (.alt 9 (.alt 1 Zsi .stop) .stop)) .stop)) .stop))))] }
theorem ZCo {P:Prop} (h:P:=by
  refine Y4 ?_
  refine Y4 ?_
  refine And.intro hq2 ?_
  refine Y4 ?_
  refine Zg he fun he=>?_
  exact⟨_,(Zj he :),(Za [(10008007,55)])⟩):P:=h
theorem ZG8 {P:Prop} (h:P:=by
  refine Y4 ?_
  refine Y4 ?_
  exact⟨_,he,(Za [(10007000,10006000),(10007001,10006001),(10007002,6),(10007003,10006002),(10007004,10006003),(10007005,30),(10007006,34)])⟩):P:=h
theorem ZtO {P:Prop} (h:P:=by
  refine Y4 ?_
  refine And.intro hq2 ?_
  exact ZG8):P:=h
theorem ZLg {P:Prop} (h:P:=by
  refine Y5 ?_ ?_
  ·skip
   refine And.intro hq2 ?_
   refine Y5 ?_ ?_
   ·skip
    exact ZG8
   ·skip
    exact ZG8
  ·skip
   exact ZtO):P:=h
theorem ZLh {P:Prop} (h:P:=by
  skip
  refine Y5 ?_ ?_
  ·skip
   refine And.intro hq1 ?_
   exact ZLg
  ·skip
   refine Y4 ?_
   refine And.intro hq1 ?_
   exact ZtO):P:=h
theorem ZLi {P:Prop} (h:P:=by
  skip
  refine Y5 ?_ ?_
  ·skip
   refine And.intro hq1 ?_
   refine Y4 ?_
   exact ZtO
  ·skip
   refine Y4 ?_
   refine And.intro hq1 ?_
   exact ZtO):P:=h
theorem ZEP:Zn Tryz.prog 123 Zr1:=by
 refine Zq (C:=ZEA) Tryz.f123 Zr fun _ a b k he=>?_
 unfold Zr1 at he;split at he;rotate_left;exact he.elim
 rename_i m_0 m_1
 refine Zs he fun he=>?_
 refine ZN (Zvy (m_0,m_1)) (fun _=>(Zm [(1,.c (.iptr ZDM (m_0,m_1) 0)),(2,.c (.ptr 10000000 0))],[(10000000,.rc [.nil,.nil])])) he ?_ ?_
 ·rintro⟨⟩ he
  refine Zg he fun he=>?_
  refine Zp (ZqT (m_0,m_1)) (fun (i,out_1)=>(Zm [(1,.c (.iptr ZDM (m_0,m_1) 0)),(2,.c (.ptr 10001000 0)),(3,.c (.ptr 10001001 0)),(4,.c (.int .i64 i))],[(10001000,.rc [.nil,.nil]),(10001001,.rc [.own 10001002 false,.own 10001003 false]),(10001002,.sl 3 y0_ (([]:List Int)++(m_0,m_1).1) .shallow),(10001003,.sl 145 y5_ out_1 (.deep true .no))])) he (Za [(10001000,10000000),(10001001,3),(10001002,11)]) ?_
  rintro⟨i,out_1⟩ _ he
  refine Zh he (fun he=>?_) fun he=>?_
  ·refine ZN (Zvz (m_0,m_1) i out_1) (fun _=>(Zm [(1,.c (.iptr ZDM (m_0,m_1) 0)),(2,.c (.ptr 10006000 0)),(3,.c (.ptr 10006001 0)),(4,.c (.int .i64 i)),(5,.c (.iptr y5_ ((m_0,m_1).2.getD i.toNat (0,([],([],(0,[]))))) 0))],[(10006000,.rc [.nil,.nil]),(10006001,.rc [.own 10006002 false,.own 10006003 false]),(10006002,.sl 3 y0_ (([]:List Int)++(m_0,m_1).1) .shallow),(10006003,.sl 145 y5_ out_1 (.deep true .no))])) he ?_ ?_
   ·rintro⟨⟩ he
    refine ZN (ZvA (m_0,m_1) i out_1) (fun _=>(Zm [(1,.c (.iptr ZDM (m_0,m_1) 0)),(2,.c (.ptr 10007000 0)),(3,.c (.ptr 10007001 0)),(4,.c (.int .i64 i)),(5,.c (.iptr y5_ ((m_0,m_1).2.getD i.toNat (0,([],([],(0,[]))))) 0)),(6,.c (.ptr 10007002 0))],[(10007000,.rc [.nil,.nil]),(10007001,.rc [.own 10007003 false,.own 10007004 false]),(10007002,.rc [.int .i64 ((m_0,m_1).2.getD i.toNat (0,([],([],(0,[]))))).1,.own 10007005 false,.own 10007006 false,.int .i64 ((m_0,m_1).2.getD i.toNat (0,([],([],(0,[]))))).2.2.2.1,.nil]),(10007003,.sl 3 y0_ (([]:List Int)++(m_0,m_1).1) .shallow),(10007004,.sl 145 y5_ out_1 (.deep true .no)),(10007005,.sl 3 y0_ (([]:List Int)++((m_0,m_1).2.getD i.toNat (0,([],([],(0,[]))))).2.1) .shallow),(10007006,.sl 3 y0_ (([]:List Int)++((m_0,m_1).2.getD i.toNat (0,([],([],(0,[]))))).2.2.1) .shallow)])) he ?_ ?_
    ·rintro⟨⟩ he
     refine ZN (ZvB (m_0,m_1) i out_1) (fun y_43=>(Zm [(1,.c (.iptr ZDM (m_0,m_1) 0)),(2,.c (.ptr 10009000 0)),(3,.c (.ptr 10009001 0)),(4,.c (.int .i64 i)),(6,.c (.ptr 10009002 0))],[(10009000,.rc [.nil,.nil]),(10009001,.rc [.own 10009003 false,.own 10009004 false]),(10009002,.rc [.int .i64 ((m_0,m_1).2.getD i.toNat (0,([],([],(0,[]))))).1,.own 10009005 false,.own 10009006 false,.int .i64 ((m_0,m_1).2.getD i.toNat (0,([],([],(0,[]))))).2.2.2.1,.own 10009007 false]),(10009003,.sl 3 y0_ (([]:List Int)++(m_0,m_1).1) .shallow),(10009004,.sl 145 y5_ out_1 (.deep true .no)),(10009005,.sl 3 y0_ (([]:List Int)++((m_0,m_1).2.getD i.toNat (0,([],([],(0,[]))))).2.1) .shallow),(10009006,.sl 3 y0_ (([]:List Int)++((m_0,m_1).2.getD i.toNat (0,([],([],(0,[]))))).2.2.1) .shallow),(10009007,.sl 23 (.sl y0_) y_43 (.deep true .no))])) he ?_ ?_
     ·rintro y_43 he
      refine Zg he fun he=>?_
      refine Zg he fun he=>?_
      exact⟨_,(Zj he :),(Za [(10001000,10009000),(10001001,10009001),(10001002,10009003),(10001003,61)])⟩
     ·skip
      refine Zp (ZhH (m_0,m_1) i out_1) (fun (k_1,y_42)=>(Zm [(1,.c (.iptr ZDM (m_0,m_1) 0)),(2,.c (.ptr 10008000 0)),(3,.c (.ptr 10008001 0)),(4,.c (.int .i64 i)),(5,.c (.iptr y5_ ((m_0,m_1).2.getD i.toNat (0,([],([],(0,[]))))) 0)),(6,.c (.ptr 10008002 0)),(7,.c (.int .i64 k_1))],[(10008000,.rc [.nil,.nil]),(10008001,.rc [.own 10008003 false,.own 10008004 false]),(10008002,.rc [.int .i64 ((m_0,m_1).2.getD i.toNat (0,([],([],(0,[]))))).1,.own 10008005 false,.own 10008006 false,.int .i64 ((m_0,m_1).2.getD i.toNat (0,([],([],(0,[]))))).2.2.2.1,.own 10008007 false]),(10008003,.sl 3 y0_ (([]:List Int)++(m_0,m_1).1) .shallow),(10008004,.sl 145 y5_ out_1 (.deep true .no)),(10008005,.sl 3 y0_ (([]:List Int)++((m_0,m_1).2.getD i.toNat (0,([],([],(0,[]))))).2.1) .shallow),(10008006,.sl 3 y0_ (([]:List Int)++((m_0,m_1).2.getD i.toNat (0,([],([],(0,[]))))).2.2.1) .shallow),(10008007,.sl 23 (.sl y0_) y_42 (.deep true .no))])) he (Za [(10008000,10007000),(10008001,10007001),(10008002,10007002),(10008003,10007003),(10008004,10007004),(10008005,10007005),(10008006,10007006)]) ?_
      rintro⟨k_1,y_42⟩ _ he
      refine Zh he (fun he=>?_) fun he=>?_
      ·refine And.intro (by kernel_rfl) ?_
       refine Zg he fun he=>?_
       obtain⟨hq1,he⟩:=ZP he
       obtain⟨hq2,he⟩:=ZP he
       refine Y5 ?_ ?_
       ·skip
        refine Y4 ?_
        refine Y4 ?_
        refine And.intro hq1 ?_
        exact ZCo
       ·skip
        refine Y5 ?_ ?_
        ·skip
         refine Y4 ?_
         refine And.intro hq1 ?_
         exact ZCo
        ·skip
         refine And.intro hq1 ?_
         refine Y5 ?_ ?_
         ·skip
          exact ZCo
         ·skip
          exact ZCo
      ·exact⟨_,(Zbp he :),(Za [(10009000,10008000),(10009001,10008001),(10009002,10008002),(10009003,10008003),(10009004,10008004),(10009005,10008005),(10009006,10008006),(10009007,10008007)])⟩
    ·skip
     refine And.intro (by kernel_rfl) ?_
     obtain⟨hq1,he⟩:=ZP he
     obtain⟨hq2,he⟩:=ZP he
     refine And.intro ?_ (And.intro ?_ (And.intro ?_ (Y1)))
     ·skip
      refine And.intro ?_ (And.intro ?_ (And.intro ?_ (Y1)))
      ·skip
       refine And.intro hq1 ?_
       refine Y5 ?_ ?_
       ·skip
        exact ZLg
       ·skip
        refine Y4 ?_
        exact ZtO
      ·exact ZLh
      ·exact ZLi
     ·skip
      refine Y5 ?_ ?_
      ·exact ZLh
      ·skip
       refine Y4 ?_
       refine Y4 ?_
       refine And.intro hq1 ?_
       exact ZtO
     ·skip
      refine Y5 ?_ ?_
      ·exact ZLi
      ·skip
       refine Y4 ?_
       refine Y4 ?_
       refine And.intro hq1 ?_
       exact ZtO
   ·skip
    refine Zg he fun he=>?_
    exact⟨_,he,(Zc9 [(10006000,10001000),(10006001,10001001),(10006002,10001002),(10006003,10001003)] rfl rfl ⟨⟨rfl,rfl,Y1⟩,⟨Y3,Y3,Y1⟩,Y2,Y2,Y1⟩ ⟨.inl rfl,⟨Y2,rfl⟩,⟨Y2,rfl⟩,rfl,.inr ⟨5,rfl,⟨rfl,by repeat (first|exact trivial|refine And.intro trivial ?_)⟩,rfl⟩,Y1⟩)⟩
  ·exact Zt [(2,[900])] (Zj he :) (Za [(900,10001000),(901,10001002),(902,10001003)])
 ·skip
  exact⟨_,he,(Zc9 [(10000000,2)] rfl rfl ⟨⟨rfl,rfl,Y1⟩,Y1⟩ ⟨.inr ⟨1,rfl,⟨rfl,by repeat (first|exact trivial|refine And.intro trivial ?_)⟩,rfl⟩,⟨Y2,rfl⟩,Y1⟩)⟩
def ZpO:Con:=fun
  |[.c (.ptr 0 0),.agg [.imm (.int .i64) a1_0,.imm (.pair (.int .i64) (.pair (.sl (.int .i64)) (.pair (.sl (.int .i64)) (.pair (.int .i64) (.sl (.sl (.int .i64))))))) a1_1]],[(0,.rc [.imm (.int .u8) o0_0,.int .i64 o0_1])]=>.opt _ (ZoE (a1_0,a1_1) (o0_0,o0_1)) (fun r=>.ret (.agg [.own 901 false,.own 902 false]) [(0,.rc [.imm (.int .u8) r.1.1,.int .i64 r.1.2]),(900,.rc [.own 901 false,.own 902 false]),(901,.sl 3 y0_ r.2.1 .shallow),(902,.sl 145 y5_ r.2.2 (.deep true .no))])
  |_,_=>.fail
def Zrm:Sched:=.first 5 (.alt 6 .done .stop)
def Zrn:Sched:=.alt 4 Zrm .stop
def Zro:Sched:=ZB [5,6] (.alt 7 .done .stop)
def Zrp:Sched:=.alt 4 Zro .stop
def Zrq:Sched:=ZB [0,2] (.alt 1 (.alt 3 Zrp .stop) (.alt 3 (.alt 1 Zrp (.alt 4 (.alt 1 Zro .stop) .stop)) .stop))
def Zrr:Sched:=.first 10 (.alt 11 .done .stop)
def Zrs:Sched:=.alt 9 Zrr .stop
def Zrt:Sched:=.alt 6 Zrr .stop
def Zru:Sched:=.alt 6 Zrs (.alt 9 Zrt .stop)
def ZBf:Cfg:={ y:=tys,n:=89,h:=1,tab:=[(54,ZeO),(87,Zex),(123,Zr1)],sched:=[(6,(ZB [0,2] (.alt 1 (.alt 3 Zrn .stop) (.alt 3 (.alt 1 Zrn (.alt 4 (.alt 1 Zrm .stop) .stop)) .stop)))),(12,Zrq),(15,(ZB [0,2,3,7] (.alt 1 (ZB [4,5] (.alt 6 (.alt 8 Zrs .stop) (.alt 8 Zru .stop))) (.alt 8 (.alt 1 (ZB [4,5] Zru) (.alt 9 (.alt 1 (ZB [4,5] Zrt) .stop) .stop)) .stop)))),(18,Zrq)] }
theorem ZvO {P:Prop} (h:P:=by
  exact Zt [(4,[900])] (Zj he :) (Za [(900,4),(901,9901),(902,9902)])):P:=h
theorem ZtP {P:Prop} (h:P:=by
  refine And.intro hq2 ?_
  refine Y4 ?_
  exact ZvO):P:=h
theorem ZG9 {P:Prop} (h:P:=by
  refine Y4 ?_
  exact ZtP):P:=h
theorem ZCp {P:Prop} (h:P:=by
  refine And.intro hq3 ?_
  refine Y4 ?_
  exact Zt [(4,[900])] (Zj he :) ((Zz9 [9902] rfl).trans (Za [(900,4),(901,9901),(902,9902)] (l:=[(4,.c (.ptr 900 0))]) (st':=[(0,.rc [.imm (.int .u8) r8_.2.1,.int .i64 r8_.2.2]),(900,.rc [.own 901 false,.own 902 false]),(901,.sl 3 y0_ r1_.1 .shallow),(902,.sl 145 y5_ ((r1_.2.set ((r1_.2.length:Int) - (1:Int)).toNat (r1_.2.getD ((r1_.2.length:Int) - (1:Int)).toNat (0,([],([],(0,[])))))).set ((r1_.2.length:Int) - (1:Int)).toNat (((r1_.2.set ((r1_.2.length:Int) - (1:Int)).toNat (r1_.2.getD ((r1_.2.length:Int) - (1:Int)).toNat (0,([],([],(0,[])))))).getD ((r1_.2.length:Int) - (1:Int)).toNat (0,([],([],(0,[]))))).1,((((r1_.2.set ((r1_.2.length:Int) - (1:Int)).toNat (r1_.2.getD ((r1_.2.length:Int) - (1:Int)).toNat (0,([],([],(0,[])))))).getD ((r1_.2.length:Int) - (1:Int)).toNat (0,([],([],(0,[]))))).2.1.set (0:Int).toNat r8_.1),((r1_.2.set ((r1_.2.length:Int) - (1:Int)).toNat (r1_.2.getD ((r1_.2.length:Int) - (1:Int)).toNat (0,([],([],(0,[])))))).getD ((r1_.2.length:Int) - (1:Int)).toNat (0,([],([],(0,[]))))).2.2))) (.deep true .no))])))):P:=h
theorem ZLj {P:Prop} (h:P:=by
  refine Y5 ?_ ?_
  ·skip
   refine Y4 ?_
   refine⟨r8_,hq2,?_⟩
   exact ZCp
  ·skip
   refine⟨r8_,hq2,?_⟩
   refine Y4 ?_
   exact ZCp):P:=h
theorem ZBF:Zn Tryz.prog 51 ZpO:=by
 refine Zq (C:=ZBf) Tryz.f51 (Zk ZhU (Zk ZgU (Zk ZEP Zr))) fun _ a b k he=>?_
 unfold ZpO at he;split at he;rotate_left;exact he.elim
 rename_i a1_0 a1_1 o0_0 o0_1
 refine Zs he fun he=>?_
 refine Zi he fun r1_ he=>?_
 refine Zi he fun r2_ he=>?_
 refine Zh he (fun he=>?_) fun he=>?_
 ·refine Zh he (fun he=>?_) fun he=>?_
  ·refine And.intro (by kernel_rfl) ?_
   obtain⟨r4_,hq1,he⟩:=ZX he
   obtain⟨hq2,he⟩:=ZP he
   refine Y5 ?_ ?_
   ·skip
    refine Y4 ?_
    refine Y4 ?_
    refine⟨r4_,hq1,?_⟩
    exact ZtP
   ·skip
    refine Y5 ?_ ?_
    ·skip
     refine Y4 ?_
     refine⟨r4_,hq1,?_⟩
     exact ZtP
    ·skip
     refine⟨r4_,hq1,?_⟩
     exact ZG9
  ·exact ZvO
 ·refine Zh he (fun he=>?_) fun he=>?_
  ·refine Zp (Zlh r1_ r2_) (fun i_0=>(Zm [(4,.c (.ptr 10000000 0)),(5,.c (.ptr 10000001 0))],[(0,.rc [.imm (.int .u8) r2_.2.1,.int .i64 r2_.2.2]),(10000000,.rc [.nil,.nil]),(10000001,.rc [.own 10000002 false,.own 10000003 false]),(10000002,.sl 3 y0_ i_0 .shallow),(10000003,.sl 145 y5_ r1_.2 (.deep true .no))])) he (Za [(10000000,4),(10000001,5),(10000002,9901),(10000003,9902)]) ?_
   rintro i_0 _ he
   refine Zh he (fun he=>?_) fun he=>?_
   ·refine Zg he fun he=>?_
    exact⟨_,(Zj he :),(Za [(10000002,35)])⟩
   ·exact Zt [(4,[900])] (Zj he :) (Za [(900,10000000),(901,10000002),(902,10000003)])
  ·refine Zh he (fun he=>?_) fun he=>?_
   ·refine Zh he (fun he=>?_) fun he=>?_
    ·refine And.intro (by kernel_rfl) ?_
     obtain⟨r6_,hq1,he⟩:=ZX he
     obtain⟨hq2,he⟩:=ZP he
     refine Y5 ?_ ?_
     ·skip
      refine Y4 ?_
      refine Y4 ?_
      refine⟨r6_,hq1,?_⟩
      exact ZtP
     ·skip
      refine Y5 ?_ ?_
      ·skip
       refine Y4 ?_
       refine⟨r6_,hq1,?_⟩
       exact ZtP
      ·skip
       refine⟨r6_,hq1,?_⟩
       exact ZG9
    ·exact ZvO
   ·refine Zh he (fun he=>?_) fun he=>?_
    ·refine Zh he (fun he=>?_) fun he=>?_
     ·refine Zg he fun he=>?_
      refine Zg he fun he=>?_
      refine Zh he (fun he=>?_) fun he=>?_
      ·refine And.intro (by kernel_rfl) ?_
       refine Zg he fun he=>?_
       obtain⟨hq1,he⟩:=ZP he
       obtain⟨r8_,hq2,he⟩:=ZX he
       obtain⟨hq3,he⟩:=ZP he
       refine Y5 ?_ ?_
       ·skip
        refine And.intro hq1 ?_
        refine Y5 ?_ ?_
        ·skip
         refine Y4 ?_
         refine Y4 ?_
         refine⟨r8_,hq2,?_⟩
         exact ZCp
        ·skip
         exact ZLj
       ·skip
        refine Y5 ?_ ?_
        ·skip
         refine And.intro hq1 ?_
         exact ZLj
        ·skip
         refine⟨r8_,hq2,?_⟩
         refine Y4 ?_
         refine And.intro hq1 ?_
         refine Y4 ?_
         exact ZCp
      ·exact Zt [(4,[900])] (Zj he :) ((Zz9 [9902] rfl).trans (Za [(900,4),(901,9901),(902,9902)] (l:=[(4,.c (.ptr 900 0))]) (st':=[(0,.rc [.imm (.int .u8) r2_.2.1,.int .i64 r2_.2.2]),(900,.rc [.own 901 false,.own 902 false]),(901,.sl 3 y0_ r1_.1 .shallow),(902,.sl 145 y5_ (r1_.2.set ((r1_.2.length:Int) - (1:Int)).toNat (r1_.2.getD ((r1_.2.length:Int) - (1:Int)).toNat (0,([],([],(0,[])))))) (.deep true .no))])))
     ·exact ZvO
    ·refine Zh he (fun he=>?_) fun he=>?_
     ·refine Zh he (fun he=>?_) fun he=>?_
      ·refine And.intro (by kernel_rfl) ?_
       obtain⟨r10_,hq1,he⟩:=ZX he
       obtain⟨hq2,he⟩:=ZP he
       refine Y5 ?_ ?_
       ·skip
        refine Y4 ?_
        refine Y4 ?_
        refine⟨r10_,hq1,?_⟩
        exact ZtP
       ·skip
        refine Y5 ?_ ?_
        ·skip
         refine Y4 ?_
         refine⟨r10_,hq1,?_⟩
         exact ZtP
        ·skip
         refine⟨r10_,hq1,?_⟩
         exact ZG9
      ·exact ZvO
     ·refine Zh he (fun he=>?_) fun he=>?_
      ·exact Zt [(4,[900])] (Zj he :) (Za [(900,4)])
      ·exact ZvO
def ZmN:Con:=fun
  |[.c (.ptr 0 0),.agg [.own 1 false,.own 2 false]],[(0,.rc [.imm (.int .u8) r__0,.int .i64 r__1]),(1,.sl 3 (.int .i64) o1 .shallow),(2,.sl 145 (.pair (.int .i64) (.pair (.sl (.int .i64)) (.pair (.sl (.int .i64)) (.pair (.int .i64) (.sl (.sl (.int .i64))))))) o2 (.deep true .no))]=>.opt _ (Zlp (r__0,r__1) o1 o2) (fun r=>.ret (.c (.own 900 false)) [(0,.rc [.imm (.int .u8) r.1.1,.int .i64 r.1.2]),(1,.sl 3 y0_ o1 .shallow),(2,.sl 145 y5_ o2 (.deep true .no)),(900,.sl 3 y0_ r.2 .shallow)])
  |_,_=>.fail
def Zx1:Cfg:={ y:=tys,n:=39,h:=3,tab:=[(54,ZeO),(87,Zex)],cut:=[6] }
theorem Zyz:Zn Tryz.prog 53 ZmN:=by
 refine Zq (C:=Zx1) Tryz.f53 (Zk ZhU (Zk ZgU Zr)) fun _ a b k he=>?_
 unfold ZmN at he;split at he;rotate_left;exact he.elim
 rename_i r__0 r__1 o1 o2
 refine Zs he fun he=>?_
 refine ZN (Zl7) (fun (r_2,out1)=>(Zm [(0,.c (.ptr 0 0)),(5,.c (.own 10001000 false))],[(0,.rc [.imm (.int .u8) r_2.1,.int .i64 r_2.2]),(1,.sl 3 y0_ o1 .shallow),(2,.sl 145 y5_ o2 (.deep true .no)),(10001000,.sl 3 y0_ out1 .shallow)])) he ?_ ?_
 ·rintro⟨r_2,out1⟩ he
  refine Zi he fun r3_ he=>?_
  refine Zh he (fun he=>?_) fun he=>?_
  ·refine Zh he (fun he=>?_) fun he=>?_
   ·refine Zi he fun r4_ he=>?_
    refine Zg he fun he=>?_
    exact Zt [(4,[])] (Zj he :) (Za [(900,10001000)])
   ·exact Zt [(4,[])] (Zj he :) (Za [(900,10001000)])
  ·refine Zh he (fun he=>?_) fun he=>?_
   ·refine Zg he fun he=>?_
    exact Zt [(4,[])] (Zj he :) (Za [(900,37)])
   ·exact Zt [(4,[])] (Zj he :) (Za [(900,10001000)])
 ·skip
  refine Zp (Ziv o1) (fun (i,r_1,out)=>(Zm [(0,.c (.ptr 0 0)),(3,.c (.ptr 10000000 0)),(5,.c (.own 10000001 false)),(6,.c (.int .i64 i))],[(0,.rc [.imm (.int .u8) r_1.1,.int .i64 r_1.2]),(1,.sl 3 y0_ o1 .shallow),(2,.sl 145 y5_ o2 (.deep true .no)),(10000000,.rc [.own 1 false,.own 2 false]),(10000001,.sl 3 y0_ out .shallow)])) he (Za [(10000000,3),(10000001,7)]) ?_
  rintro⟨i,r_1,out⟩ _ he
  refine Zh he (fun he=>?_) fun he=>?_
  ·refine Zi he fun r2_ he=>?_
   refine Zg he fun he=>?_
   refine Zg he fun he=>?_
   exact⟨_,(Zj he :),(Za [(10000001,20)])⟩
  ·exact⟨_,(Zbp he :),(Za [(10001000,10000001)])⟩
def ZiJ:Con:=fun
  |[.c (.imm (.int .u8) code)],[]=>.opt _ (Zgv code) (fun r=>.ret (.tup [.agg [.own 902 false,.own 903 false],.c (.own 901 false),.c (.int .i64 r.1)]) [(900,.rc [.own 902 false,.own 903 false]),(901,.sl 3 y0_ r.2.1 .shallow),(902,.sl 3 y0_ r.2.2.1 .shallow),(903,.sl 145 y5_ r.2.2.2 (.deep true .no))])
  |_,_=>.fail
def Zlz:Sched:=.alt 5 (ZB [6,7] .done) .stop
def ZlA:Sched:=.alt 4 Zlz .stop
def Zt2:Cfg:={ y:=tys,n:=22,h:=0,tab:=[(50,Zqz),(51,ZpO),(52,ZqB),(53,ZmN),(54,ZeO)],hand:=[(53,[1])],sched:=[(4,(ZB [1,2] (.alt 0 (.alt 3 ZlA .stop) (.alt 3 (.alt 0 ZlA (.alt 4 (.alt 0 Zlz .stop) .stop)) .stop))))] }
theorem ZHa {P:Prop} (h:P:=by
  refine Y4 ?_
  exact Zt [(2,[900]),(3,[]),(4,[])] (Zj he :) (Za [(900,2),(901,17900),(902,14901),(903,14902)])):P:=h
theorem Zua:Zn Tryz.prog 11 ZiJ:=by
 refine Zq (C:=Zt2) Tryz.f11 (Zk ZC2 (Zk ZBF (Zk ZC4 (Zk Zyz (Zk ZhU Zr))))) fun _ a b k he=>?_
 unfold ZiJ at he;split at he;rotate_left;exact he.elim
 rename_i code
 refine Zs he fun he=>?_
 refine Zi he fun r1_ he=>?_
 refine Zi he fun r2_ he=>?_
 refine Zi he fun r3_ he=>?_
 refine Zi he fun r4_ he=>?_
 refine And.intro (by kernel_rfl) ?_
 obtain⟨r6_,hq1,he⟩:=ZX he
 refine Y5 ?_ ?_
 ·skip
  refine Y4 ?_
  refine Y4 ?_
  refine⟨r6_,hq1,?_⟩
  exact ZHa
 ·skip
  refine Y5 ?_ ?_
  ·skip
   refine Y4 ?_
   refine⟨r6_,hq1,?_⟩
   exact ZHa
  ·skip
   refine⟨r6_,hq1,?_⟩
   refine Y4 ?_
   exact ZHa
def ZbY:Con:=fun
  |[.c (.int .i64 n),.c (.int .i64 low),.c (.int .i64 high)],[]=>.opt _ (ZbG n low high) (fun r=>.ret (.c (.bool r)) [])
  |_,_=>.fail
def ZEw:Cfg:={ y:=tys,n:=15,h:=0,tab:=[] }
theorem Z5 {P:Prop} (h:P:=by
  exact ZNP he):P:=h
theorem Zcz:Zn Tryz.prog 127 ZbY:=by
 refine Zq (C:=ZEw) Tryz.f127 Zr fun _ a b k he=>?_
 unfold ZbY at he;split at he;rotate_left;exact he.elim
 rename_i n low high
 refine Zs he fun he=>?_
 refine Zh he (fun he=>?_) fun he=>?_
 ·exact Z5
 ·exact Z5
def ZmH:Con:=fun
  |[.c (.imm (.int .i64) s_),.c (.int .i64 v)],[]=>.opt _ (Zk5 s_ v) (fun r=>.ret (.c (.int .i64 r)) [])
  |_,_=>.fail
def ZxT:Cfg:={ y:=tys,n:=19,h:=0,tab:=[] }
theorem ZCq {P:Prop} (h:P:=by
  refine Zh he (fun he=>?_) fun he=>?_
  ·exact Z5
  ·exact ZdH):P:=h
theorem Zyr:Zn Tryz.prog 237 ZmH:=by
 refine Zq (C:=ZxT) Tryz.f237 Zr fun _ a b k he=>?_
 unfold ZmH at he;split at he;rotate_left;exact he.elim
 rename_i s_ v
 refine Zs he fun he=>?_
 refine Zp (Zda s_ v) (fun i=>(Zm [(0,.c (.imm y0_ s_)),(1,.c (.int .i64 v)),(7,.c (.int .i64 (s_.length:Int))),(8,.c (.int .i64 i))],[])) he (Za []) ?_
 rintro i _ he
 refine Zh he (fun he=>?_) fun he=>?_
 ·refine Zg he fun he=>?_
  exact ZCq
 ·exact Z5
def ZeU:Con:=fun
  |[.c (.imm (.int .i64) s_),.c (.int .i64 v)],[]=>.opt _ (ZcB s_ v) (fun r=>.ret (.c (.bool r)) [])
  |_,_=>.fail
def Zu4:Cfg:={ y:=tys,n:=9,h:=0,tab:=[(237,ZmH)] }
theorem Zkc:Zn Tryz.prog 178 ZeU:=by
 refine Zq (C:=Zu4) Tryz.f178 (Zk Zyr Zr) fun _ a b k he=>?_
 unfold ZeU at he;split at he;rotate_left;exact he.elim
 rename_i s_ v
 refine Zs he fun he=>?_
 refine Zi he fun r1_ he=>?_
 exact Z5
def ZmE:Con:=fun
  |[.c (.int .i64 n)],[]=>.opt _ (ZoT n) (fun r=>.ret (.c (.bool r)) [])
  |_,_=>.fail
def ZxP:Cfg:={ y:=tys,n:=10,h:=0,tab:=[(127,ZbY)] }
theorem ZHb {P:Prop} (h:P:=by
  refine Zi he fun r1_ he=>?_
  exact Z5):P:=h
theorem Zyn:Zn Tryz.prog 199 ZmE:=by
 refine Zq (C:=ZxP) Tryz.f199 (Zk Zcz Zr) fun _ a b k he=>?_
 unfold ZmE at he;split at he;rotate_left;exact he.elim
 rename_i n
 refine Zs he fun he=>?_
 refine ZD he (fun he=>?_) fun he=>?_
 ·exact ZHb
 ·exact Z5
def ZdA:Con:=fun
  |[.c (.imm (.int .i64) s_),.c (.fn 199 [])],[]=>.opt _ (ZdU s_) (fun r=>.ret (.c (.int .i64 r)) [])
  |_,_=>.fail
def ZkC:Cfg:={ y:=tys,n:=19,h:=0,tab:=[(199,ZmE)] }
theorem Zzf {P:Prop} (h:P:=by
  rintro i _ he
  refine Zh he (fun he=>?_) fun he=>?_
  ·refine Zg he fun he=>?_
   refine Zi he fun r1_ he=>?_
   exact ZCq
  ·exact Z5):P:=h
theorem ZkZ:Zn Tryz.prog 186 ZdA:=by
 refine Zq (C:=ZkC) Tryz.f186 (Zk Zyn Zr) fun _ a b k he=>?_
 unfold ZdA at he;split at he;rotate_left;exact he.elim
 rename_i s_
 refine Zs he fun he=>?_
 refine Zp (ZbE s_) (fun i=>(Zm [(0,.c (.imm y0_ s_)),(1,.c (.fn 199 [])),(7,.c (.int .i64 (s_.length:Int))),(8,.c (.int .i64 i))],[])) he (Za []) ?_
 exact Zzf
def Zc4:Con:=fun
  |[.c (.imm (.int .i64) s_),.c (.fn 199 [])],[]=>.opt _ (Zch s_) (fun r=>.ret (.c (.bool r)) [])
  |_,_=>.fail
def ZjB:Cfg:={ y:=tys,n:=9,h:=0,tab:=[(186,ZdA)] }
theorem ZjD:Zn Tryz.prog 125 Zc4:=by
 refine Zq (C:=ZjB) Tryz.f125 (Zk ZkZ Zr) fun _ a b k he=>?_
 unfold Zc4 at he;split at he;rotate_left;exact he.elim
 rename_i s_
 refine Zs he fun he=>?_
 refine Zi he fun r1_ he=>?_
 exact Z5
def ZkH:Con:=fun
  |[.c (.int .i64 n)],[]=>.opt _ (ZmX n) (fun r=>.ret (.c (.bool r)) [])
  |_,_=>.fail
def ZvV:Cfg:={ y:=tys,n:=6,h:=0,tab:=[(127,ZbY)] }
theorem Zwp:Zn Tryz.prog 202 ZkH:=by
 refine Zq (C:=ZvV) Tryz.f202 (Zk Zcz Zr) fun _ a b k he=>?_
 unfold ZkH at he;split at he;rotate_left;exact he.elim
 rename_i n
 refine Zs he fun he=>?_
 refine Zi he fun r1_ he=>?_
 exact Z5
def Zdf:Con:=fun
  |[.c (.imm (.int .i64) s_),.c (.fn 202 [])],[]=>.opt _ (ZdC s_) (fun r=>.ret (.c (.int .i64 r)) [])
  |_,_=>.fail
def ZjW:Cfg:={ y:=tys,n:=19,h:=0,tab:=[(202,ZkH)] }
theorem Zke:Zn Tryz.prog 186 Zdf:=by
 refine Zq (C:=ZjW) Tryz.f186 (Zk Zwp Zr) fun _ a b k he=>?_
 unfold Zdf at he;split at he;rotate_left;exact he.elim
 rename_i s_
 refine Zs he fun he=>?_
 refine Zp (Zbr s_) (fun i=>(Zm [(0,.c (.imm y0_ s_)),(1,.c (.fn 202 [])),(7,.c (.int .i64 (s_.length:Int))),(8,.c (.int .i64 i))],[])) he (Za []) ?_
 exact Zzf
def ZcR:Con:=fun
  |[.c (.imm (.int .i64) s_),.c (.fn 202 [])],[]=>.opt _ (Zb4 s_) (fun r=>.ret (.c (.bool r)) [])
  |_,_=>.fail
def ZiT:Cfg:={ y:=tys,n:=9,h:=0,tab:=[(186,Zdf)] }
theorem Zi8:Zn Tryz.prog 125 ZcR:=by
 refine Zq (C:=ZiT) Tryz.f125 (Zk Zke Zr) fun _ a b k he=>?_
 unfold ZcR at he;split at he;rotate_left;exact he.elim
 rename_i s_
 refine Zs he fun he=>?_
 refine Zi he fun r1_ he=>?_
 exact Z5
def ZmF:Con:=fun
  |[.c (.imm (.int .i64) row),.c (.ptr 0 0)],[(0,.rc [.int .i64 o0_0,.imm (.int .i64) o0_1,.imm (.int .i64) o0_2,.int .i64 o0_3,.imm (.sl (.int .i64)) o0_4])]=>.opt _ (ZoU row (o0_0,(o0_1,(o0_2,(o0_3,o0_4))))) (fun r=>.ret (.c (.bool r)) [(0,.rc [.int .i64 o0_0,.imm y0_ o0_1,.imm y0_ o0_2,.int .i64 o0_3,.imm (.sl y0_) o0_4])])
  |_,_=>.fail
def ZxQ:Cfg:={ y:=tys,n:=14,h:=1,tab:=[(125,ZcR)] }
theorem ZtQ {P:Prop} (h:P:=by
  exact Zt [(3,[])] (Zj he :) (Za [])):P:=h
theorem ZNQ {P:Prop} (h:P:=by
  refine Zi he fun r1_ he=>?_
  exact ZtQ):P:=h
theorem Zyo:Zn Tryz.prog 201 ZmF:=by
 refine Zq (C:=ZxQ) Tryz.f201 (Zk Zi8 Zr) fun _ a b k he=>?_
 unfold ZmF at he;split at he;rotate_left;exact he.elim
 rename_i row o0_0 o0_1 o0_2 o0_3 o0_4
 refine Zs he fun he=>?_
 refine ZD he (fun he=>?_) fun he=>?_
 ·exact ZNQ
 ·exact ZtQ
end
end Go.AE.Y
