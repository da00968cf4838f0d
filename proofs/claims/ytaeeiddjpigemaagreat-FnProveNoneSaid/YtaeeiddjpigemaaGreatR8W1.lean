/-
  Walks: each function keeps the contract that its model gives. No conditions.
-/
import Derived.Test.YtaeeiddjpigemaaGreatR8Tab
import Derived.Test.YtaeeiddjpigemaaGreatR8M
import Derived.Test.YtaeeiddjpigemaaGreatR8S
namespace Go.AE.Y
open Go Go.AE Go.Proofs
set_option linter.unusedVariables false
set_option maxHeartbeats 2000000
set_option maxRecDepth 100000
noncomputable section
def ZpQ:Con:=fun
  |[.c (.imm (.int .u8) code)],[]=>.opt _ (Zpn code) (fun r=>.ret (.c (.ptr 900 0)) [(900,.rc [.imm (.int .u8) r.1,.int .i64 r.2])])
  |_,_=>.fail
def ZBH:Cfg:={ y:=tys,n:=11,h:=0,tab:=[],cut:=[3] }
theorem ZB6:Zn Tryz.prog 50 ZpQ:=by
 refine Zp (C:=ZBH) Tryz.f50 Zq fun _ a b k he=>?_
 unfold ZpQ at he;split at he;rotate_left;exact he.elim
 rename_i code
 refine Zs he fun he=>?_
 refine ZL (ZlK) (fun code1=>(Zm [(0,.c (.imm (.int .u8) code1))],[])) he ?_ ?_
 ·rintro code1 he
  exact Zv [(2,[])] (Zj he :) (Za [(900,10)])
 ·skip
  refine Zh he (fun he=>?_) fun he=>?_
  ·refine Zg he fun he=>?_
   exact⟨_,he,(Za [])⟩
  ·exact⟨_,he,(Za [])⟩
def Zeh:Con:=fun
  |[.c (.ptr 0 0),.c (.int .i64 a1)],[(0,.rc [.imm (.int .u8) o0_0,.int .i64 o0_1])]=>.opt _ (Zdi a1 (o0_0,o0_1)) (fun r=>.ret (.c (.int .i64 r.1)) [(0,.rc [.imm (.int .u8) r.2.1,.int .i64 r.2.2])])
  |_,_=>.fail
def ZyZ:Cfg:={ y:=tys,n:=99,h:=1,tab:=[] }
theorem Zbg {P:Prop} (h:P:=by
  exact Zv [(4,[])] (Zj he :) (Za [])):P:=h
theorem ZEa {P:Prop} (h:P:=by
  refine Zg he fun he=>?_
  exact Zbg):P:=h
theorem ZEb {P:Prop} (h:P:=by
  refine Zg he fun he=>?_
  exact ZEa):P:=h
theorem ZgC:Zn Tryz.prog 87 Zeh:=by
 refine Zp (C:=ZyZ) Tryz.f87 Zq fun _ a b k he=>?_
 unfold Zeh at he;split at he;rotate_left;exact he.elim
 rename_i a1 o0_0 o0_1
 refine Zs he fun he=>?_
 refine Zg he fun he=>?_
 refine ZI he (fun he=>?_) fun he=>?_
 ·refine Zh he (fun he=>?_) fun he=>?_
  ·exact Zbg
  ·refine Zg he fun he=>?_
   refine Zh he (fun he=>?_) fun he=>?_
   ·refine Zg he fun he=>?_
    refine fun _=>?_
    exact ZEb
   ·refine And.intro (by kernel_rfl) ?_
    refine Zg he fun he=>?_
    refine Zg he fun he=>?_
    refine fun _=>?_
    refine Zg he fun he=>?_
    refine Zg he fun he=>?_
    refine Zg he fun he=>?_
    refine Zg he fun he=>?_
    refine Zg he fun he=>?_
    refine Zg he fun he=>?_
    refine fun _=>?_
    refine Zg he fun he=>?_
    refine Zg he fun he=>?_
    refine Zg he fun he=>?_
    refine Zg he fun he=>?_
    refine Zg he fun he=>?_
    refine Zg he fun he=>?_
    refine Zg he fun he=>?_
    refine Zg he fun he=>?_
    refine Zg he fun he=>?_
    exact ZEb
 ·exact Zbg
def Zew:Con:=fun
  |[.c (.ptr 0 0),.c (.imm (.int .i64) list_)],[(0,.rc [.imm (.int .u8) r__0,.int .i64 r__1])]=>.opt _ (Zbj list_ (r__0,r__1)) (fun r=>.ret (.c (.int .i64 r.1)) [(0,.rc [.imm (.int .u8) r.2.1,.int .i64 r.2.2])])
  |_,_=>.fail
def Zzv:Cfg:={ y:=tys,n:=12,h:=1,tab:=[(87,Zeh)] }
theorem Zhw:Zn Tryz.prog 54 Zew:=by
 refine Zp (C:=Zzv) Tryz.f54 (Zk ZgC Zq) fun _ a b k he=>?_
 unfold Zew at he;split at he;rotate_left;exact he.elim
 rename_i list_ r__0 r__1
 refine Zs he fun he=>?_
 refine Zi he fun r1_ he=>?_
 exact ZEa
def Zmc:Con:=fun
  |[.c (.ptr 0 0),.agg [.own 1 false,.own 2 false],.c (.int .i64 a2)],[(0,.rc [.imm (.int .u8) o0_0,.int .i64 o0_1]),(1,.sl 3 (.int .i64) o1 .shallow),(2,.sl 145 (.pair (.int .i64) (.pair (.sl (.int .i64)) (.pair (.sl (.int .i64)) (.pair (.int .i64) (.sl (.sl (.int .i64))))))) o2 (.deep true .no))]=>.opt _ (ZhE a2 (o0_0,o0_1) o1 o2) (fun r=>.ret (.c (.own 900 false)) [(0,.rc [.imm (.int .u8) r.1.1,.int .i64 r.1.2]),(1,.sl 3 y0_ o1 .shallow),(2,.sl 145 y5_ o2 (.deep true .no)),(900,.sl 3 y0_ r.2 .shallow)])
  |_,_=>.fail
def Zw6:Cfg:={ y:=tys,n:=96,h:=3,tab:=[(87,Zeh)],cut:=[7,12,18] }
theorem ZLC {P:Prop} (h:P:=by
  refine Zg he fun he=>?_
  refine Zg he fun he=>?_
  exact⟨_,(Zj he :),(Za [(10002001,56)])⟩):P:=h
theorem Zdy {P:Prop} (h:P:=by
  refine Zg he fun he=>?_
  exact⟨_,(Zj he :),(Za [])⟩):P:=h
theorem ZxE:Zn Tryz.prog 185 Zmc:=by
 refine Zp (C:=Zw6) Tryz.f185 (Zk ZgC Zq) fun _ a b k he=>?_
 unfold Zmc at he;split at he;rotate_left;exact he.elim
 rename_i a2 o0_0 o0_1 o1 o2
 refine Zs he fun he=>?_
 refine ZL (Zh4 a2 o1) (fun (i3,i4)=>(Zm [(0,.c (.ptr 0 0)),(2,.c (.int .i64 a2)),(4,.c (.ptr 10001000 0)),(7,.c (.own 10001001 false))],[(0,.rc [.imm (.int .u8) i3.1,.int .i64 i3.2]),(1,.sl 3 y0_ o1 .shallow),(2,.sl 145 y5_ o2 (.deep true .no)),(10001000,.rc [.own 1 false,.own 2 false]),(10001001,.sl 3 y0_ i4 .shallow)])) he ?_ ?_
 ·rintro⟨i3,i4⟩ he
  refine ZL (Zfq a2 i3) (fun i7=>(Zm [(0,.c (.ptr 0 0)),(2,.c (.int .i64 a2)),(7,.c (.own 10003000 false))],[(0,.rc [.imm (.int .u8) i3.1,.int .i64 i3.2]),(1,.sl 3 y0_ o1 .shallow),(2,.sl 145 y5_ o2 (.deep true .no)),(10003000,.sl 3 y0_ i7 .shallow)])) he ?_ ?_
  ·rintro i7 he
   refine ZL (ZdQ i3) (fun i12=>(Zm [(0,.c (.ptr 0 0)),(7,.c (.own 10006000 false))],[(0,.rc [.imm (.int .u8) i3.1,.int .i64 i3.2]),(1,.sl 3 y0_ o1 .shallow),(2,.sl 145 y5_ o2 (.deep true .no)),(10006000,.sl 3 y0_ i12 .shallow)])) he ?_ ?_
   ·rintro i12 he
    refine Zh he (fun he=>?_) fun he=>?_
    ·refine Zi he fun r3_ he=>?_
     refine Zh he (fun he=>?_) fun he=>?_
     ·refine Zg he fun he=>?_
      refine Zg he fun he=>?_
      refine Zg he fun he=>?_
      refine Zg he fun he=>?_
      exact Zv [(6,[])] (Zj he :) (Za [(900,10006000)])
     ·exact Zv [(6,[])] (Zj he :) (Za [(900,10006000)])
    ·exact Zv [(6,[])] (Zj he :) (Za [(900,10006000)])
   ·skip
    refine ZI he (fun he=>?_) fun he=>?_
    ·refine Zh he (fun he=>?_) fun he=>?_
     ·refine Zo (Zlx a2 i3) (fun (i8,i9)=>(Zm [(0,.c (.ptr 0 0)),(2,.c (.int .i64 a2)),(7,.c (.own 10004000 false)),(10,.c (.int .i64 i8))],[(0,.rc [.imm (.int .u8) i3.1,.int .i64 i3.2]),(1,.sl 3 y0_ o1 .shallow),(2,.sl 145 y5_ o2 (.deep true .no)),(10004000,.sl 3 y0_ i9 .shallow)])) he (Za [(10004000,66)]) ?_
      rintro⟨i8,i9⟩ _ he
      refine Zh he (fun he=>?_) fun he=>?_
      ·refine Zg he fun he=>?_
       refine Zg he fun he=>?_
       exact⟨_,(Zj he :),(Za [(10004000,75)])⟩
      ·exact⟨_,(Zbh he :),(Za [(10006000,10004000)])⟩
     ·exact⟨_,he,(Za [(10006000,10003000)])⟩
    ·refine Zo (Zlw a2 i3) (fun (i10,i11)=>(Zm [(0,.c (.ptr 0 0)),(2,.c (.int .i64 a2)),(7,.c (.own 10005000 false)),(10,.c (.int .i64 i10))],[(0,.rc [.imm (.int .u8) i3.1,.int .i64 i3.2]),(1,.sl 3 y0_ o1 .shallow),(2,.sl 145 y5_ o2 (.deep true .no)),(10005000,.sl 3 y0_ i11 .shallow)])) he (Za [(10005000,66)]) ?_
     rintro⟨i10,i11⟩ _ he
     refine Zh he (fun he=>?_) fun he=>?_
     ·refine Zg he fun he=>?_
      refine Zg he fun he=>?_
      exact⟨_,(Zj he :),(Za [(10005000,75)])⟩
     ·exact⟨_,(Zbh he :),(Za [(10006000,10005000)])⟩
  ·skip
   refine Zo (Zh5 a2 o1 i3) (fun (i5,i6)=>(Zm [(0,.c (.ptr 0 0)),(2,.c (.int .i64 a2)),(4,.c (.ptr 10002000 0)),(7,.c (.own 10002001 false)),(9,.c (.int .i64 i5))],[(0,.rc [.imm (.int .u8) i3.1,.int .i64 i3.2]),(1,.sl 3 y0_ o1 .shallow),(2,.sl 145 y5_ o2 (.deep true .no)),(10002000,.rc [.own 1 false,.own 2 false]),(10002001,.sl 3 y0_ i6 .shallow)])) he (Za [(10002000,10001000),(10002001,10001001)]) ?_
   rintro⟨i5,i6⟩ _ he
   refine Zh he (fun he=>?_) fun he=>?_
   ·refine Zh he (fun he=>?_) fun he=>?_
    ·refine ZI he (fun he=>?_) fun he=>?_
     ·refine Zg he fun he=>?_
      refine Zg he fun he=>?_
      refine Zh he (fun he=>?_) fun he=>?_
      ·exact ZLC
      ·exact Zdy
     ·exact ZLC
    ·exact⟨_,(Zbh he :),(Za [(10003000,10002001)])⟩
   ·exact⟨_,(Zbh he :),(Za [(10003000,10002001)])⟩
 ·skip
  refine Zo (Zh6 a2 o1) (fun (i,i1,i2)=>(Zm [(0,.c (.ptr 0 0)),(2,.c (.int .i64 a2)),(4,.c (.ptr 10000000 0)),(7,.c (.own 10000001 false)),(8,.c (.int .i64 i))],[(0,.rc [.imm (.int .u8) i1.1,.int .i64 i1.2]),(1,.sl 3 y0_ o1 .shallow),(2,.sl 145 y5_ o2 (.deep true .no)),(10000000,.rc [.own 1 false,.own 2 false]),(10000001,.sl 3 y0_ i2 .shallow)])) he (Za [(10000000,4),(10000001,12)]) ?_
  rintro⟨i,i1,i2⟩ _ he
  refine Zh he (fun he=>?_) fun he=>?_
  ·refine Zi he fun r2_ he=>?_
   refine Zh he (fun he=>?_) fun he=>?_
   ·refine Zg he fun he=>?_
    refine Zg he fun he=>?_
    exact⟨_,(Zj he :),(Za [(10000001,26)])⟩
   ·exact Zdy
  ·exact⟨_,(Zbh he :),(Za [(10001000,10000000),(10001001,10000001)])⟩
def Zmb:Con:=fun
  |[.c (.ptr 0 0),.agg [.own 1 false,.own 2 false]],[(0,.rc [.imm (.int .u8) o0_0,.int .i64 o0_1]),(1,.sl 3 (.int .i64) o1 .shallow),(2,.sl 145 (.pair (.int .i64) (.pair (.sl (.int .i64)) (.pair (.sl (.int .i64)) (.pair (.int .i64) (.sl (.sl (.int .i64))))))) o2 (.deep true .no))]=>.opt _ (ZkL (o0_0,o0_1) o1 o2) (fun r=>.ret (.agg [.int .i64 r.2.1,.own 901 false,.own 902 false,.int .i64 r.2.2.1,.own 903 false]) [(0,.rc [.imm (.int .u8) r.1.1,.int .i64 r.1.2]),(1,.sl 3 y0_ o1 .shallow),(2,.sl 145 y5_ o2 (.deep true .no)),(900,.rc [.int .i64 r.2.1,.own 901 false,.own 902 false,.int .i64 r.2.2.1,.own 903 false]),(901,.sl 3 y0_ r.2.2.2.1 .shallow),(902,.sl 3 y0_ r.2.2.2.2.1 .shallow),(903,.sl 23 (.sl y0_) r.2.2.2.2.2 (.deep true .no))])
  |_,_=>.fail
def Zox:Sched:=.alt 6 (.first 7 (.alt 8 .done .stop)) .stop
def Zoy:Sched:=.alt 5 Zox .stop
def Zoz:Sched:=.alt 4 Zoy .stop
def Zw5:Cfg:={ y:=tys,n:=77,h:=3,tab:=[(54,Zew),(87,Zeh),(185,Zmc)],cut:=[9,19],hand:=[(185,[1])],deep:=[66],sched:=[(8,(ZF [0,2] (.alt 1 (.alt 3 Zoz .stop) (.alt 3 (.alt 1 Zoz (.alt 4 (.alt 1 Zoy (.alt 5 (.alt 1 Zox .stop) .stop)) .stop)) .stop))))] }
theorem ZIV {P:Prop} (h:P:=by
  refine Zg he fun he=>?_
  exact⟨_,(Zj he :),(Za [(10000003,35)])⟩):P:=h
theorem ZEc {P:Prop} (h:P:=by
  refine Y4 ?_
  refine Y4 ?_
  refine And.intro hq2 ?_
  refine Y4 ?_
  exact ZIV):P:=h
theorem ZxD:Zn Tryz.prog 124 Zmb:=by
 refine Zp (C:=Zw5) Tryz.f124 (Zk Zhw (Zk ZgC (Zk ZxE Zq))) fun _ a b k he=>?_
 unfold Zmb at he;split at he;rotate_left;exact he.elim
 rename_i o0_0 o0_1 o1 o2
 refine Zs he fun he=>?_
 refine Zi he fun r1_ he=>?_
 refine Zi he fun r2_ he=>?_
 refine Zh he (fun he=>?_) fun he=>?_
 ·refine ZL (Zlu r1_ r2_) (fun (i2,i_21)=>(Zm [(0,.c (.ptr 0 0)),(4,.c (.ptr 10001000 0)),(5,.c (.ptr 10001001 0))],[(0,.rc [.imm (.int .u8) i2.1,.int .i64 i2.2]),(1,.sl 3 y0_ o1 .shallow),(2,.sl 145 y5_ o2 (.deep true .no)),(10001000,.rc [.int .i64 (0:Int),.nil,.nil,.int .i64 (0:Int),.nil]),(10001001,.rc [.int .i64 r1_.1,.own 10001002 false,.own 10001003 false,.int .i64 (0:Int),.nil]),(10001002,.sl 3 y0_ r2_.2 .shallow),(10001003,.sl 3 y0_ i_21 .shallow)])) he ?_ ?_
  ·rintro⟨i2,i_21⟩ he
   refine Zi he fun r6_ he=>?_
   exact Zv [(4,[900])] (Zj he :) (Za [(900,10001000),(901,10001002),(902,10001003)])
  ·skip
   refine Zo (Zh1 r1_ r2_) (fun (i,i1,i_2)=>(Zm [(0,.c (.ptr 0 0)),(4,.c (.ptr 10000000 0)),(5,.c (.ptr 10000001 0)),(6,.c (.int .i64 i))],[(0,.rc [.imm (.int .u8) i1.1,.int .i64 i1.2]),(1,.sl 3 y0_ o1 .shallow),(2,.sl 145 y5_ o2 (.deep true .no)),(10000000,.rc [.int .i64 (0:Int),.nil,.nil,.int .i64 (0:Int),.nil]),(10000001,.rc [.int .i64 r1_.1,.own 10000002 false,.own 10000003 false,.int .i64 (0:Int),.nil]),(10000002,.sl 3 y0_ r2_.2 .shallow),(10000003,.sl 3 y0_ i_2 .shallow)])) he (Za [(10000000,4),(10000001,5),(10000002,17900)]) ?_
   rintro⟨i,i1,i_2⟩ _ he
   refine Zh he (fun he=>?_) fun he=>?_
   ·refine And.intro (by kernel_rfl) ?_
    obtain⟨r5_,hq1,he⟩:=Z6 he
    obtain⟨hq2,he⟩:=ZO he
    refine Y5 ?_ ?_
    ·skip
     refine Y4 ?_
     refine Y4 ?_
     refine⟨r5_,hq1,?_⟩
     exact ZEc
    ·skip
     refine Y5 ?_ ?_
     ·skip
      refine Y4 ?_
      refine⟨r5_,hq1,?_⟩
      exact ZEc
     ·skip
      refine⟨r5_,hq1,?_⟩
      refine Y5 ?_ ?_
      ·skip
       exact ZEc
      ·skip
       exact ZEc
   ·exact⟨_,(Zbh he :),(Za [(10001000,10000000),(10001001,10000001),(10001002,10000002),(10001003,10000003)])⟩
 ·refine Zh he (fun he=>?_) fun he=>?_
  ·refine Zi he fun r7_ he=>?_
   refine Zo (Zh2 r1_ r2_) (fun (i3,i9,i_4)=>(Zm [(0,.c (.ptr 0 0)),(4,.c (.ptr 10002000 0)),(5,.c (.ptr 10002001 0)),(7,.c (.int .i64 i3))],[(0,.rc [.imm (.int .u8) i9.1,.int .i64 i9.2]),(1,.sl 3 y0_ o1 .shallow),(2,.sl 145 y5_ o2 (.deep true .no)),(10002000,.rc [.int .i64 (0:Int),.nil,.nil,.int .i64 (0:Int),.nil]),(10002001,.rc [.int .i64 r1_.1,.own 10002002 false,.nil,.int .i64 (0:Int),.own 10002003 false]),(10002002,.sl 3 y0_ r2_.2 .shallow),(10002003,.sl 23 (.sl y0_) i_4 (.deep true .no))])) he (Za [(10002000,4),(10002001,5),(10002002,17900)]) ?_
   rintro⟨i3,i9,i_4⟩ _ he
   refine Zh he (fun he=>?_) fun he=>?_
   ·refine ZL (Zlv i3 i_4) (fun (i13,i14)=>(Zm [(0,.c (.ptr 0 0)),(4,.c (.ptr 10006000 0)),(5,.c (.ptr 10006001 0)),(7,.c (.int .i64 i3)),(8,.c (.own 10006002 false))],[(0,.rc [.imm (.int .u8) i13.1,.int .i64 i13.2]),(1,.sl 3 y0_ o1 .shallow),(2,.sl 145 y5_ o2 (.deep true .no)),(10006000,.rc [.int .i64 (0:Int),.nil,.nil,.int .i64 (0:Int),.nil]),(10006001,.rc [.int .i64 r1_.1,.own 10006003 false,.nil,.int .i64 (0:Int),.own 10006004 false]),(10006002,.sl 3 y0_ i14 .shallow),(10006003,.sl 3 y0_ r2_.2 .shallow),(10006004,.sl 23 (.sl y0_) i_4 (.deep true .no))])) he ?_ ?_
    ·rintro⟨i13,i14⟩ he
     refine Zg he fun he=>?_
     refine Zg he fun he=>?_
     exact⟨_,(Zj he :),(Za [(10002000,10006000),(10002001,10006001),(10002002,10006003),(10002003,67)])⟩
    ·skip
     refine Zo (Zh3 r2_ i3 i_4) (fun (i10,i11,i12)=>(Zm [(0,.c (.ptr 0 0)),(4,.c (.ptr 10005000 0)),(5,.c (.ptr 10005001 0)),(7,.c (.int .i64 i3)),(8,.c (.own 10005002 false)),(9,.c (.int .i64 i10))],[(0,.rc [.imm (.int .u8) i11.1,.int .i64 i11.2]),(1,.sl 3 y0_ o1 .shallow),(2,.sl 145 y5_ o2 (.deep true .no)),(10005000,.rc [.int .i64 (0:Int),.nil,.nil,.int .i64 (0:Int),.nil]),(10005001,.rc [.int .i64 r1_.1,.own 10005003 false,.nil,.int .i64 (0:Int),.own 10005004 false]),(10005002,.sl 3 y0_ i12 .shallow),(10005003,.sl 3 y0_ r2_.2 .shallow),(10005004,.sl 23 (.sl y0_) i_4 (.deep true .no))])) he (Za [(10005000,10002000),(10005001,10002001),(10005002,50),(10005003,10002002),(10005004,10002003)]) ?_
     rintro⟨i10,i11,i12⟩ _ he
     refine Zh he (fun he=>?_) fun he=>?_
     ·refine Zi he fun r11_ he=>?_
      refine Zg he fun he=>?_
      refine Zg he fun he=>?_
      exact⟨_,(Zj he :),(Za [(10005002,62)])⟩
     ·exact⟨_,(Zbh he :),(Za [(10006000,10005000),(10006001,10005001),(10006002,10005002),(10006003,10005003),(10006004,10005004)])⟩
   ·exact Zv [(4,[900])] (Zj he :) (Za [(900,10002000),(901,10002002),(903,10002003)])
  ·refine Zh he (fun he=>?_) fun he=>?_
   ·refine Zi he fun r12_ he=>?_
    refine Zg he fun he=>?_
    exact Zv [(4,[900])] (Zj he :) (Za [(900,4),(901,74)])
   ·exact Zv [(4,[900])] (Zj he :) (Za [(900,4),(901,17900)])
def ZpS:Con:=fun
  |[.c (.ptr 0 0)],[(0,.rc [.imm (.int .u8) o0_0,.int .i64 o0_1])]=>.opt _ (Zpr (o0_0,o0_1)) (fun r=>.ret (.agg [.own 901 false,.own 902 false]) [(0,.rc [.imm (.int .u8) r.1.1,.int .i64 r.1.2]),(900,.rc [.own 901 false,.own 902 false]),(901,.sl 3 y0_ r.2.1 .shallow),(902,.sl 145 y5_ r.2.2 (.deep true .no))])
  |_,_=>.fail
def ZrD:Sched:=.alt 6 (.first 7 (.alt 8 .done .stop)) .stop
def ZrE:Sched:=.alt 5 ZrD .stop
def ZrF:Sched:=.alt 4 ZrE .stop
def ZrG:Sched:=ZF [0,2] (.alt 1 (.alt 3 ZrF .stop) (.alt 3 (.alt 1 ZrF (.alt 4 (.alt 1 ZrE (.alt 5 (.alt 1 ZrD .stop) .stop)) .stop)) .stop))
def ZBL:Cfg:={ y:=tys,n:=67,h:=1,tab:=[(54,Zew),(124,Zmb)],cut:=[6,15],hand:=[(124,[1])],deep:=[63],sched:=[(5,ZrG),(18,ZrG)] }
theorem ZEd {P:Prop} (h:P:=by
  refine Y4 ?_
  refine Y4 ?_
  refine And.intro hq2 ?_
  refine Y4 ?_
  refine Zg he fun he=>?_
  exact⟨_,(Zj he :),(Za [(10006003,64)])⟩):P:=h
theorem ZyQ {P:Prop} (h:P:=by
  refine Zg he fun he=>?_
  exact Zdy):P:=h
theorem ZuU {P:Prop} (h:P:=by
  refine Zg he fun he=>?_
  exact ZyQ):P:=h
theorem Ztb {P:Prop} (h:P:=by
  refine Zg he fun he=>?_
  exact ZuU):P:=h
theorem ZJ1 {P:Prop} (h:P:=by
  exact⟨_,(Zj he :),(Za [(10002000,10004000),(10002001,10004001),(10002002,10004002)])⟩):P:=h
theorem ZJ2 {P:Prop} (h:P:=by
  refine Zg he fun he=>?_
  exact⟨_,(Zj he :),(Za [(10000002,22)])⟩):P:=h
theorem ZBq {P:Prop} (h:P:=by
  refine Y4 ?_
  refine Y4 ?_
  refine And.intro hq2 ?_
  refine Y4 ?_
  exact ZJ2):P:=h
theorem ZB8:Zn Tryz.prog 52 ZpS:=by
 refine Zp (C:=ZBL) Tryz.f52 (Zk Zhw (Zk ZxD Zq)) fun _ a b k he=>?_
 unfold ZpS at he;split at he;rotate_left;exact he.elim
 rename_i o0_0 o0_1
 refine Zs he fun he=>?_
 refine ZL (ZlP) (fun (i2,i_01)=>(Zm [(0,.c (.ptr 0 0)),(2,.c (.ptr 10001000 0)),(3,.c (.ptr 10001001 0))],[(0,.rc [.imm (.int .u8) i2.1,.int .i64 i2.2]),(10001000,.rc [.nil,.nil]),(10001001,.rc [.own 10001002 false,.nil]),(10001002,.sl 3 y0_ i_01 .shallow)])) he ?_ ?_
 ·rintro⟨i2,i_01⟩ he
  refine ZL (ZlQ i2) (fun i_03=>(Zm [(0,.c (.ptr 0 0)),(2,.c (.ptr 10005000 0)),(3,.c (.ptr 10005001 0))],[(0,.rc [.imm (.int .u8) i2.1,.int .i64 i2.2]),(10005000,.rc [.nil,.nil]),(10005001,.rc [.own 10005002 false,.nil]),(10005002,.sl 3 y0_ i_03 .shallow)])) he ?_ ?_
  ·rintro i_03 he
   refine Zi he fun r5_ he=>?_
   refine Zo (ZlR i_03) (fun (i8,i9,i_1)=>(Zm [(0,.c (.ptr 0 0)),(2,.c (.ptr 10006000 0)),(3,.c (.ptr 10006001 0)),(7,.c (.int .i64 i8))],[(0,.rc [.imm (.int .u8) i9.1,.int .i64 i9.2]),(10006000,.rc [.nil,.nil]),(10006001,.rc [.own 10006002 false,.own 10006003 false]),(10006002,.sl 3 y0_ i_03 .shallow),(10006003,.sl 145 y5_ i_1 (.deep true .no))])) he (Za [(10006000,10005000),(10006001,10005001),(10006002,10005002)]) ?_
   rintro⟨i8,i9,i_1⟩ _ he
   refine Zh he (fun he=>?_) fun he=>?_
   ·refine And.intro (by kernel_rfl) ?_
    obtain⟨r8_,hq1,he⟩:=Z6 he
    obtain⟨hq2,he⟩:=ZO he
    refine Y5 ?_ ?_
    ·skip
     refine Y4 ?_
     refine Y4 ?_
     refine⟨r8_,hq1,?_⟩
     exact ZEd
    ·skip
     refine Y5 ?_ ?_
     ·skip
      refine Y4 ?_
      refine⟨r8_,hq1,?_⟩
      exact ZEd
     ·skip
      refine⟨r8_,hq1,?_⟩
      refine Y5 ?_ ?_
      ·skip
       exact ZEd
      ·skip
       exact ZEd
   ·exact Zv [(2,[900])] (Zj he :) (Za [(900,10006000),(901,10006002),(902,10006003)])
  ·skip
   refine Zo (ZlS i2) (fun (i3,i_02)=>(Zm [(0,.c (.ptr 0 0)),(2,.c (.ptr 10002000 0)),(3,.c (.ptr 10002001 0)),(5,.c (.int .i64 i3))],[(0,.rc [.imm (.int .u8) i2.1,.int .i64 i2.2]),(10002000,.rc [.nil,.nil]),(10002001,.rc [.own 10002002 false,.nil]),(10002002,.sl 3 y0_ i_02 .shallow)])) he (Za [(10002000,10001000),(10002001,10001001),(10002002,10001002)]) ?_
   rintro⟨i3,i_02⟩ _ he
   refine Zh he (fun he=>?_) fun he=>?_
   ·refine Zo (Zgi i_02) (fun (i6,i7)=>(Zm [(0,.c (.ptr 0 0)),(2,.c (.ptr 10004000 0)),(3,.c (.ptr 10004001 0)),(5,.c (.int .i64 i6)),(6,.c (.int .i64 i7))],[(0,.rc [.imm (.int .u8) i2.1,.int .i64 i2.2]),(10004000,.rc [.nil,.nil]),(10004001,.rc [.own 10004002 false,.nil]),(10004002,.sl 3 y0_ i_02 .shallow)])) he (Za [(10004000,10002000),(10004001,10002001),(10004002,10002002)]) ?_
    rintro⟨i6,i7⟩ _ he
    refine Zh he (fun he=>?_) fun he=>?_
    ·exact Ztb
    ·refine Zh he (fun he=>?_) fun he=>?_
     ·refine Zg he fun he=>?_
      refine Zg he fun he=>?_
      exact⟨_,(Zj he :),(Za [(10002000,10004000),(10002001,10004001),(10002002,49)])⟩
     ·exact ZJ1
   ·exact⟨_,(Zbh he :),(Za [(10005000,10002000),(10005001,10002001),(10005002,10002002)])⟩
 ·skip
  refine Zi he fun r1_ he=>?_
  refine Zo (ZlT) (fun (i,i1,i_0)=>(Zm [(0,.c (.ptr 0 0)),(2,.c (.ptr 10000000 0)),(3,.c (.ptr 10000001 0)),(4,.c (.int .i64 i))],[(0,.rc [.imm (.int .u8) i1.1,.int .i64 i1.2]),(10000000,.rc [.nil,.nil]),(10000001,.rc [.own 10000002 false,.nil]),(10000002,.sl 3 y0_ i_0 .shallow)])) he (Za [(10000000,2),(10000001,3)]) ?_
  rintro⟨i,i1,i_0⟩ _ he
  refine Zh he (fun he=>?_) fun he=>?_
  ·refine And.intro (by kernel_rfl) ?_
   obtain⟨r4_,hq1,he⟩:=Z6 he
   obtain⟨hq2,he⟩:=ZO he
   refine Y5 ?_ ?_
   ·skip
    refine Y4 ?_
    refine Y4 ?_
    refine⟨r4_,hq1,?_⟩
    exact ZBq
   ·skip
    refine Y5 ?_ ?_
    ·skip
     refine Y4 ?_
     refine⟨r4_,hq1,?_⟩
     exact ZBq
    ·skip
     refine⟨r4_,hq1,?_⟩
     refine Y5 ?_ ?_
     ·skip
      exact ZBq
     ·skip
      exact ZBq
  ·exact⟨_,(Zbh he :),(Za [(10001000,10000000),(10001001,10000001),(10001002,10000002)])⟩
def Zrk:Con:=fun
  |[.agg [.imm (.int .i64) m_0,.imm (.pair (.int .i64) (.pair (.sl (.int .i64)) (.pair (.sl (.int .i64)) (.pair (.int .i64) (.sl (.sl (.int .i64))))))) m_1]],[]=>.opt _ (Zqm (m_0,m_1)) (fun r=>.ret (.agg [.own 901 false,.own 902 false]) [(900,.rc [.own 901 false,.own 902 false]),(901,.sl 3 y0_ r.1 .shallow),(902,.sl 145 y5_ r.2 (.deep true .no))])
  |_,_=>.fail
def Zsw:Sched:=.alt 14 .done .stop
def Zsx:Sched:=.alt 12 Zsw .stop
def ZnY:Sched:=.alt 9 Zsx .stop
def Zsy:Sched:=.alt 9 (.alt 12 (.alt 13 Zsw .stop) (.alt 13 Zsx .stop)) (.alt 13 ZnY .stop)
def Zsz:Sched:=.alt 6 ZnY .stop
def ZnZ:Sched:=.alt 5 ZnY .stop
def ZsA:Sched:=.alt 5 Zsy (.alt 13 ZnZ .stop)
def ZsB:Sched:=.alt 5 Zsz (.alt 6 ZnZ .stop)
def ZsC:Sched:=.alt 2 ZnZ .stop
def ZrA:Sched:=.alt 10 (.first 11 (.alt 12 .done .stop)) .stop
def ZrB:Sched:=.alt 9 ZrA .stop
def ZrC:Sched:=.alt 8 ZrB .stop
def ZDw:Cfg:={ y:=tys,n:=64,h:=0,tab:=[],cut:=[1,6,7,11],deep:=[54,60],sched:=[(6,(ZF [0,1,3,4,7,8,10,11] (.alt 2 (.alt 5 (.alt 6 Zsy (.alt 13 Zsz .stop)) (.alt 6 ZsA (.alt 13 ZsB .stop))) (.alt 6 (.alt 2 ZsA (.alt 13 ZsC .stop)) (.alt 13 (.alt 2 ZsB (.alt 6 ZsC .stop)) .stop))))),(10,(ZF [0,3,4,5,6,7] (.alt 1 (.alt 2 ZrC .stop) (.alt 2 (.alt 1 ZrC (.alt 8 (.alt 1 ZrB (.alt 9 (.alt 1 ZrA .stop) .stop)) .stop)) .stop))))] }
theorem ZBr {P:Prop} (h:P:=by
  refine Y4 ?_
  refine Y4 ?_
  refine And.intro hq2 ?_
  refine Y4 ?_
  refine Zg he fun he=>?_
  exact⟨_,(Zj he :),(Za [(10008007,55)])⟩):P:=h
theorem ZF2 {P:Prop} (h:P:=by
  refine Y4 ?_
  refine Y4 ?_
  exact⟨_,he,(Za [(10007000,10006000),(10007001,10006001),(10007002,6),(10007003,10006002),(10007004,10006003),(10007005,30),(10007006,34)])⟩):P:=h
theorem Ztc {P:Prop} (h:P:=by
  refine Y4 ?_
  refine And.intro hq2 ?_
  exact ZF2):P:=h
theorem ZJ3 {P:Prop} (h:P:=by
  refine Y5 ?_ ?_
  ·skip
   refine And.intro hq2 ?_
   refine Y5 ?_ ?_
   ·skip
    exact ZF2
   ·skip
    exact ZF2
  ·skip
   exact Ztc):P:=h
theorem ZJ4 {P:Prop} (h:P:=by
  skip
  refine Y5 ?_ ?_
  ·skip
   refine And.intro hq1 ?_
   exact ZJ3
  ·skip
   refine Y4 ?_
   refine And.intro hq1 ?_
   exact Ztc):P:=h
theorem ZJ5 {P:Prop} (h:P:=by
  skip
  refine Y5 ?_ ?_
  ·skip
   refine And.intro hq1 ?_
   refine Y4 ?_
   exact Ztc
  ·skip
   refine Y4 ?_
   refine And.intro hq1 ?_
   exact Ztc):P:=h
theorem ZDK:Zn Tryz.prog 123 Zrk:=by
 refine Zp (C:=ZDw) Tryz.f123 Zq fun _ a b k he=>?_
 unfold Zrk at he;split at he;rotate_left;exact he.elim
 rename_i m_0 m_1
 refine Zs he fun he=>?_
 refine ZL (ZuN (m_0,m_1)) (fun _=>(Zm [(1,.c (.iptr ZCK (m_0,m_1) 0)),(2,.c (.ptr 10000000 0))],[(10000000,.rc [.nil,.nil])])) he ?_ ?_
 ·rintro⟨⟩ he
  refine Zg he fun he=>?_
  refine Zo (Zqa (m_0,m_1)) (fun (i,out_1)=>(Zm [(1,.c (.iptr ZCK (m_0,m_1) 0)),(2,.c (.ptr 10001000 0)),(3,.c (.ptr 10001001 0)),(4,.c (.int .i64 i))],[(10001000,.rc [.nil,.nil]),(10001001,.rc [.own 10001002 false,.own 10001003 false]),(10001002,.sl 3 y0_ (([]:List Int)++(m_0,m_1).1) .shallow),(10001003,.sl 145 y5_ out_1 (.deep true .no))])) he (Za [(10001000,10000000),(10001001,3),(10001002,11)]) ?_
  rintro⟨i,out_1⟩ _ he
  refine Zh he (fun he=>?_) fun he=>?_
  ·refine ZL (ZuO (m_0,m_1) i out_1) (fun _=>(Zm [(1,.c (.iptr ZCK (m_0,m_1) 0)),(2,.c (.ptr 10006000 0)),(3,.c (.ptr 10006001 0)),(4,.c (.int .i64 i)),(5,.c (.iptr y5_ ((m_0,m_1).2.getD i.toNat (0,([],([],(0,[]))))) 0))],[(10006000,.rc [.nil,.nil]),(10006001,.rc [.own 10006002 false,.own 10006003 false]),(10006002,.sl 3 y0_ (([]:List Int)++(m_0,m_1).1) .shallow),(10006003,.sl 145 y5_ out_1 (.deep true .no))])) he ?_ ?_
   ·rintro⟨⟩ he
    refine ZL (ZuP (m_0,m_1) i out_1) (fun _=>(Zm [(1,.c (.iptr ZCK (m_0,m_1) 0)),(2,.c (.ptr 10007000 0)),(3,.c (.ptr 10007001 0)),(4,.c (.int .i64 i)),(5,.c (.iptr y5_ ((m_0,m_1).2.getD i.toNat (0,([],([],(0,[]))))) 0)),(6,.c (.ptr 10007002 0))],[(10007000,.rc [.nil,.nil]),(10007001,.rc [.own 10007003 false,.own 10007004 false]),(10007002,.rc [.int .i64 ((m_0,m_1).2.getD i.toNat (0,([],([],(0,[]))))).1,.own 10007005 false,.own 10007006 false,.int .i64 ((m_0,m_1).2.getD i.toNat (0,([],([],(0,[]))))).2.2.2.1,.nil]),(10007003,.sl 3 y0_ (([]:List Int)++(m_0,m_1).1) .shallow),(10007004,.sl 145 y5_ out_1 (.deep true .no)),(10007005,.sl 3 y0_ (([]:List Int)++((m_0,m_1).2.getD i.toNat (0,([],([],(0,[]))))).2.1) .shallow),(10007006,.sl 3 y0_ (([]:List Int)++((m_0,m_1).2.getD i.toNat (0,([],([],(0,[]))))).2.2.1) .shallow)])) he ?_ ?_
    ·rintro⟨⟩ he
     refine ZL (ZuQ (m_0,m_1) i out_1) (fun y_43=>(Zm [(1,.c (.iptr ZCK (m_0,m_1) 0)),(2,.c (.ptr 10009000 0)),(3,.c (.ptr 10009001 0)),(4,.c (.int .i64 i)),(6,.c (.ptr 10009002 0))],[(10009000,.rc [.nil,.nil]),(10009001,.rc [.own 10009003 false,.own 10009004 false]),(10009002,.rc [.int .i64 ((m_0,m_1).2.getD i.toNat (0,([],([],(0,[]))))).1,.own 10009005 false,.own 10009006 false,.int .i64 ((m_0,m_1).2.getD i.toNat (0,([],([],(0,[]))))).2.2.2.1,.own 10009007 false]),(10009003,.sl 3 y0_ (([]:List Int)++(m_0,m_1).1) .shallow),(10009004,.sl 145 y5_ out_1 (.deep true .no)),(10009005,.sl 3 y0_ (([]:List Int)++((m_0,m_1).2.getD i.toNat (0,([],([],(0,[]))))).2.1) .shallow),(10009006,.sl 3 y0_ (([]:List Int)++((m_0,m_1).2.getD i.toNat (0,([],([],(0,[]))))).2.2.1) .shallow),(10009007,.sl 23 (.sl y0_) y_43 (.deep true .no))])) he ?_ ?_
     ·rintro y_43 he
      refine Zg he fun he=>?_
      refine Zg he fun he=>?_
      exact⟨_,(Zj he :),(Za [(10001000,10009000),(10001001,10009001),(10001002,10009003),(10001003,61)])⟩
     ·skip
      refine Zo (Zhh (m_0,m_1) i out_1) (fun (k_1,y_42)=>(Zm [(1,.c (.iptr ZCK (m_0,m_1) 0)),(2,.c (.ptr 10008000 0)),(3,.c (.ptr 10008001 0)),(4,.c (.int .i64 i)),(5,.c (.iptr y5_ ((m_0,m_1).2.getD i.toNat (0,([],([],(0,[]))))) 0)),(6,.c (.ptr 10008002 0)),(7,.c (.int .i64 k_1))],[(10008000,.rc [.nil,.nil]),(10008001,.rc [.own 10008003 false,.own 10008004 false]),(10008002,.rc [.int .i64 ((m_0,m_1).2.getD i.toNat (0,([],([],(0,[]))))).1,.own 10008005 false,.own 10008006 false,.int .i64 ((m_0,m_1).2.getD i.toNat (0,([],([],(0,[]))))).2.2.2.1,.own 10008007 false]),(10008003,.sl 3 y0_ (([]:List Int)++(m_0,m_1).1) .shallow),(10008004,.sl 145 y5_ out_1 (.deep true .no)),(10008005,.sl 3 y0_ (([]:List Int)++((m_0,m_1).2.getD i.toNat (0,([],([],(0,[]))))).2.1) .shallow),(10008006,.sl 3 y0_ (([]:List Int)++((m_0,m_1).2.getD i.toNat (0,([],([],(0,[]))))).2.2.1) .shallow),(10008007,.sl 23 (.sl y0_) y_42 (.deep true .no))])) he (Za [(10008000,10007000),(10008001,10007001),(10008002,10007002),(10008003,10007003),(10008004,10007004),(10008005,10007005),(10008006,10007006)]) ?_
      rintro⟨k_1,y_42⟩ _ he
      refine Zh he (fun he=>?_) fun he=>?_
      ·refine And.intro (by kernel_rfl) ?_
       refine Zg he fun he=>?_
       obtain⟨hq1,he⟩:=ZO he
       obtain⟨hq2,he⟩:=ZO he
       refine Y5 ?_ ?_
       ·skip
        refine Y4 ?_
        refine Y4 ?_
        refine And.intro hq1 ?_
        exact ZBr
       ·skip
        refine Y5 ?_ ?_
        ·skip
         refine Y4 ?_
         refine And.intro hq1 ?_
         exact ZBr
        ·skip
         refine And.intro hq1 ?_
         refine Y5 ?_ ?_
         ·skip
          exact ZBr
         ·skip
          exact ZBr
      ·exact⟨_,(Zbh he :),(Za [(10009000,10008000),(10009001,10008001),(10009002,10008002),(10009003,10008003),(10009004,10008004),(10009005,10008005),(10009006,10008006),(10009007,10008007)])⟩
    ·skip
     refine And.intro (by kernel_rfl) ?_
     obtain⟨hq1,he⟩:=ZO he
     obtain⟨hq2,he⟩:=ZO he
     refine And.intro ?_ (And.intro ?_ (And.intro ?_ (Y1)))
     ·skip
      refine And.intro ?_ (And.intro ?_ (And.intro ?_ (Y1)))
      ·skip
       refine And.intro hq1 ?_
       refine Y5 ?_ ?_
       ·skip
        exact ZJ3
       ·skip
        refine Y4 ?_
        exact Ztc
      ·exact ZJ4
      ·exact ZJ5
     ·skip
      refine Y5 ?_ ?_
      ·exact ZJ4
      ·skip
       refine Y4 ?_
       refine Y4 ?_
       refine And.intro hq1 ?_
       exact Ztc
     ·skip
      refine Y5 ?_ ?_
      ·exact ZJ5
      ·skip
       refine Y4 ?_
       refine Y4 ?_
       refine And.intro hq1 ?_
       exact Ztc
   ·skip
    refine Zg he fun he=>?_
    exact⟨_,he,(Zdp [(10006000,10001000),(10006001,10001001),(10006002,10001002),(10006003,10001003)] rfl rfl ⟨⟨rfl,rfl,Y1⟩,⟨Y3,Y3,Y1⟩,Y2,Y2,Y1⟩ ⟨.inl rfl,⟨Y2,rfl⟩,⟨Y2,rfl⟩,rfl,.inr ⟨5,rfl,⟨rfl,by repeat (first|exact trivial|refine And.intro trivial ?_)⟩,rfl⟩,Y1⟩)⟩
  ·exact Zv [(2,[900])] (Zj he :) (Za [(900,10001000),(901,10001002),(902,10001003)])
 ·skip
  exact⟨_,he,(Zdp [(10000000,2)] rfl rfl ⟨⟨rfl,rfl,Y1⟩,Y1⟩ ⟨.inr ⟨1,rfl,⟨rfl,by repeat (first|exact trivial|refine And.intro trivial ?_)⟩,rfl⟩,⟨Y2,rfl⟩,Y1⟩)⟩
def Zo3:Con:=fun
  |[.c (.ptr 0 0),.agg [.imm (.int .i64) a1_0,.imm (.pair (.int .i64) (.pair (.sl (.int .i64)) (.pair (.sl (.int .i64)) (.pair (.int .i64) (.sl (.sl (.int .i64))))))) a1_1]],[(0,.rc [.imm (.int .u8) o0_0,.int .i64 o0_1])]=>.opt _ (ZnQ (a1_0,a1_1) (o0_0,o0_1)) (fun r=>.ret (.agg [.own 901 false,.own 902 false]) [(0,.rc [.imm (.int .u8) r.1.1,.int .i64 r.1.2]),(900,.rc [.own 901 false,.own 902 false]),(901,.sl 3 y0_ r.2.1 .shallow),(902,.sl 145 y5_ r.2.2 (.deep true .no))])
  |_,_=>.fail
def ZqD:Sched:=.first 5 (.alt 6 .done .stop)
def ZqE:Sched:=.alt 4 ZqD .stop
def ZqF:Sched:=ZF [5,6] (.alt 7 .done .stop)
def ZqG:Sched:=.alt 4 ZqF .stop
def ZqH:Sched:=ZF [0,2] (.alt 1 (.alt 3 ZqG .stop) (.alt 3 (.alt 1 ZqG (.alt 4 (.alt 1 ZqF .stop) .stop)) .stop))
def ZqI:Sched:=.first 10 (.alt 11 .done .stop)
def ZqJ:Sched:=.alt 9 ZqI .stop
def ZqK:Sched:=.alt 6 ZqI .stop
def ZqL:Sched:=.alt 6 ZqJ (.alt 9 ZqK .stop)
def ZAk:Cfg:={ y:=tys,n:=89,h:=1,tab:=[(54,Zew),(87,Zeh),(123,Zrk)],sched:=[(6,(ZF [0,2] (.alt 1 (.alt 3 ZqE .stop) (.alt 3 (.alt 1 ZqE (.alt 4 (.alt 1 ZqD .stop) .stop)) .stop)))),(12,ZqH),(15,(ZF [0,2,3,7] (.alt 1 (ZF [4,5] (.alt 6 (.alt 8 ZqJ .stop) (.alt 8 ZqL .stop))) (.alt 8 (.alt 1 (ZF [4,5] ZqL) (.alt 9 (.alt 1 (ZF [4,5] ZqK) .stop) .stop)) .stop)))),(18,ZqH)] }
theorem Zu1 {P:Prop} (h:P:=by
  exact Zv [(4,[900])] (Zj he :) (Za [(900,4),(901,9901),(902,9902)])):P:=h
theorem Ztd {P:Prop} (h:P:=by
  refine And.intro hq2 ?_
  refine Y4 ?_
  exact Zu1):P:=h
theorem ZF3 {P:Prop} (h:P:=by
  refine Y4 ?_
  exact Ztd):P:=h
theorem ZBs {P:Prop} (h:P:=by
  refine And.intro hq3 ?_
  refine Y4 ?_
  exact Zv [(4,[900])] (Zj he :) ((Zzf [9902] rfl).trans (Za [(900,4),(901,9901),(902,9902)] (l:=[(4,.c (.ptr 900 0))]) (st':=[(0,.rc [.imm (.int .u8) r8_.2.1,.int .i64 r8_.2.2]),(900,.rc [.own 901 false,.own 902 false]),(901,.sl 3 y0_ r1_.1 .shallow),(902,.sl 145 y5_ ((r1_.2.set ((r1_.2.length:Int) - (1:Int)).toNat (r1_.2.getD ((r1_.2.length:Int) - (1:Int)).toNat (0,([],([],(0,[])))))).set ((r1_.2.length:Int) - (1:Int)).toNat (((r1_.2.set ((r1_.2.length:Int) - (1:Int)).toNat (r1_.2.getD ((r1_.2.length:Int) - (1:Int)).toNat (0,([],([],(0,[])))))).getD ((r1_.2.length:Int) - (1:Int)).toNat (0,([],([],(0,[]))))).1,((((r1_.2.set ((r1_.2.length:Int) - (1:Int)).toNat (r1_.2.getD ((r1_.2.length:Int) - (1:Int)).toNat (0,([],([],(0,[])))))).getD ((r1_.2.length:Int) - (1:Int)).toNat (0,([],([],(0,[]))))).2.1.set (0:Int).toNat r8_.1),((r1_.2.set ((r1_.2.length:Int) - (1:Int)).toNat (r1_.2.getD ((r1_.2.length:Int) - (1:Int)).toNat (0,([],([],(0,[])))))).getD ((r1_.2.length:Int) - (1:Int)).toNat (0,([],([],(0,[]))))).2.2))) (.deep true .no))])))):P:=h
theorem ZJ6 {P:Prop} (h:P:=by
  refine Y5 ?_ ?_
  ·skip
   refine Y4 ?_
   refine⟨r8_,hq2,?_⟩
   exact ZBs
  ·skip
   refine⟨r8_,hq2,?_⟩
   refine Y4 ?_
   exact ZBs):P:=h
theorem ZAK:Zn Tryz.prog 51 Zo3:=by
 refine Zp (C:=ZAk) Tryz.f51 (Zk Zhw (Zk ZgC (Zk ZDK Zq))) fun _ a b k he=>?_
 unfold Zo3 at he;split at he;rotate_left;exact he.elim
 rename_i a1_0 a1_1 o0_0 o0_1
 refine Zs he fun he=>?_
 refine Zi he fun r1_ he=>?_
 refine Zi he fun r2_ he=>?_
 refine Zh he (fun he=>?_) fun he=>?_
 ·refine Zh he (fun he=>?_) fun he=>?_
  ·refine And.intro (by kernel_rfl) ?_
   obtain⟨r4_,hq1,he⟩:=Z6 he
   obtain⟨hq2,he⟩:=ZO he
   refine Y5 ?_ ?_
   ·skip
    refine Y4 ?_
    refine Y4 ?_
    refine⟨r4_,hq1,?_⟩
    exact Ztd
   ·skip
    refine Y5 ?_ ?_
    ·skip
     refine Y4 ?_
     refine⟨r4_,hq1,?_⟩
     exact Ztd
    ·skip
     refine⟨r4_,hq1,?_⟩
     exact ZF3
  ·exact Zu1
 ·refine Zh he (fun he=>?_) fun he=>?_
  ·refine Zo (ZkN r1_ r2_) (fun i_0=>(Zm [(4,.c (.ptr 10000000 0)),(5,.c (.ptr 10000001 0))],[(0,.rc [.imm (.int .u8) r2_.2.1,.int .i64 r2_.2.2]),(10000000,.rc [.nil,.nil]),(10000001,.rc [.own 10000002 false,.own 10000003 false]),(10000002,.sl 3 y0_ i_0 .shallow),(10000003,.sl 145 y5_ r1_.2 (.deep true .no))])) he (Za [(10000000,4),(10000001,5),(10000002,9901),(10000003,9902)]) ?_
   rintro i_0 _ he
   refine Zh he (fun he=>?_) fun he=>?_
   ·refine Zg he fun he=>?_
    exact⟨_,(Zj he :),(Za [(10000002,35)])⟩
   ·exact Zv [(4,[900])] (Zj he :) (Za [(900,10000000),(901,10000002),(902,10000003)])
  ·refine Zh he (fun he=>?_) fun he=>?_
   ·refine Zh he (fun he=>?_) fun he=>?_
    ·refine And.intro (by kernel_rfl) ?_
     obtain⟨r6_,hq1,he⟩:=Z6 he
     obtain⟨hq2,he⟩:=ZO he
     refine Y5 ?_ ?_
     ·skip
      refine Y4 ?_
      refine Y4 ?_
      refine⟨r6_,hq1,?_⟩
      exact Ztd
     ·skip
      refine Y5 ?_ ?_
      ·skip
       refine Y4 ?_
       refine⟨r6_,hq1,?_⟩
       exact Ztd
      ·skip
       refine⟨r6_,hq1,?_⟩
       exact ZF3
    ·exact Zu1
   ·refine Zh he (fun he=>?_) fun he=>?_
    ·refine Zh he (fun he=>?_) fun he=>?_
     ·refine Zg he fun he=>?_
      refine Zg he fun he=>?_
      refine Zh he (fun he=>?_) fun he=>?_
      ·refine And.intro (by kernel_rfl) ?_
       refine Zg he fun he=>?_
       obtain⟨hq1,he⟩:=ZO he
       obtain⟨r8_,hq2,he⟩:=Z6 he
       obtain⟨hq3,he⟩:=ZO he
       refine Y5 ?_ ?_
       ·skip
        refine And.intro hq1 ?_
        refine Y5 ?_ ?_
        ·skip
         refine Y4 ?_
         refine Y4 ?_
         refine⟨r8_,hq2,?_⟩
         exact ZBs
        ·skip
         exact ZJ6
       ·skip
        refine Y5 ?_ ?_
        ·skip
         refine And.intro hq1 ?_
         exact ZJ6
        ·skip
         refine⟨r8_,hq2,?_⟩
         refine Y4 ?_
         refine And.intro hq1 ?_
         refine Y4 ?_
         exact ZBs
      ·exact Zv [(4,[900])] (Zj he :) ((Zzf [9902] rfl).trans (Za [(900,4),(901,9901),(902,9902)] (l:=[(4,.c (.ptr 900 0))]) (st':=[(0,.rc [.imm (.int .u8) r2_.2.1,.int .i64 r2_.2.2]),(900,.rc [.own 901 false,.own 902 false]),(901,.sl 3 y0_ r1_.1 .shallow),(902,.sl 145 y5_ (r1_.2.set ((r1_.2.length:Int) - (1:Int)).toNat (r1_.2.getD ((r1_.2.length:Int) - (1:Int)).toNat (0,([],([],(0,[])))))) (.deep true .no))])))
     ·exact Zu1
    ·refine Zh he (fun he=>?_) fun he=>?_
     ·refine Zh he (fun he=>?_) fun he=>?_
      ·refine And.intro (by kernel_rfl) ?_
       obtain⟨r10_,hq1,he⟩:=Z6 he
       obtain⟨hq2,he⟩:=ZO he
       refine Y5 ?_ ?_
       ·skip
        refine Y4 ?_
        refine Y4 ?_
        refine⟨r10_,hq1,?_⟩
        exact Ztd
       ·skip
        refine Y5 ?_ ?_
        ·skip
         refine Y4 ?_
         refine⟨r10_,hq1,?_⟩
         exact Ztd
        ·skip
         refine⟨r10_,hq1,?_⟩
         exact ZF3
      ·exact Zu1
     ·refine Zh he (fun he=>?_) fun he=>?_
      ·exact Zv [(4,[900])] (Zj he :) (Za [(900,4)])
      ·exact Zu1
def Zme:Con:=fun
  |[.c (.ptr 0 0),.agg [.own 1 false,.own 2 false]],[(0,.rc [.imm (.int .u8) r__0,.int .i64 r__1]),(1,.sl 3 (.int .i64) o1 .shallow),(2,.sl 145 (.pair (.int .i64) (.pair (.sl (.int .i64)) (.pair (.sl (.int .i64)) (.pair (.int .i64) (.sl (.sl (.int .i64))))))) o2 (.deep true .no))]=>.opt _ (ZkV (r__0,r__1) o1 o2) (fun r=>.ret (.c (.own 900 false)) [(0,.rc [.imm (.int .u8) r.1.1,.int .i64 r.1.2]),(1,.sl 3 y0_ o1 .shallow),(2,.sl 145 y5_ o2 (.deep true .no)),(900,.sl 3 y0_ r.2 .shallow)])
  |_,_=>.fail
def Zw8:Cfg:={ y:=tys,n:=39,h:=3,tab:=[(54,Zew),(87,Zeh)],cut:=[6] }
theorem ZxG:Zn Tryz.prog 53 Zme:=by
 refine Zp (C:=Zw8) Tryz.f53 (Zk Zhw (Zk ZgC Zq)) fun _ a b k he=>?_
 unfold Zme at he;split at he;rotate_left;exact he.elim
 rename_i r__0 r__1 o1 o2
 refine Zs he fun he=>?_
 refine ZL (Zlz) (fun (r_2,out1)=>(Zm [(0,.c (.ptr 0 0)),(5,.c (.own 10001000 false))],[(0,.rc [.imm (.int .u8) r_2.1,.int .i64 r_2.2]),(1,.sl 3 y0_ o1 .shallow),(2,.sl 145 y5_ o2 (.deep true .no)),(10001000,.sl 3 y0_ out1 .shallow)])) he ?_ ?_
 ·rintro⟨r_2,out1⟩ he
  refine Zi he fun r3_ he=>?_
  refine Zh he (fun he=>?_) fun he=>?_
  ·refine Zh he (fun he=>?_) fun he=>?_
   ·refine Zi he fun r4_ he=>?_
    refine Zg he fun he=>?_
    exact Zv [(4,[])] (Zj he :) (Za [(900,10001000)])
   ·exact Zv [(4,[])] (Zj he :) (Za [(900,10001000)])
  ·refine Zh he (fun he=>?_) fun he=>?_
   ·refine Zg he fun he=>?_
    exact Zv [(4,[])] (Zj he :) (Za [(900,37)])
   ·exact Zv [(4,[])] (Zj he :) (Za [(900,10001000)])
 ·skip
  refine Zo (Zh7 o1) (fun (i,r_1,out)=>(Zm [(0,.c (.ptr 0 0)),(3,.c (.ptr 10000000 0)),(5,.c (.own 10000001 false)),(6,.c (.int .i64 i))],[(0,.rc [.imm (.int .u8) r_1.1,.int .i64 r_1.2]),(1,.sl 3 y0_ o1 .shallow),(2,.sl 145 y5_ o2 (.deep true .no)),(10000000,.rc [.own 1 false,.own 2 false]),(10000001,.sl 3 y0_ out .shallow)])) he (Za [(10000000,3),(10000001,7)]) ?_
  rintro⟨i,r_1,out⟩ _ he
  refine Zh he (fun he=>?_) fun he=>?_
  ·refine Zi he fun r2_ he=>?_
   refine Zg he fun he=>?_
   refine Zg he fun he=>?_
   exact⟨_,(Zj he :),(Za [(10000001,20)])⟩
  ·exact⟨_,(Zbh he :),(Za [(10001000,10000001)])⟩
def Zik:Con:=fun
  |[.c (.imm (.int .u8) code)],[]=>.opt _ (Zgg code) (fun r=>.ret (.tup [.agg [.own 902 false,.own 903 false],.c (.own 901 false),.c (.int .i64 r.1)]) [(900,.rc [.own 902 false,.own 903 false]),(901,.sl 3 y0_ r.2.1 .shallow),(902,.sl 3 y0_ r.2.2.1 .shallow),(903,.sl 145 y5_ r.2.2.2 (.deep true .no))])
  |_,_=>.fail
def Zk3:Sched:=.alt 5 (ZF [6,7] .done) .stop
def Zk4:Sched:=.alt 4 Zk3 .stop
def Ztq:Cfg:={ y:=tys,n:=22,h:=0,tab:=[(50,ZpQ),(51,Zo3),(52,ZpS),(53,Zme),(54,Zew)],hand:=[(53,[1])],sched:=[(4,(ZF [1,2] (.alt 0 (.alt 3 Zk4 .stop) (.alt 3 (.alt 0 Zk4 (.alt 4 (.alt 0 Zk3 .stop) .stop)) .stop))))] }
theorem ZF4 {P:Prop} (h:P:=by
  refine Y4 ?_
  exact Zv [(2,[900]),(3,[]),(4,[])] (Zj he :) (Za [(900,2),(901,17900),(902,14901),(903,14902)])):P:=h
theorem Ztz:Zn Tryz.prog 11 Zik:=by
 refine Zp (C:=Ztq) Tryz.f11 (Zk ZB6 (Zk ZAK (Zk ZB8 (Zk ZxG (Zk Zhw Zq))))) fun _ a b k he=>?_
 unfold Zik at he;split at he;rotate_left;exact he.elim
 rename_i code
 refine Zs he fun he=>?_
 refine Zi he fun r1_ he=>?_
 refine Zi he fun r2_ he=>?_
 refine Zi he fun r3_ he=>?_
 refine Zi he fun r4_ he=>?_
 refine And.intro (by kernel_rfl) ?_
 obtain⟨r6_,hq1,he⟩:=Z6 he
 refine Y5 ?_ ?_
 ·skip
  refine Y4 ?_
  refine Y4 ?_
  refine⟨r6_,hq1,?_⟩
  exact ZF4
 ·skip
  refine Y5 ?_ ?_
  ·skip
   refine Y4 ?_
   refine⟨r6_,hq1,?_⟩
   exact ZF4
  ·skip
   refine⟨r6_,hq1,?_⟩
   refine Y4 ?_
   exact ZF4
def Zb7:Con:=fun
  |[.c (.int .i64 n),.c (.int .i64 low),.c (.int .i64 high)],[]=>.opt _ (ZbN n low high) (fun r=>.ret (.c (.bool r)) [])
  |_,_=>.fail
def ZDt:Cfg:={ y:=tys,n:=15,h:=0,tab:=[] }
theorem Z5 {P:Prop} (h:P:=by
  exact ZMz he):P:=h
theorem ZcF:Zn Tryz.prog 127 Zb7:=by
 refine Zp (C:=ZDt) Tryz.f127 Zq fun _ a b k he=>?_
 unfold Zb7 at he;split at he;rotate_left;exact he.elim
 rename_i n low high
 refine Zs he fun he=>?_
 refine Zh he (fun he=>?_) fun he=>?_
 ·exact Z5
 ·exact Z5
def Zl8:Con:=fun
  |[.c (.imm (.int .i64) s_),.c (.int .i64 v)],[]=>.opt _ (ZkB s_ v) (fun r=>.ret (.c (.int .i64 r)) [])
  |_,_=>.fail
def Zw0:Cfg:={ y:=tys,n:=19,h:=0,tab:=[] }
theorem ZBt {P:Prop} (h:P:=by
  refine Zh he (fun he=>?_) fun he=>?_
  ·exact Z5
  ·exact Zdy):P:=h
theorem Zxy:Zn Tryz.prog 237 Zl8:=by
 refine Zp (C:=Zw0) Tryz.f237 Zq fun _ a b k he=>?_
 unfold Zl8 at he;split at he;rotate_left;exact he.elim
 rename_i s_ v
 refine Zs he fun he=>?_
 refine Zo (Zc1 s_ v) (fun i=>(Zm [(0,.c (.imm y0_ s_)),(1,.c (.int .i64 v)),(7,.c (.int .i64 (s_.length:Int))),(8,.c (.int .i64 i))],[])) he (Za []) ?_
 rintro i _ he
 refine Zh he (fun he=>?_) fun he=>?_
 ·refine Zg he fun he=>?_
  exact ZBt
 ·exact Z5
def ZeE:Con:=fun
  |[.c (.imm (.int .i64) s_),.c (.int .i64 v)],[]=>.opt _ (Zcu s_ v) (fun r=>.ret (.c (.bool r)) [])
  |_,_=>.fail
def Zuq:Cfg:={ y:=tys,n:=9,h:=0,tab:=[(237,Zl8)] }
theorem ZjL:Zn Tryz.prog 178 ZeE:=by
 refine Zp (C:=Zuq) Tryz.f178 (Zk Zxy Zq) fun _ a b k he=>?_
 unfold ZeE at he;split at he;rotate_left;exact he.elim
 rename_i s_ v
 refine Zs he fun he=>?_
 refine Zi he fun r1_ he=>?_
 exact Z5
def Zl4:Con:=fun
  |[.c (.int .i64 n)],[]=>.opt _ (Zn5 n) (fun r=>.ret (.c (.bool r)) [])
  |_,_=>.fail
def ZwV:Cfg:={ y:=tys,n:=10,h:=0,tab:=[(127,Zb7)] }
theorem ZF5 {P:Prop} (h:P:=by
  refine Zi he fun r1_ he=>?_
  exact Z5):P:=h
theorem Zxt:Zn Tryz.prog 199 Zl4:=by
 refine Zp (C:=ZwV) Tryz.f199 (Zk ZcF Zq) fun _ a b k he=>?_
 unfold Zl4 at he;split at he;rotate_left;exact he.elim
 rename_i n
 refine Zs he fun he=>?_
 refine ZI he (fun he=>?_) fun he=>?_
 ·exact ZF5
 ·exact Z5
def Zdr:Con:=fun
  |[.c (.imm (.int .i64) s_),.c (.fn 199 [])],[]=>.opt _ (ZdN s_) (fun r=>.ret (.c (.int .i64 r)) [])
  |_,_=>.fail
def Zkc:Cfg:={ y:=tys,n:=19,h:=0,tab:=[(199,Zl4)] }
theorem Zym {P:Prop} (h:P:=by
  rintro i _ he
  refine Zh he (fun he=>?_) fun he=>?_
  ·refine Zg he fun he=>?_
   refine Zi he fun r1_ he=>?_
   exact ZBt
  ·exact Z5):P:=h
theorem Zkv:Zn Tryz.prog 186 Zdr:=by
 refine Zp (C:=Zkc) Tryz.f186 (Zk Zxt Zq) fun _ a b k he=>?_
 unfold Zdr at he;split at he;rotate_left;exact he.elim
 rename_i s_
 refine Zs he fun he=>?_
 refine Zo (ZbB s_) (fun i=>(Zm [(0,.c (.imm y0_ s_)),(1,.c (.fn 199 [])),(7,.c (.int .i64 (s_.length:Int))),(8,.c (.int .i64 i))],[])) he (Za []) ?_
 exact Zym
def ZcW:Con:=fun
  |[.c (.imm (.int .i64) s_),.c (.fn 199 [])],[]=>.opt _ (Zcd s_) (fun r=>.ret (.c (.bool r)) [])
  |_,_=>.fail
def Zjb:Cfg:={ y:=tys,n:=9,h:=0,tab:=[(186,Zdr)] }
theorem Zjd:Zn Tryz.prog 125 ZcW:=by
 refine Zp (C:=Zjb) Tryz.f125 (Zk Zkv Zq) fun _ a b k he=>?_
 unfold ZcW at he;split at he;rotate_left;exact he.elim
 rename_i s_
 refine Zs he fun he=>?_
 refine Zi he fun r1_ he=>?_
 exact Z5
def Zkg:Con:=fun
  |[.c (.int .i64 n)],[]=>.opt _ (Zmm n) (fun r=>.ret (.c (.bool r)) [])
  |_,_=>.fail
def Zu7:Cfg:={ y:=tys,n:=6,h:=0,tab:=[(127,Zb7)] }
theorem ZvA:Zn Tryz.prog 202 Zkg:=by
 refine Zp (C:=Zu7) Tryz.f202 (Zk ZcF Zq) fun _ a b k he=>?_
 unfold Zkg at he;split at he;rotate_left;exact he.elim
 rename_i n
 refine Zs he fun he=>?_
 refine Zi he fun r1_ he=>?_
 exact Z5
def Zc6:Con:=fun
  |[.c (.imm (.int .i64) s_),.c (.fn 202 [])],[]=>.opt _ (Zdt s_) (fun r=>.ret (.c (.int .i64 r)) [])
  |_,_=>.fail
def Zjx:Cfg:={ y:=tys,n:=19,h:=0,tab:=[(202,Zkg)] }
theorem ZjN:Zn Tryz.prog 186 Zc6:=by
 refine Zp (C:=Zjx) Tryz.f186 (Zk ZvA Zq) fun _ a b k he=>?_
 unfold Zc6 at he;split at he;rotate_left;exact he.elim
 rename_i s_
 refine Zs he fun he=>?_
 refine Zo (Zbo s_) (fun i=>(Zm [(0,.c (.imm y0_ s_)),(1,.c (.fn 202 [])),(7,.c (.int .i64 (s_.length:Int))),(8,.c (.int .i64 i))],[])) he (Za []) ?_
 exact Zym
def ZcJ:Con:=fun
  |[.c (.imm (.int .i64) s_),.c (.fn 202 [])],[]=>.opt _ (ZbZ s_) (fun r=>.ret (.c (.bool r)) [])
  |_,_=>.fail
def Ziu:Cfg:={ y:=tys,n:=9,h:=0,tab:=[(186,Zc6)] }
theorem ZiK:Zn Tryz.prog 125 ZcJ:=by
 refine Zp (C:=Ziu) Tryz.f125 (Zk ZjN Zq) fun _ a b k he=>?_
 unfold ZcJ at he;split at he;rotate_left;exact he.elim
 rename_i s_
 refine Zs he fun he=>?_
 refine Zi he fun r1_ he=>?_
 exact Z5
def Zl5:Con:=fun
  |[.c (.imm (.int .i64) row),.c (.ptr 0 0)],[(0,.rc [.int .i64 o0_0,.imm (.int .i64) o0_1,.imm (.int .i64) o0_2,.int .i64 o0_3,.imm (.sl (.int .i64)) o0_4])]=>.opt _ (Zn6 row (o0_0,(o0_1,(o0_2,(o0_3,o0_4))))) (fun r=>.ret (.c (.bool r)) [(0,.rc [.int .i64 o0_0,.imm y0_ o0_1,.imm y0_ o0_2,.int .i64 o0_3,.imm (.sl y0_) o0_4])])
  |_,_=>.fail
def ZwW:Cfg:={ y:=tys,n:=14,h:=1,tab:=[(125,ZcJ)] }
theorem Zte {P:Prop} (h:P:=by
  exact Zv [(3,[])] (Zj he :) (Za [])):P:=h
theorem ZMA {P:Prop} (h:P:=by
  refine Zi he fun r1_ he=>?_
  exact Zte):P:=h
theorem Zxu:Zn Tryz.prog 201 Zl5:=by
 refine Zp (C:=ZwW) Tryz.f201 (Zk ZiK Zq) fun _ a b k he=>?_
 unfold Zl5 at he;split at he;rotate_left;exact he.elim
 rename_i row o0_0 o0_1 o0_2 o0_3 o0_4
 refine Zs he fun he=>?_
 refine ZI he (fun he=>?_) fun he=>?_
 ·exact ZMA
 ·exact Zte
end
end Go.AE.Y
