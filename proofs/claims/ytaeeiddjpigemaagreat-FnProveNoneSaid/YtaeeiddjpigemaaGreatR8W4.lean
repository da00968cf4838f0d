/-
  Walks: each function keeps the contract that its model gives. No conditions.
-/
import Derived.Test.YtaeeiddjpigemaaGreatR8Tab
import Derived.Test.YtaeeiddjpigemaaGreatR8W3
import Derived.Test.YtaeeiddjpigemaaGreatR8S
namespace Go.AE.Y
open Go Go.AE Go.Proofs
set_option linter.unusedVariables false
set_option maxHeartbeats 2000000
set_option maxRecDepth 100000
noncomputable section
def ZhL:Con:=fun
  |[.c (.imm (.pair (.sl (.pair (.int .i64) (.int .i64))) (.int .i64)) list_)],[]=>.opt _ (Zgx list_) (fun r=>.ret (.c (.bool r)) [])
  |_,_=>.fail
def Zws:Cfg:={ y:=tys,n:=10,h:=0,tab:=[(159,ZoX)] }
theorem ZpF:Zn Tryz.prog 98 ZhL:=by
 refine Zp (C:=Zws) Tryz.f98 (Zk ZAH Zq) fun _ a b k he=>?_
 unfold ZhL at he;split at he;rotate_left;exact he.elim
 rename_i list_
 refine Zs he fun he=>?_
 refine Zh he (fun he=>?_) fun he=>?_
 ·exact ZF5
 ·exact Z5
def Zb2:Con:=fun
  |[.c (.imm (.pair (.sl (.pair (.int .i64) (.int .i64))) (.int .i64)) s_)],[]=>.opt _ (Zbw s_) (fun r=>.ret (.c (.own 900 false)) [(900,.sl 89 y7_ r .shallow)])
  |_,_=>.fail
def ZoR:Cfg:={ y:=tys,n:=8,h:=0,tab:=[] }
theorem ZdS:Zn Tryz.prog 61 Zb2:=by
 refine Zp (C:=ZoR) Tryz.f61 Zq fun _ a b k he=>?_
 unfold Zb2 at he;split at he;rotate_left;exact he.elim
 rename_i s_
 refine Zs he fun he=>?_
 refine fun b1_ hb1_=>?_
 have he:=ZIE he hb1_
 refine And.intro (fun hb=>?_) (fun hb=>?_)
 ·have he:=ZFp he hb
  exact ZN
 ·have he:=ZFo he hb
  refine Zg he fun he=>?_
  exact Zv [(2,[])] (Zj he :) (Za [(900,7)])
def ZoZ:Con:=fun
  |[.c (.int .i64 l),.c (.imm (.int .i64) p)],[]=>.opt _ (Zpe l p) (fun r=>.ret (.c (.int .i64 r)) [])
  |_,_=>.fail
def ZEe:Cfg:={ y:=tys,n:=19,h:=0,tab:=[] }
theorem ZGc {P:Prop} (h:P:=by
  refine Zg he fun he=>?_
  exact ZBu):P:=h
theorem ZKf {P:Prop} (h:P:=by
  refine Zg he fun he=>?_
  refine Zg he fun he=>?_
  exact ZGc):P:=h
theorem Zxv:Zn Tryz.prog 258 ZoZ:=by
 refine Zp (C:=ZEe) Tryz.f258 Zq fun _ a b k he=>?_
 unfold ZoZ at he;split at he;rotate_left;exact he.elim
 rename_i l p
 refine Zs he fun he=>?_
 refine Zh he (fun he=>?_) fun he=>?_
 ·exact ZKf
 ·exact ZGc
def Zfc:Con:=fun
  |[.agg [.imm (.pair (.int .i64) (.int .i64)) c__0,.int .i64 c__1],.c (.imm (.int .i64) p)],[]=>.opt _ (ZeG (c__0,c__1) p) (fun r=>.ret (.c (.int .i64 r)) [])
  |_,_=>.fail
def Zth:Cfg:={ y:=tys,n:=29,h:=0,tab:=[(258,ZoZ)] }
theorem ZKg {P:Prop} (h:P:=by
  refine Zh he (fun he=>?_) fun he=>?_
  ·exact ZyQ
  ·exact Zdy):P:=h
theorem ZmZ:Zn Tryz.prog 233 Zfc:=by
 refine Zp (C:=Zth) Tryz.f233 (Zk Zxv Zq) fun _ a b k he=>?_
 unfold Zfc at he;split at he;rotate_left;exact he.elim
 rename_i c__0 c__1 p
 refine Zs he fun he=>?_
 refine Zg he fun he=>?_
 refine Zo (ZeX (c__0,c__1) p) (fun (out,i)=>(Zm [(1,.c (.imm y0_ p)),(5,.c (.int .i64 out)),(12,.c (.imm y6_ (c__0,c__1).1)),(13,.c (.int .i64 ((c__0,c__1).1.length:Int))),(14,.c (.int .i64 i))],[])) he (Za []) ?_
 rintro⟨out,i⟩ _ he
 refine Zh he (fun he=>?_) fun he=>?_
 ·refine Zg he fun he=>?_
  refine Zi he fun r1_ he=>?_
  exact ZKg
 ·exact Z5
def ZgK:Con:=fun
  |[.agg [.imm (.pair (.int .i64) (.int .i64)) c__0,.int .i64 c__1],.c (.imm (.int .i64) p)],[]=>.opt _ (Zcc (c__0,c__1) p) (fun r=>.ret (.c (.own 900 false)) [(900,.sl 3 y0_ r .shallow)])
  |_,_=>.fail
def ZrN:Cfg:={ y:=tys,n:=37,h:=0,tab:=[(233,Zfc),(258,ZoZ)] }
theorem ZrY:Zn Tryz.prog 234 ZgK:=by
 refine Zp (C:=ZrN) Tryz.f234 (Zk ZmZ (Zk Zxv Zq)) fun _ a b k he=>?_
 unfold ZgK at he;split at he;rotate_left;exact he.elim
 rename_i c__0 c__1 p
 refine Zs he fun he=>?_
 refine Zi he fun r1_ he=>?_
 refine Zo (Zb9 (c__0,c__1) p r1_) (fun (i,out)=>(Zm [(1,.c (.imm y0_ p)),(5,.c (.int .i64 r1_)),(6,.c (.own 10000000 false)),(13,.c (.imm y6_ (c__0,c__1).1)),(14,.c (.int .i64 ((c__0,c__1).1.length:Int))),(15,.c (.int .i64 i))],[(10000000,.sl 3 y0_ out .shallow)])) he (Za []) ?_
 rintro⟨i,out⟩ _ he
 refine Zh he (fun he=>?_) fun he=>?_
 ·refine Zg he fun he=>?_
  refine Zi he fun r3_ he=>?_
  refine Zh he (fun he=>?_) fun he=>?_
  ·refine Zh he (fun he=>?_) fun he=>?_
   ·refine Zg he fun he=>?_
    refine Zg he fun he=>?_
    exact⟨_,(Zj he :),(Za [(10000000,34)])⟩
   ·exact Zdy
  ·exact Zdy
 ·exact Zv [(4,[])] (Zj he :) (Za [(900,10000000)])
def Zhk:Con:=fun
  |[.c (.imm (.pair (.sl (.pair (.int .i64) (.int .i64))) (.int .i64)) list_),.c (.imm (.int .i64) p)],[]=>.opt _ (ZbH list_ p) (fun r=>.ret (.tup [.c (.own 900 false),.c (.int .i64 r.1)]) [(900,.sl 3 y0_ r.2 .shallow)])
  |_,_=>.fail
def Zzt:Cfg:={ y:=tys,n:=50,h:=0,tab:=[(75,Zdm),(233,Zfc),(234,ZgK)] }
theorem Zoa:Zn Tryz.prog 171 Zhk:=by
 refine Zp (C:=Zzt) Tryz.f171 (Zk ZeI (Zk ZmZ (Zk ZrY Zq))) fun _ a b k he=>?_
 unfold Zhk at he;split at he;rotate_left;exact he.elim
 rename_i list_ p
 refine Zs he fun he=>?_
 refine Zi he fun r1_ he=>?_
 refine Zo (ZcA list_) (fun (made,out3)=>(Zm [(0,.c (.imm y7_ list_)),(6,.c (.own 10000000 false)),(7,.c (.bool made))],[(10000000,.sl 3 y0_ out3 .shallow)])) he (Za [(10000000,14900)]) ?_
 rintro⟨made,out3⟩ _ he
 refine Zh he (fun he=>?_) fun he=>?_
 ·refine Zo (ZbI list_) (fun (made4,i3,out5)=>(Zm [(0,.c (.imm y7_ list_)),(6,.c (.own 10004000 false)),(7,.c (.bool made4)),(15,.c (.imm y7_ list_)),(16,.c (.int .i64 (list_.length:Int))),(17,.c (.int .i64 i3))],[(10004000,.sl 3 y0_ out5 .shallow)])) he (Za [(10004000,10000000)]) ?_
  rintro⟨made4,i3,out5⟩ _ he
  refine Zh he (fun he=>?_) fun he=>?_
  ·refine Zg he fun he=>?_
   refine Zi he fun r8_ he=>?_
   refine Zh he (fun he=>?_) fun he=>?_
   ·exact Zv [(4,[]),(5,[])] (Zj he :) (Za [(900,10004000)])
   ·refine Zi he fun r9_ he=>?_
    refine Zo (ZcB i3 r9_) (fun (made6,i5,out6)=>(Zm [(0,.c (.imm y7_ list_)),(6,.c (.own 10006000 false)),(7,.c (.bool made6)),(15,.c (.imm y7_ list_)),(16,.c (.int .i64 (list_.length:Int))),(17,.c (.int .i64 i3)),(30,.c (.own 10006001 false)),(31,.c (.int .i64 (r9_.length:Int))),(32,.c (.int .i64 i5))],[(10006000,.sl 3 y0_ out6 .shallow),(10006001,.sl 3 y0_ r9_ .shallow)])) he (Za [(10006000,10004000),(10006001,31900)]) ?_
    rintro⟨made6,i5,out6⟩ _ he
    refine Zh he (fun he=>?_) fun he=>?_
    ·refine Zg he fun he=>?_
     refine Zh he (fun he=>?_) fun he=>?_
     ·exact ZuU
     ·exact Ztb
    ·refine Zg he fun he=>?_
     exact⟨_,(Zj he :),(Za [(10004000,10006000)])⟩
  ·exact⟨_,(Zj he :),(Za [(10000000,10004000)])⟩
 ·exact Zv [(4,[]),(5,[])] (Zj he :) (Za [(900,10000000)])
def ZlE:Con:=fun
  |[.c (.imm (.int .i64) p)],[]=>.opt _ (Zgp p) (fun r=>.ret (.tup [.c (.own 900 false),.c (.int .i64 r.1),.c (.bool r.2.1)]) [(900,.sl 4 .bool r.2.2 .shallow)])
  |_,_=>.fail
def ZAf:Cfg:={ y:=tys,n:=26,h:=0,tab:=[],cut:=[9] }
theorem ZtR:Zn Tryz.prog 172 ZlE:=by
 refine Zp (C:=ZAf) Tryz.f172 Zq fun _ a b k he=>?_
 unfold ZlE at he;split at he;rotate_left;exact he.elim
 rename_i p
 refine Zs he fun he=>?_
 refine ZL (Zku) (fun out1=>(Zm [(5,.c (.own 10001000 false))],[(10001000,.sl 4 .bool out1 .shallow)])) he ?_ ?_
 ·rintro out1 he
  exact Zv [(2,[]),(3,[]),(4,[])] (Zj he :) (Za [(900,10001000)])
 ·skip
  refine Zo (Zhv p) (fun (i,out)=>(Zm [(5,.c (.own 10000000 false)),(8,.c (.imm y0_ p)),(9,.c (.int .i64 (p.length:Int))),(10,.c (.int .i64 i))],[(10000000,.sl 4 .bool out .shallow)])) he (Za []) ?_
  rintro⟨i,out⟩ _ he
  refine Zh he (fun he=>?_) fun he=>?_
  ·refine Zg he fun he=>?_
   refine Zh he (fun he=>?_) fun he=>?_
   ·refine Zg he fun he=>?_
    exact Zv [(2,[]),(3,[]),(4,[])] (Zj he :) (Za [])
   ·refine Zg he fun he=>?_
    refine Zg he fun he=>?_
    exact⟨_,(Zj he :),(Za [(10000000,23)])⟩
  ·exact⟨_,(Zbh he :),(Za [(10001000,10000000)])⟩
def Zhm:Con:=fun
  |[.c (.imm (.pair (.int .i64) (.int .i64)) s_)],[]=>.opt _ (ZfN s_) (fun r=>.ret (.c (.own 900 false)) [(900,.sl 155 y6_ r .shallow)])
  |_,_=>.fail
def Zsq:Cfg:={ y:=tys,n:=8,h:=0,tab:=[] }
theorem ZsT:Zn Tryz.prog 224 Zhm:=by
 refine Zp (C:=Zsq) Tryz.f224 Zq fun _ a b k he=>?_
 unfold Zhm at he;split at he;rotate_left;exact he.elim
 rename_i s_
 refine Zs he fun he=>?_
 refine fun b1_ hb1_=>?_
 have he:=ZIE he hb1_
 refine And.intro (fun hb=>?_) (fun hb=>?_)
 ·have he:=ZFp he hb
  exact ZN
 ·have he:=ZFo he hb
  refine Zg he fun he=>?_
  exact Zv [(2,[])] (Zj he :) (Za [(900,7)])
def ZeD:Con:=fun
  |[.agg [.imm (.pair (.int .i64) (.int .i64)) c__0,.int .i64 c__1]],[]=>.opt _ (Zeq (c__0,c__1)) (fun r=>.ret (.agg [.own 901 false,.int .i64 r.1]) [(900,.rc [.own 901 false,.int .i64 r.1]),(901,.sl 155 y6_ r.2 .shallow)])
  |_,_=>.fail
def Zuo:Cfg:={ y:=tys,n:=8,h:=0,tab:=[(224,Zhm)] }
theorem ZjJ:Zn Tryz.prog 160 ZeD:=by
 refine Zp (C:=Zuo) Tryz.f160 (Zk ZsT Zq) fun _ a b k he=>?_
 unfold ZeD at he;split at he;rotate_left;exact he.elim
 rename_i c__0 c__1
 refine Zs he fun he=>?_
 refine Zi he fun r1_ he=>?_
 exact Zv [(2,[900])] (Zj he :) (Za [(900,2),(901,6900)])
def Zet:Con:=fun
  |[.c (.ptr 0 0),.c (.imm (.int .i64) decisions)],[(0,.rc [.own 1 false,.int .i64 s_1,.own 2 false,.bool s_3]),(1,.sl 89 (.pair (.sl (.pair (.int .i64) (.int .i64))) (.int .i64)) o1 .shallow),(2,.sl 96 (.pair (.int .i64) (.pair (.int .i64) (.pair (.int .i64) (.pair (.sl (.pair (.int .i64) (.int .i64))) (.int .i64))))) o2 (.deep true .no))]=>.opt _ (Zct decisions s_1 s_3 o1 o2) (fun r=>.ret (.tup []) [(0,.rc [.own 900 false,.int .i64 s_1,.own 901 false,.bool s_3]),(1,.dead),(2,.dead),(900,.sl 89 y7_ r.1 .shallow),(901,.sl 96 Zcb r.2 (.deep true .no))])
  |_,_=>.fail
def Zi5:Sched:=.alt 7 (ZF [8,9] (.alt 10 .done .stop)) .stop
def Zi6:Sched:=.alt 6 Zi5 .stop
def Zi7:Sched:=.alt 9 (ZF [10,11] (.alt 12 .done .stop)) .stop
def Zi8:Sched:=.alt 8 Zi7 .stop
def Zi9:Sched:=.alt 7 Zi8 .stop
def Zja:Sched:=.alt 6 Zi9 .stop
def Zrh:Cfg:={ y:=tys,n:=48,h:=3,tab:=[(119,Zix),(160,ZeD)],cut:=[6,8],deep:=[44],sched:=[(7,(ZF [0,1,2,3] (.alt 4 (.alt 5 Zi6 .stop) (.alt 5 (.alt 4 Zi6 (.alt 6 (.alt 4 Zi5 .stop) .stop)) .stop)))),(8,(ZF [0,1,2,3] (.alt 4 (.alt 5 Zja .stop) (.alt 5 (.alt 4 Zja (.alt 6 (.alt 4 Zi9 (.alt 7 (.alt 4 Zi8 (.alt 8 (.alt 4 Zi7 .stop) .stop)) .stop)) .stop)) .stop))))] }
theorem ZBx {P:Prop} (h:P:=by
  refine Y4 ?_
  refine Y4 ?_
  refine And.intro hq2 ?_
  refine Y4 ?_
  exact Zv [] (Zj he :) (Za [(900,10002001),(901,45)] (l:=[]) (st':=[(0,.rc [.own 900 false,.int .i64 s_1,.own 901 false,.bool s_3]),(1,.dead),(2,.dead),(900,.sl 89 y7_ (o1++[(r1_.2.2,r1_.2.1)]) .shallow),(901,.sl 96 Zcb (o2++[((7:Int),((0:Int),((0:Int),(r3_.2,r3_.1))))]) (.deep true .no))]))):P:=h
theorem ZKh {P:Prop} (h:P:=by
  refine Y4 ?_
  refine⟨r3_,hq1,?_⟩
  refine Y4 ?_
  exact ZBx):P:=h
theorem ZGd {P:Prop} (h:P:=by
  refine Y4 ?_
  refine Y4 ?_
  refine And.intro hq1 ?_
  refine Y4 ?_
  exact⟨_,he,(Za [(10002000,7),(10002001,33)])⟩):P:=h
theorem Zk8:Zn Tryz.prog 173 Zet:=by
 refine Zp (C:=Zrh) Tryz.f173 (Zk Zpg (Zk ZjJ Zq)) fun _ a b k he=>?_
 unfold Zet at he;split at he;rotate_left;exact he.elim
 rename_i decisions s_1 s_3 o1 o2
 refine Zs he fun he=>?_
 refine ZL (Zem o1 o2) (fun lits1=>(Zm [(0,.c (.ptr 0 0)),(4,.c (.own 10001000 false))],[(0,.rc [.own 1 false,.int .i64 s_1,.own 2 false,.bool s_3]),(1,.sl 89 y7_ o1 .shallow),(2,.sl 96 Zcb o2 (.deep true .no)),(10001000,.sl 3 y0_ lits1 .shallow)])) he ?_ ?_
 ·rintro lits1 he
  refine Zi he fun r1_ he=>?_
  refine ZL (Zen o1 o2 r1_) (fun _=>(Zm [(0,.c (.ptr 0 0)),(7,.c (.ptr 10002000 0))],[(0,.rc [.own 10002001 false,.int .i64 s_1,.own 2 false,.bool s_3]),(1,.dead),(2,.sl 96 Zcb o2 (.deep true .no)),(10002000,.rc [.imm y6_ r1_.2.2,.int .i64 r1_.2.1]),(10002001,.sl 89 y7_ (o1++[(r1_.2.2,r1_.2.1)]) .shallow)])) he ?_ ?_
  ·rintro⟨⟩ he
   refine And.intro (by kernel_rfl) ?_
   obtain⟨r3_,hq1,he⟩:=Z6 he
   obtain⟨hq2,he⟩:=ZO he
   refine Y5 ?_ ?_
   ·skip
    refine Y4 ?_
    exact ZKh
   ·skip
    refine Y5 ?_ ?_
    ·skip
     exact ZKh
    ·skip
     refine⟨r3_,hq1,?_⟩
     refine Y5 ?_ ?_
     ·skip
      refine Y4 ?_
      exact ZBx
     ·skip
      refine Y5 ?_ ?_
      ·skip
       exact ZBx
      ·skip
       exact ZBx
  ·skip
   refine And.intro (by kernel_rfl) ?_
   obtain⟨hq1,he⟩:=ZO he
   refine Y5 ?_ ?_
   ·skip
    refine Y4 ?_
    exact ZGd
   ·skip
    refine Y5 ?_ ?_
    ·skip
     exact ZGd
    ·skip
     exact ZGd
 ·skip
  refine Zo (ZbC decisions o1 o2) (fun (i,lits)=>(Zm [(0,.c (.ptr 0 0)),(4,.c (.own 10000000 false)),(9,.c (.imm y0_ decisions)),(10,.c (.int .i64 (decisions.length:Int))),(11,.c (.int .i64 i))],[(0,.rc [.own 1 false,.int .i64 s_1,.own 2 false,.bool s_3]),(1,.sl 89 y7_ o1 .shallow),(2,.sl 96 Zcb o2 (.deep true .no)),(10000000,.sl 3 y0_ lits .shallow)])) he (Za []) ?_
  rintro⟨i,lits⟩ _ he
  refine Zh he (fun he=>?_) fun he=>?_
  ·refine Zg he fun he=>?_
   refine Zg he fun he=>?_
   refine Zg he fun he=>?_
   refine Zg he fun he=>?_
   exact⟨_,(Zj he :),(Za [(10000000,19)])⟩
  ·exact⟨_,(Zbh he :),(Za [(10001000,10000000)])⟩
def ZbV (n_:Nat):Con:=fun
  |[.c (.ptr 0 0),.c (.imm (.int .i64) a1)],[(0,.rc [.own 1 false,.int .i64 o0_1,.own 2 false,.bool o0_3]),(1,.sl 89 (.pair (.sl (.pair (.int .i64) (.int .i64))) (.int .i64)) o1 .shallow),(2,.sl 96 (.pair (.int .i64) (.pair (.int .i64) (.pair (.int .i64) (.pair (.sl (.pair (.int .i64) (.int .i64))) (.int .i64))))) o2 (.deep true .no))]=>.opt _ (ZA n_ a1 o0_1 o0_3 o1 o2) (fun r=>.ret (.tup [.c (.own 900 false),.c (.bool r.1)]) [(0,.rc [.own 901 false,.int .i64 r.2.1,.own 902 false,.bool r.2.2.1]),(1,.dead),(2,.dead),(900,.sl 4 .bool r.2.2.2.1 .shallow),(901,.sl 89 y7_ r.2.2.2.2.1 .shallow),(902,.sl 96 Zcb r.2.2.2.2.2 (.deep true .no))])
  |_,_=>.fail
def Zqv (n_:Nat):Cfg:={ y:=tys,n:=120,h:=3,tab:=[(75,Zdm),(114,ZbV n_),(170,Zeg),(171,Zhk),(172,ZlE),(173,Zet)],cut:=[13,25,28] }
theorem ZKi {P:Prop} (h:P:=by
  exact Zv [(4,[]),(5,[])] (Zj he :) (Za [(901,1),(902,2)])):P:=h
theorem ZKj {P:Prop} (h:P:=by
  rintro⟨i_12,i_32,i_02,i_22⟩ he
  refine Zi he fun r9_ he=>?_
  exact Zv [(4,[]),(5,[])] (Zj he :) (Za [(901,120900),(902,120901)])):P:=h
theorem ZKk {P:Prop} (h:P:=by
  rintro⟨i_11,i_31,i_01,i_21⟩ he
  refine Zh he (fun he=>?_) fun he=>?_
  ·exact Zv [(4,[]),(5,[])] (Zj he :) (Za [(901,10003000),(902,10003001)])
  ·exact⟨_,he,(Za [(10004000,10003000),(10004001,10003001)])⟩):P:=h
theorem ZKl {P:Prop} (h:P:=by
  exact Zv [(4,[]),(5,[])] (Zj he :) (Za [(900,96900),(901,96901),(902,96902)])):P:=h
theorem ZKm {P:Prop} (h:P:=by
  rintro⟨i3,i_1,i_3,i_0,i_2⟩ _ he
  refine Zh he (fun he=>?_) fun he=>?_
  ·refine Zg he fun he=>?_
   refine Zi he fun r7_ he=>?_
   refine Zg he fun he=>?_
   refine Zi he fun r8_ he=>?_
   refine ZI he (fun he=>?_) fun he=>?_
   ·refine Zh he (fun he=>?_) fun he=>?_
    ·exact ZKl
    ·refine Zg he fun he=>?_
     exact⟨_,(Zj he :),(Za [(10002001,96901),(10002002,96902)])⟩
   ·exact ZKl
  ·exact⟨_,(Zbh he :),(Za [(10003000,10002001),(10003001,10002002)])⟩):P:=h
theorem ZKn {P:Prop} (h:P:=by
  rintro⟨i,i1⟩ _ he
  refine Zh he (fun he=>?_) fun he=>?_
  ·refine Zg he fun he=>?_
   refine Zi he fun r2_ he=>?_
   exact ZJ9
  ·exact⟨_,(Zbh he :),(Za [(10001000,10000000)])⟩):P:=h
theorem Zoc (n_:Nat) (ih:Zn Tryz.prog 114 (ZbV n_)):Zn Tryz.prog 114 (ZbV (n_+1)):=by
 refine Zp (C:=(Zqv n_)) Tryz.f114 (Zk ZeI (Zk ih (Zk ZgA (Zk Zoa (Zk ZtR (Zk Zk8 Zq)))))) fun _ a b k he=>?_
 unfold ZbV at he;split at he;rotate_left;exact he.elim
 rename_i a1 o0_1 o0_3 o1 o2
 have he:Ok (ZK (ZA n_) a1 o0_1 o0_3 o1 o2) (fun r=>k (.tup [.c (.own 900 false),.c (.bool r.1)]) [(0,.rc [.own 901 false,.int .i64 r.2.1,.own 902 false,.bool r.2.2.1]),(1,.dead),(2,.dead),(900,.sl 4 .bool r.2.2.2.1 .shallow),(901,.sl 89 y7_ r.2.2.2.2.1 .shallow),(902,.sl 96 Zcb r.2.2.2.2.2 (.deep true .no))]):=he
 refine⟨rfl,rfl,?_⟩
 refine ZI he (fun he=>?_) fun he=>?_
 ·refine Zh he (fun he=>?_) fun he=>?_
  ·exact ZKi
  ·refine Zg he fun he=>?_
   refine Zg he fun he=>?_
   refine ZL (ZV a1 o0_1 o0_3 o1 o2 (ZA n_)) (fun i2=>(Zm [(0,.c (.ptr 0 0)),(1,.c (.imm y0_ a1)),(6,.c (.own 10001000 false))],[(0,.rc [.own 1 false,.int .i64 (o0_1 - (1:Int)),.own 2 false,.bool o0_3]),(1,.sl 89 y7_ o1 .shallow),(2,.sl 96 Zcb o2 (.deep true .no)),(10001000,.sl 3 y0_ i2 .shallow)])) he ?_ ?_
   ·rintro i2 he
    refine Zi he fun r3_ he=>?_
    refine ZL (Zbd a1) (fun (i_12,i_32,i_02,i_22)=>(Zm [(0,.c (.ptr 0 0)),(1,.c (.imm y0_ a1))],[(0,.rc [.own 10004000 false,.int .i64 i_12,.own 10004001 false,.bool i_32]),(1,.dead),(2,.dead),(10004000,.sl 89 y7_ i_02 .shallow),(10004001,.sl 96 Zcb i_22 (.deep true .no))])) he ?_ ?_
    ·exact ZKj
    ·skip
     refine Zh he (fun he=>?_) fun he=>?_
     ·refine Zi he fun r4_ he=>?_
      refine Zh he (fun he=>?_) fun he=>?_
      ·exact Zv [(4,[]),(5,[])] (Zj he :) (Za [(900,74900),(901,1),(902,2)])
      ·refine ZL (Zdb a1) (fun (i_11,i_31,i_01,i_21)=>(Zm [(0,.c (.ptr 0 0)),(1,.c (.imm y0_ a1))],[(0,.rc [.own 10003000 false,.int .i64 i_11,.own 10003001 false,.bool i_31]),(1,.dead),(2,.dead),(10003000,.sl 89 y7_ i_01 .shallow),(10003001,.sl 96 Zcb i_21 (.deep true .no))])) he ?_ ?_
       ·exact ZKk
       ·skip
        refine Zg he fun he=>?_
        refine Zo (Zbv a1 r4_ (ZA n_)) (fun (i3,i_1,i_3,i_0,i_2)=>(Zm [(0,.c (.ptr 0 0)),(1,.c (.imm y0_ a1)),(82,.c (.own 10002000 false)),(83,.c (.int .i64 ([r4_.1,(0 - r4_.1)].length:Int))),(84,.c (.int .i64 i3))],[(0,.rc [.own 10002001 false,.int .i64 i_1,.own 10002002 false,.bool i_3]),(1,.dead),(2,.dead),(10002000,.sl 3 y0_ [r4_.1,(0 - r4_.1)] .shallow),(10002001,.sl 89 y7_ i_0 .shallow),(10002002,.sl 96 Zcb i_2 (.deep true .no))])) he (Za [(10002000,82),(10002001,1),(10002002,2)]) ?_
        exact ZKm
     ·exact⟨_,he,(Za [(10004000,1),(10004001,2)])⟩
   ·skip
    refine Zo (Zbe a1 o0_1 o0_3 o1 o2 (ZA n_)) (fun (i,i1)=>(Zm [(0,.c (.ptr 0 0)),(1,.c (.imm y0_ a1)),(6,.c (.own 10000000 false)),(41,.c (.imm y0_ a1)),(42,.c (.int .i64 (a1.length:Int))),(43,.c (.int .i64 i))],[(0,.rc [.own 1 false,.int .i64 (o0_1 - (1:Int)),.own 2 false,.bool o0_3]),(1,.sl 89 y7_ o1 .shallow),(2,.sl 96 Zcb o2 (.deep true .no)),(10000000,.sl 3 y0_ i1 .shallow)])) he (Za [(10000000,40)]) ?_
    exact ZKn
 ·exact ZKi
theorem Zj9:∀n_,Zn Tryz.prog 114 (ZbV n_)
  |0=>by
    refine Zp (C:={ y:=tys,n:=120,h:=3,tab:=[] }) Tryz.f114 Zq fun _ a b k he=>?_
    unfold ZbV at he
    split at he
    · obtain⟨x,hx,_⟩:=he
      cases hx
    · exact he.elim
  |n_+1=>Zoc n_ (Zj9 n_)
def Zcv (n_:Nat):Con:=fun
  |[.c (.ptr 0 0),.c (.imm (.int .i64) a1)],[(0,.rc [.own 1 false,.int .i64 o0_1,.nil,.bool o0_3]),(1,.sl 89 (.pair (.sl (.pair (.int .i64) (.int .i64))) (.int .i64)) o1 .shallow)]=>.opt _ (ZbQ n_ a1 o0_1 o0_3 o1) (fun r=>.ret (.tup [.c (.own 900 false),.c (.bool r.1)]) [(0,.rc [.own 901 false,.int .i64 r.2.1,.own 902 false,.bool r.2.2.1]),(1,.dead),(900,.sl 4 .bool r.2.2.2.1 .shallow),(901,.sl 89 y7_ r.2.2.2.2.1 .shallow),(902,.sl 96 Zcb r.2.2.2.2.2 (.deep true .no))])
  |_,_=>.fail
def Zqu (n_:Nat):Cfg:={ y:=tys,n:=120,h:=2,tab:=[(75,Zdm),(114,(ZbV 64)),(170,Zeg),(171,Zhk),(172,ZlE),(173,Zet)],cut:=[13,25,28] }
theorem Zob (n_:Nat) (ih:Zn Tryz.prog 114 (Zcv n_)):Zn Tryz.prog 114 (Zcv (n_+1)):=by
 refine Zp (C:=(Zqu n_)) Tryz.f114 (Zk ZeI (Zk (Zj9 64) (Zk ZgA (Zk Zoa (Zk ZtR (Zk Zk8 Zq)))))) fun _ a b k he=>?_
 unfold Zcv at he;split at he;rotate_left;exact he.elim
 rename_i a1 o0_1 o0_3 o1
 have he:Ok (ZdY (ZbQ n_) a1 o0_1 o0_3 o1) (fun r=>k (.tup [.c (.own 900 false),.c (.bool r.1)]) [(0,.rc [.own 901 false,.int .i64 r.2.1,.own 902 false,.bool r.2.2.1]),(1,.dead),(900,.sl 4 .bool r.2.2.2.1 .shallow),(901,.sl 89 y7_ r.2.2.2.2.1 .shallow),(902,.sl 96 Zcb r.2.2.2.2.2 (.deep true .no))]):=he
 refine⟨rfl,rfl,?_⟩
 refine ZI he (fun he=>?_) fun he=>?_
 ·refine Zh he (fun he=>?_) fun he=>?_
  ·exact Zv [(4,[]),(5,[])] (Zj he :) (Za [(901,1)])
  ·refine Zg he fun he=>?_
   refine Zg he fun he=>?_
   refine ZL (Zd9 a1 o0_1 o0_3 o1) (fun i2=>(Zm [(0,.c (.ptr 0 0)),(1,.c (.imm y0_ a1)),(6,.c (.own 10001000 false))],[(0,.rc [.own 1 false,.int .i64 (o0_1 - (1:Int)),.nil,.bool o0_3]),(1,.sl 89 y7_ o1 .shallow),(10001000,.sl 3 y0_ i2 .shallow)])) he ?_ ?_
   ·rintro i2 he
    refine Zi he fun r3_ he=>?_
    refine ZL (ZfB a1) (fun (i_12,i_32,i_02,i_22)=>(Zm [(0,.c (.ptr 0 0)),(1,.c (.imm y0_ a1))],[(0,.rc [.own 10004000 false,.int .i64 i_12,.own 10004001 false,.bool i_32]),(1,.dead),(10004000,.sl 89 y7_ i_02 .shallow),(10004001,.sl 96 Zcb i_22 (.deep true .no))])) he ?_ ?_
    ·exact ZKj
    ·skip
     refine Zh he (fun he=>?_) fun he=>?_
     ·refine Zi he fun r4_ he=>?_
      refine Zh he (fun he=>?_) fun he=>?_
      ·exact Zv [(4,[]),(5,[])] (Zj he :) (Za [(900,74900),(901,1)])
      ·refine ZL (ZjI a1) (fun (i_11,i_31,i_01,i_21)=>(Zm [(0,.c (.ptr 0 0)),(1,.c (.imm y0_ a1))],[(0,.rc [.own 10003000 false,.int .i64 i_11,.own 10003001 false,.bool i_31]),(1,.dead),(10003000,.sl 89 y7_ i_01 .shallow),(10003001,.sl 96 Zcb i_21 (.deep true .no))])) he ?_ ?_
       ·exact ZKk
       ·skip
        refine Zg he fun he=>?_
        refine Zo (ZfC a1 r4_) (fun (i3,i_1,i_3,i_0,i_2)=>(Zm [(0,.c (.ptr 0 0)),(1,.c (.imm y0_ a1)),(82,.c (.own 10002000 false)),(83,.c (.int .i64 ([r4_.1,(0 - r4_.1)].length:Int))),(84,.c (.int .i64 i3))],[(0,.rc [.own 10002001 false,.int .i64 i_1,.own 10002002 false,.bool i_3]),(1,.dead),(10002000,.sl 3 y0_ [r4_.1,(0 - r4_.1)] .shallow),(10002001,.sl 89 y7_ i_0 .shallow),(10002002,.sl 96 Zcb i_2 (.deep true .no))])) he (Za [(10002000,82),(10002001,1)]) ?_
        exact ZKm
     ·exact⟨_,he,(Za [(10004000,1)])⟩
   ·skip
    refine Zo (Zea a1 o0_1 o0_3 o1) (fun (i,i1)=>(Zm [(0,.c (.ptr 0 0)),(1,.c (.imm y0_ a1)),(6,.c (.own 10000000 false)),(41,.c (.imm y0_ a1)),(42,.c (.int .i64 (a1.length:Int))),(43,.c (.int .i64 i))],[(0,.rc [.own 1 false,.int .i64 (o0_1 - (1:Int)),.nil,.bool o0_3]),(1,.sl 89 y7_ o1 .shallow),(10000000,.sl 3 y0_ i1 .shallow)])) he (Za [(10000000,40)]) ?_
    exact ZKn
 ·exact Zv [(4,[]),(5,[])] (Zj he :) (Za [(901,1)])
theorem Zj8:∀n_,Zn Tryz.prog 114 (Zcv n_)
  |0=>by
    refine Zp (C:={ y:=tys,n:=120,h:=2,tab:=[] }) Tryz.f114 Zq fun _ a b k he=>?_
    unfold Zcv at he
    split at he
    · obtain⟨x,hx,_⟩:=he
      cases hx
    · exact he.elim
  |n_+1=>Zob n_ (Zj8 n_)
def Zlk:Con:=fun
  |[.c (.imm (.pair (.sl (.pair (.int .i64) (.int .i64))) (.int .i64)) list_),.c (.int .i64 fuel)],[]=>.opt _ (Zcz list_ fuel) (fun r=>.ret (.tup [.c (.int .i64 r.1),.c (.own 900 false),.c (.own 901 false)]) [(900,.sl 4 .bool r.2.1 .shallow),(901,.sl 96 Zcb r.2.2 (.deep true .no))])
  |_,_=>.fail
def Zwv:Cfg:={ y:=tys,n:=40,h:=0,tab:=[(57,ZnG),(61,Zb2),(98,ZhL),(114,(Zcv 64))] }
theorem ZGe {P:Prop} (h:P:=by
  exact Zv [(4,[]),(5,[]),(6,[])] (Zj he :) (Za [])):P:=h
theorem ZwJ:Zn Tryz.prog 44 Zlk:=by
 refine Zp (C:=Zwv) Tryz.f44 (Zk Zwf (Zk ZdS (Zk ZpF (Zk (Zj8 64) Zq)))) fun _ a b k he=>?_
 unfold Zlk at he;split at he;rotate_left;exact he.elim
 rename_i list_ fuel
 refine Zs he fun he=>?_
 refine Zi he fun r1_ he=>?_
 refine ZI he (fun he=>?_) fun he=>?_
 ·refine Zi he fun r2_ he=>?_
  refine Zh he (fun he=>?_) fun he=>?_
  ·exact ZGe
  ·refine Zi he fun r3_ he=>?_
   refine Zi he fun r4_ he=>?_
   refine Zh he (fun he=>?_) fun he=>?_
   ·exact Zv [(4,[]),(5,[]),(6,[])] (Zj he :) (Za [(900,26900)])
   ·refine Zh he (fun he=>?_) fun he=>?_
    ·exact ZGe
    ·refine And.intro (by kernel_rfl) ?_
     exact Zv [(4,[]),(5,[]),(6,[])] (Zj he :) (Za [(901,26902)])
 ·exact ZGe
def Zle:Con:=fun
  |[.agg [.imm (.int .i64) m_0,.imm (.pair (.int .i64) (.pair (.sl (.int .i64)) (.pair (.sl (.int .i64)) (.pair (.int .i64) (.sl (.sl (.int .i64))))))) m_1],.c (.imm .bool values)],[]=>.opt _ (Zgv (m_0,m_1) values) (fun r=>.ret (.tup [.c (.own 900 false),.c (.bool r.1)]) [(900,.sl 3 y0_ r.2 .shallow)])
  |_,_=>.fail
def Zwn:Cfg:={ y:=tys,n:=50,h:=0,tab:=[(71,Ze7),(118,ZhK)],cut:=[15] }
theorem ZGf {P:Prop} (h:P:=by
  exact Zv [(4,[]),(5,[])] (Zj he :) (Za [])):P:=h
theorem ZBy {P:Prop} (h:P:=by
  exact Zv [(4,[]),(5,[])] (Zj he :) (Za [(900,10000001)])):P:=h
theorem ZwD:Zn Tryz.prog 58 Zle:=by
 refine Zp (C:=Zwn) Tryz.f58 (Zk Zjk (Zk ZpE Zq)) fun _ a b k he=>?_
 unfold Zle at he;split at he;rotate_left;exact he.elim
 rename_i m_0 m_1 values
 refine Zs he fun he=>?_
 refine Zi he fun r1_ he=>?_
 refine ZI he (fun he=>?_) fun he=>?_
 ·refine Zh he (fun he=>?_) fun he=>?_
  ·exact ZGf
  ·refine Zo (ZgR (m_0,m_1) values) (fun (i,out2)=>(Zm [(1,.c (.imm .bool values)),(2,.c (.ptr 10000000 0)),(6,.c (.own 10000001 false)),(21,.c (.int .i64 ((m_0,m_1).1.length:Int))),(22,.c (.int .i64 i))],[(10000000,.rc [.imm y0_ (m_0,m_1).1,.imm y5_ (m_0,m_1).2]),(10000001,.sl 3 y0_ out2 .shallow)])) he (Za [(10000000,2)]) ?_
   rintro⟨i,out2⟩ _ he
   refine Zh he (fun he=>?_) fun he=>?_
   ·refine ZL (Zkp i) (fun (count3,out4)=>(Zm [(1,.c (.imm .bool values)),(2,.c (.ptr 10004000 0)),(6,.c (.own 10004001 false)),(8,.c (.int .i64 count3)),(21,.c (.int .i64 ((m_0,m_1).1.length:Int))),(22,.c (.int .i64 i))],[(10004000,.rc [.imm y0_ (m_0,m_1).1,.imm y5_ (m_0,m_1).2]),(10004001,.sl 3 y0_ out4 .shallow)])) he ?_ ?_
    ·rintro⟨count3,out4⟩ he
     refine Zh he (fun he=>?_) fun he=>?_
     ·exact ZGf
     ·exact ZKb
    ·skip
     refine Zi he fun r3_ he=>?_
     refine Zo (ZgS values i r3_) (fun (count2,i2,out3)=>(Zm [(1,.c (.imm .bool values)),(2,.c (.ptr 10003000 0)),(6,.c (.own 10003001 false)),(8,.c (.int .i64 count2)),(21,.c (.int .i64 ((m_0,m_1).1.length:Int))),(22,.c (.int .i64 i)),(27,.c (.own 10003002 false)),(28,.c (.int .i64 (r3_.length:Int))),(29,.c (.int .i64 i2))],[(10003000,.rc [.imm y0_ (m_0,m_1).1,.imm y5_ (m_0,m_1).2]),(10003001,.sl 3 y0_ out3 .shallow),(10003002,.sl 3 y0_ r3_ .shallow)])) he (Za [(10003000,10000000),(10003001,10000001),(10003002,28900)]) ?_
     rintro⟨count2,i2,out3⟩ _ he
     refine Zh he (fun he=>?_) fun he=>?_
     ·refine Zg he fun he=>?_
      refine Zg he fun he=>?_
      refine Zg he fun he=>?_
      refine Zh he (fun he=>?_) fun he=>?_
      ·refine Zg he fun he=>?_
       refine Zg he fun he=>?_
       refine Zg he fun he=>?_
       exact⟨_,(Zj he :),(Za [(10003001,42)])⟩
      ·exact Zdy
     ·exact⟨_,(Zbh he :),(Za [(10004000,10003000),(10004001,10003001)])⟩
   ·exact ZBy
 ·exact ZGf
def ZpP:Con:=fun
  |[.c (.imm (.int .i64) coefs),.c (.imm (.int .i64) cells)],[]=>.opt _ (Zmn coefs cells) (fun r=>.ret (.c (.int .i64 r)) [])
  |_,_=>.fail
def ZBG:Cfg:={ y:=tys,n:=25,h:=0,tab:=[] }
theorem ZB5:Zn Tryz.prog 60 ZpP:=by
 refine Zp (C:=ZBG) Tryz.f60 Zq fun _ a b k he=>?_
 unfold ZpP at he;split at he;rotate_left;exact he.elim
 rename_i coefs cells
 refine Zs he fun he=>?_
 refine Zo (Zpf coefs cells) (fun (sum,i)=>(Zm [(0,.c (.imm y0_ coefs)),(5,.c (.int .i64 sum)),(8,.c (.imm y0_ cells)),(9,.c (.int .i64 (cells.length:Int))),(10,.c (.int .i64 i))],[])) he (Za []) ?_
 rintro⟨sum,i⟩ _ he
 refine Zh he (fun he=>?_) fun he=>?_
 ·exact Zyo
 ·exact Z5
def Zid:Con:=fun
  |[.agg [.imm (.int .i64) m_0,.imm (.pair (.int .i64) (.pair (.sl (.int .i64)) (.pair (.sl (.int .i64)) (.pair (.int .i64) (.sl (.sl (.int .i64))))))) m_1],.c (.imm (.int .i64) coefs),.c (.int .i64 most)],[]=>.opt _ (ZeF (m_0,m_1) coefs most) (fun r=>.ret (.tup [.agg [.own 901 false,.int .i64 r.2.1],.c (.bool r.1)]) [(900,.rc [.own 901 false,.int .i64 r.2.1]),(901,.sl 155 y6_ r.2.2 .shallow)])
  |_,_=>.fail
def Ztg:Cfg:={ y:=tys,n:=63,h:=0,tab:=[(56,Ziz),(71,Ze7),(127,Zb7),(128,Zd7),(129,Zk5)],cut:=[13],sched:=[(10,(ZF [0,1,2,3,4,5,6,7,9,10] (.alt 8 (.alt 11 (.alt 12 (.alt 13 (.alt 14 (.first 15 .done) .stop) .stop) .stop) .stop) .stop)))] }
theorem Zu2 {P:Prop} (h:P:=by
  exact Zv [(6,[900]),(7,[])] (Zj he :) (Za [(900,6)])):P:=h
theorem Zts:Zn Tryz.prog 59 Zid:=by
 refine Zp (C:=Ztg) Tryz.f59 (Zk Zq4 (Zk Zjk (Zk ZcF (Zk ZgW (Zk Zrw Zq))))) fun _ a b k he=>?_
 unfold Zid at he;split at he;rotate_left;exact he.elim
 rename_i m_0 m_1 coefs most
 refine Zs he fun he=>?_
 refine Zi he fun r1_ he=>?_
 refine ZI he (fun he=>?_) fun he=>?_
 ·refine Zi he fun r2_ he=>?_
  refine ZI he (fun he=>?_) fun he=>?_
  ·refine Zi he fun r3_ he=>?_
   refine Zh he (fun he=>?_) fun he=>?_
   ·exact Zu2
   ·refine ZL (Zhq most) (fun terms3=>(Zm [(2,.c (.int .i64 most)),(6,.c (.ptr 10003000 0)),(8,.c (.own 10003001 false))],[(10003000,.rc [.nil,.int .i64 (0:Int)]),(10003001,.sl 155 y6_ terms3 .shallow)])) he ?_ ?_
    ·rintro terms3 he
     refine Zg he fun he=>?_
     refine Zi he fun r9_ he=>?_
     exact Zv [(6,[900]),(7,[])] (Zj he :) (Za [(900,10003000),(901,61901)])
    ·skip
     refine Zo (ZeT (m_0,m_1) coefs most) (fun (i,terms1)=>(Zm [(1,.c (.imm y0_ coefs)),(2,.c (.int .i64 most)),(3,.c (.ptr 10000000 0)),(6,.c (.ptr 10000001 0)),(8,.c (.own 10000002 false)),(28,.c (.imm y0_ (m_0,m_1).1)),(29,.c (.int .i64 ((m_0,m_1).1.length:Int))),(30,.c (.int .i64 i))],[(10000000,.rc [.imm y0_ (m_0,m_1).1,.imm y5_ (m_0,m_1).2]),(10000001,.rc [.nil,.int .i64 (0:Int)]),(10000002,.sl 155 y6_ terms1 .shallow)])) he (Za [(10000000,3),(10000001,6)]) ?_
     rintro⟨i,terms1⟩ _ he
     refine Zh he (fun he=>?_) fun he=>?_
     ·refine Zg he fun he=>?_
      refine Zg he fun he=>?_
      refine Zo (ZeU (m_0,m_1) coefs i) (fun (i2,terms2)=>(Zm [(1,.c (.imm y0_ coefs)),(2,.c (.int .i64 most)),(3,.c (.ptr 10002000 0)),(6,.c (.ptr 10002001 0)),(8,.c (.own 10002002 false)),(9,.c (.int .i64 i)),(28,.c (.imm y0_ (m_0,m_1).1)),(29,.c (.int .i64 ((m_0,m_1).1.length:Int))),(30,.c (.int .i64 i)),(36,.c (.int .i64 (((m_0,m_1).1.getD i.toNat 0)+(1:Int)))),(37,.c (.int .i64 i2))],[(10002000,.rc [.imm y0_ (m_0,m_1).1,.imm y5_ (m_0,m_1).2]),(10002001,.rc [.nil,.int .i64 (0:Int)]),(10002002,.sl 155 y6_ terms2 .shallow)])) he (Za [(10002000,10000000),(10002001,10000001),(10002002,10000002)]) ?_
      rintro⟨i2,terms2⟩ _ he
      refine Zh he (fun he=>?_) fun he=>?_
      ·refine And.intro (by kernel_rfl) ?_
       refine Zg he fun he=>?_
       refine Zg he fun he=>?_
       refine Zg he fun he=>?_
       refine Y4 ?_
       refine Y4 ?_
       refine Zi he fun r8_ he=>?_
       refine Y4 ?_
       refine Y4 ?_
       refine Y4 ?_
       refine Zg he fun he=>?_
       exact ZKc
      ·refine Zg he fun he=>?_
       exact⟨_,(Zj he :),(Za [(10000000,10002000),(10000001,10002001),(10000002,10002002)])⟩
     ·exact⟨_,(Zbh he :),(Za [(10003000,10000001),(10003001,10000002)])⟩
  ·exact Zu2
 ·exact Zu2
def Zli:Con:=fun
  |[.agg [.imm (.int .i64) a0_0,.imm (.pair (.int .i64) (.pair (.sl (.int .i64)) (.pair (.sl (.int .i64)) (.pair (.int .i64) (.sl (.sl (.int .i64))))))) a0_1],.c (.imm (.int .i64) a1),.c (.int .i64 a2)],[]=>.opt _ (Zgy (a0_0,a0_1) a1 a2) (fun r=>.ret (.tup [.c (.int .i64 r.1),.c (.own 900 false),.c (.own 901 false)]) [(900,.sl 3 y0_ r.2.1 .shallow),(901,.sl 96 Zcb r.2.2 (.deep true .no))])
  |_,_=>.fail
def Znd:Sched:=.alt 11 (.first 12 .done) .stop
def ZiT:Sched:=.alt 6 (ZF [7,8,9] Znd) .stop
def Zne:Sched:=.alt 6 (ZF [7,8,9] (.alt 10 Znd .stop)) (.alt 10 ZiT .stop)
def Znf:Sched:=.alt 4 (.first 5 ZiT) .stop
def Zng:Sched:=.alt 0 ZiT .stop
def Znh:Sched:=.alt 4 (.first 5 .done) .stop
def Zni:Sched:=.alt 3 Znh .stop
def Zwt:Cfg:={ y:=tys,n:=82,h:=0,tab:=[(44,Zlk),(55,ZpO),(56,Ziz),(57,ZnG),(58,Zle),(59,Zid),(60,ZpP),(61,Zb2)],cut:=[15],good:=[61],sched:=[(14,(ZF [1,2,3] (.alt 0 (.alt 4 (.first 5 Zne) (.alt 10 Znf .stop)) (.alt 4 (.first 5 (.alt 0 Zne (.alt 10 Zng .stop))) (.alt 10 (.alt 0 Znf (.alt 4 (.first 5 Zng) .stop)) .stop))))),(15,(.first 0 (.alt 1 (.alt 2 Zni .stop) (.alt 2 (.alt 1 Zni (.alt 3 (.alt 1 Znh .stop) .stop)) .stop))))] }
theorem ZKo {P:Prop} (h:P:=by
  exact Zv [(6,[]),(7,[]),(8,[])] (Zj he :) (Za [(900,10000001),(901,41901)])):P:=h
theorem ZKp {P:Prop} (h:P:=by
  exact Zv [(6,[]),(7,[]),(8,[])] (Zj he :) (Za [(900,10000001)])):P:=h
theorem ZGg {P:Prop} (h:P:=by
  refine Y4 ?_
  refine And.intro hq2 ?_
  obtain⟨hne0,he⟩:=ZO he
  exact⟨_,(Zj he :),((Zf2 [81]).trans (Zdp [(10000000,10002000),(10000001,10002001)] (l:=[(1,.c (.imm y0_ a1)),(2,.c (.int .i64 a2)),(3,.c (.ptr 10000000 0)),(9,.c (.imm y7_ r1_.2)),(11,.c (.own 10000001 true)),(12,.c (.imm y7_ (r16_++[(i_01,i_11)])))]) (st':=[(10000000,.rc [.imm y0_ (a0_0,a0_1).1,.imm y5_ (a0_0,a0_1).2]),(10000001,.sl 3 y0_ r13_.2 .shallow)]) rfl rfl ⟨⟨.inl rfl,.inl rfl,Y1⟩,Y2,Y1⟩ ⟨.inl rfl,rfl,⟨Y2,rfl⟩,.inl rfl,⟨Y2,hne0⟩,.inr (.inr ⟨_,_,_,rfl,rfl⟩),Y1⟩))⟩):P:=h
theorem ZKq {P:Prop} (h:P:=by
  refine Y4 ?_
  exact⟨_,he,(Za [(10002000,10000000),(10002001,65900),(10002002,16),(10002003,75901)])⟩):P:=h
theorem ZBz {P:Prop} (h:P:=by
  refine Y4 ?_
  refine⟨r15_,hq3,?_⟩
  exact ZKq):P:=h
theorem ZKr {P:Prop} (h:P:=by
  refine Y5 ?_ ?_
  ·skip
   refine⟨r15_,hq3,?_⟩
   refine Y4 ?_
   exact ZKq
  ·skip
   exact ZBz):P:=h
theorem ZKs {P:Prop} (h:P:=by
  skip
  refine Y4 ?_
  refine⟨r14_,hq1,?_⟩
  refine And.intro hq2 ?_
  exact ZBz):P:=h
theorem ZGh {P:Prop} (h:P:=by
  refine Y4 ?_
  refine And.intro hq2 ?_
  obtain⟨hne0,he⟩:=ZO he
  exact⟨_,(Zj he :),((Zf2 [81]).trans (Zdp [(10000000,10003000),(10000001,10003001)] (l:=[(1,.c (.imm y0_ a1)),(2,.c (.int .i64 a2)),(3,.c (.ptr 10000000 0)),(9,.c (.imm y7_ r1_.2)),(11,.c (.own 10000001 true)),(12,.c (.imm y7_ (r20_++[(i_02,i_12)])))]) (st':=[(10000000,.rc [.imm y0_ (a0_0,a0_1).1,.imm y5_ (a0_0,a0_1).2]),(10000001,.sl 3 y0_ r17_.2 .shallow)]) rfl rfl ⟨⟨.inl rfl,.inl rfl,Y1⟩,Y2,Y1⟩ ⟨.inl rfl,rfl,⟨Y2,rfl⟩,.inl rfl,⟨Y2,hne0⟩,.inr (.inr ⟨_,_,_,rfl,rfl⟩),Y1⟩))⟩):P:=h
theorem ZKt {P:Prop} (h:P:=by
  refine Y4 ?_
  exact⟨_,he,(Za [(10003000,10000000),(10003001,65900),(10003002,16),(10003003,75901)])⟩):P:=h
theorem ZBA {P:Prop} (h:P:=by
  refine Y4 ?_
  refine⟨r19_,hq3,?_⟩
  exact ZKt):P:=h
theorem ZKu {P:Prop} (h:P:=by
  refine Y5 ?_ ?_
  ·skip
   refine⟨r19_,hq3,?_⟩
   refine Y4 ?_
   exact ZKt
  ·skip
   exact ZBA):P:=h
theorem ZKv {P:Prop} (h:P:=by
  skip
  refine Y4 ?_
  refine⟨r18_,hq1,?_⟩
  refine And.intro hq2 ?_
  exact ZBA):P:=h
theorem ZwH:Zn Tryz.prog 12 Zli:=by
 refine Zp (C:=Zwt) Tryz.f12 (Zk ZwJ (Zk ZB4 (Zk Zq4 (Zk Zwf (Zk ZwD (Zk Zts (Zk ZB5 (Zk ZdS Zq)))))))) fun _ a b k he=>?_
 unfold Zli at he;split at he;rotate_left;exact he.elim
 rename_i a0_0 a0_1 a1 a2
 refine Zs he fun he=>?_
 refine Zi he fun r1_ he=>?_
 refine ZI he (fun he=>?_) fun he=>?_
 ·refine Zi he fun r2_ he=>?_
  refine ZI he (fun he=>?_) fun he=>?_
  ·refine Zi he fun r3_ he=>?_
   refine Zh he (fun he=>?_) fun he=>?_
   ·exact Zv [(6,[]),(7,[]),(8,[])] (Zj he :) (Za [])
   ·refine Zo (ZbF (a0_0,a0_1) a1 a2 r1_) (fun (i,i1)=>(Zm [(1,.c (.imm y0_ a1)),(2,.c (.int .i64 a2)),(3,.c (.ptr 10000000 0)),(9,.c (.imm y7_ r1_.2)),(11,.c (.own 10000001 true)),(12,.c (.imm y7_ i))],[(10000000,.rc [.imm y0_ (a0_0,a0_1).1,.imm y5_ (a0_0,a0_1).2]),(10000001,.sl 3 y0_ i1 .shallow)])) he ((Zf2 [21900]).trans (Za [(10000000,3)] (l:=[(1,.c (.imm y0_ a1)),(2,.c (.int .i64 a2)),(3,.c (.ptr 10000000 0)),(9,.c (.imm y7_ r1_.2)),(11,.c (.own 10000001 true)),(12,.c (.imm y7_ r1_.2))]) (st':=[(10000000,.rc [.imm y0_ (a0_0,a0_1).1,.imm y5_ (a0_0,a0_1).2]),(10000001,.sl 3 y0_ ([]:List Int) .shallow)]))) ?_
    rintro⟨i,i1⟩ _ he
    refine Zi he fun r12_ he=>?_
    refine Zh he (fun he=>?_) fun he=>?_
    ·refine Zh he (fun he=>?_) fun he=>?_
     ·exact Zv [(6,[]),(7,[]),(8,[])] (Zj he :) (Za [(901,41901)])
     ·refine Zh he (fun he=>?_) fun he=>?_
      ·exact ZKo
      ·refine Zh he (fun he=>?_) fun he=>?_
       ·exact ZKp
       ·refine Zi he fun r13_ he=>?_
        refine ZL (Zpa r1_ r13_) (fun (i_11,i_01)=>(Zm [(1,.c (.imm y0_ a1)),(2,.c (.int .i64 a2)),(3,.c (.ptr 10002000 0)),(9,.c (.imm y7_ r1_.2)),(11,.c (.own 10002001 false)),(16,.c (.ptr 10002002 0))],[(10002000,.rc [.imm y0_ (a0_0,a0_1).1,.imm y5_ (a0_0,a0_1).2]),(10002001,.sl 3 y0_ r13_.2 .shallow),(10002002,.rc [.own 10002003 false,.int .i64 i_11]),(10002003,.sl 155 y6_ i_01 .shallow)])) he ?_ ?_
        ·rintro⟨i_11,i_01⟩ he
         refine And.intro (by kernel_rfl) ?_
         obtain⟨r16_,hq1,he⟩:=Z6 he
         obtain⟨hq2,he⟩:=ZO he
         refine Y5 ?_ ?_
         ·skip
          refine⟨r16_,hq1,?_⟩
          refine Y4 ?_
          refine Y4 ?_
          exact ZGg
         ·skip
          refine Y5 ?_ ?_
          ·skip
           refine⟨r16_,hq1,?_⟩
           refine Y4 ?_
           exact ZGg
          ·skip
           refine Y4 ?_
           refine⟨r16_,hq1,?_⟩
           exact ZGg
        ·skip
         refine And.intro (by kernel_rfl) ?_
         obtain⟨r14_,hq1,he⟩:=Z6 he
         obtain⟨hq2,he⟩:=ZO he
         obtain⟨r15_,hq3,he⟩:=Z6 he
         refine And.intro ?_ (And.intro ?_ (And.intro ?_ (Y1)))
         ·skip
          refine Y5 ?_ ?_
          ·skip
           refine⟨r14_,hq1,?_⟩
           refine And.intro hq2 ?_
           exact ZKr
          ·exact ZKs
         ·skip
          refine⟨r14_,hq1,?_⟩
          refine And.intro hq2 ?_
          refine Y5 ?_ ?_
          ·skip
           exact ZKr
          ·skip
           refine Y4 ?_
           exact ZBz
         ·skip
          refine Y5 ?_ ?_
          ·exact ZKs
          ·skip
           refine⟨r14_,hq1,?_⟩
           refine And.intro hq2 ?_
           refine Y4 ?_
           exact ZBz
    ·refine Zh he (fun he=>?_) fun he=>?_
     ·exact ZKo
     ·refine Zh he (fun he=>?_) fun he=>?_
      ·exact ZKp
      ·refine Zi he fun r17_ he=>?_
       refine ZL (Zks r1_ r17_) (fun (i_12,i_02)=>(Zm [(1,.c (.imm y0_ a1)),(2,.c (.int .i64 a2)),(3,.c (.ptr 10003000 0)),(9,.c (.imm y7_ r1_.2)),(11,.c (.own 10003001 false)),(16,.c (.ptr 10003002 0))],[(10003000,.rc [.imm y0_ (a0_0,a0_1).1,.imm y5_ (a0_0,a0_1).2]),(10003001,.sl 3 y0_ r17_.2 .shallow),(10003002,.rc [.own 10003003 false,.int .i64 i_12]),(10003003,.sl 155 y6_ i_02 .shallow)])) he ?_ ?_
       ·rintro⟨i_12,i_02⟩ he
        refine And.intro (by kernel_rfl) ?_
        obtain⟨r20_,hq1,he⟩:=Z6 he
        obtain⟨hq2,he⟩:=ZO he
        refine Y5 ?_ ?_
        ·skip
         refine⟨r20_,hq1,?_⟩
         refine Y4 ?_
         refine Y4 ?_
         exact ZGh
        ·skip
         refine Y5 ?_ ?_
         ·skip
          refine⟨r20_,hq1,?_⟩
          refine Y4 ?_
          exact ZGh
         ·skip
          refine Y4 ?_
          refine⟨r20_,hq1,?_⟩
          exact ZGh
       ·skip
        refine And.intro (by kernel_rfl) ?_
        obtain⟨r18_,hq1,he⟩:=Z6 he
        obtain⟨hq2,he⟩:=ZO he
        obtain⟨r19_,hq3,he⟩:=Z6 he
        refine And.intro ?_ (And.intro ?_ (And.intro ?_ (Y1)))
        ·skip
         refine Y5 ?_ ?_
         ·skip
          refine⟨r18_,hq1,?_⟩
          refine And.intro hq2 ?_
          exact ZKu
         ·exact ZKv
        ·skip
         refine⟨r18_,hq1,?_⟩
         refine And.intro hq2 ?_
         refine Y5 ?_ ?_
         ·skip
          exact ZKu
         ·skip
          refine Y4 ?_
          exact ZBA
        ·skip
         refine Y5 ?_ ?_
         ·exact ZKv
         ·skip
          refine⟨r18_,hq1,?_⟩
          refine And.intro hq2 ?_
          refine Y4 ?_
          exact ZBA
  ·exact Zv [(6,[]),(7,[]),(8,[])] (Zj he :) (Za [])
 ·exact Zv [(6,[]),(7,[]),(8,[])] (Zj he :) (Za [])
def Zro:Con:=fun
  |[.agg [.imm (.int .i64) m_0,.imm (.pair (.int .i64) (.pair (.sl (.int .i64)) (.pair (.sl (.int .i64)) (.pair (.int .i64) (.sl (.sl (.int .i64))))))) m_1],.c (.imm (.int .i64) list_)],[]=>.opt _ (Zqp (m_0,m_1) list_) (fun r=>.ret (.c (.bool r)) [])
  |_,_=>.fail
def ZDA:Cfg:={ y:=tys,n:=45,h:=0,tab:=[] }
theorem ZKw {P:Prop} (h:P:=by
  refine And.intro (by kernel_rfl) ?_
  refine Zg he fun he=>?_
  refine Zg he fun he=>?_
  exact ZF6):P:=h
theorem ZDO:Zn Tryz.prog 243 Zro:=by
 refine Zp (C:=ZDA) Tryz.f243 Zq fun _ a b k he=>?_
 unfold Zro at he;split at he;rotate_left;exact he.elim
 rename_i m_0 m_1 list_
 refine Zs he fun he=>?_
 refine Zo (ZmW (m_0,m_1) list_) (fun i=>(Zm [(1,.c (.imm y0_ list_)),(2,.c (.ptr 10000000 0)),(5,.c (.int .i64 i))],[(10000000,.rc [.imm y0_ (m_0,m_1).1,.imm y5_ (m_0,m_1).2])])) he (Za [(10000000,2)]) ?_
 rintro i _ he
 refine Zh he (fun he=>?_) fun he=>?_
 ·refine And.intro (by kernel_rfl) ?_
  refine Zg he fun he=>?_
  refine ZI he (fun he=>?_) fun he=>?_
  ·refine Zg he fun he=>?_
   refine Zh he (fun he=>?_) fun he=>?_
   ·exact Zbg
   ·refine Zo (ZjU list_ i) (fun k_=>(Zm [(1,.c (.imm y0_ list_)),(2,.c (.ptr 10001000 0)),(5,.c (.int .i64 i)),(6,.c (.int .i64 k_))],[(10001000,.rc [.imm y0_ (m_0,m_1).1,.imm y5_ (m_0,m_1).2])])) he (Za [(10001000,10000000)]) ?_
    rintro k_ _ he
    refine Zh he (fun he=>?_) fun he=>?_
    ·exact ZKw
    ·refine Zg he fun he=>?_
     exact⟨_,(Zj he :),(Za [(10000000,10001000)])⟩
  ·exact Zbg
 ·exact Zbg
def Zo2:Con:=fun
  |[.agg [.int .i64 r__0,.imm (.int .i64) r__1,.imm (.int .i64) r__2,.int .i64 r__3,.imm (.sl (.int .i64)) r__4]],[]=>.opt _ (ZnP (r__0,(r__1,(r__2,(r__3,r__4))))) (fun r=>.ret (.c (.bool r)) [])
  |_,_=>.fail
def ZAj:Cfg:={ y:=tys,n:=50,h:=0,tab:=[] }
theorem Zu3 {P:Prop} (h:P:=by
  refine Zh he (fun he=>?_) fun he=>?_
  ·exact ZN
  ·exact Zdy):P:=h
theorem ZKx {P:Prop} (h:P:=by
  refine Zh he (fun he=>?_) fun he=>?_
  ·exact ZN
  ·exact ZN):P:=h
theorem ZAJ:Zn Tryz.prog 244 Zo2:=by
 refine Zp (C:=ZAj) Tryz.f244 Zq fun _ a b k he=>?_
 unfold Zo2 at he;split at he;rotate_left;exact he.elim
 rename_i r__0 r__1 r__2 r__3 r__4
 refine Zs he fun he=>?_
 refine Zo (ZkM (r__0,(r__1,(r__2,(r__3,r__4))))) (fun i=>(Zm [(1,.c (.ptr 10000000 0)),(3,.c (.int .i64 i))],[(10000000,.rc [.int .i64 (r__0,(r__1,(r__2,(r__3,r__4)))).1,.imm y0_ (r__0,(r__1,(r__2,(r__3,r__4)))).2.1,.imm y0_ (r__0,(r__1,(r__2,(r__3,r__4)))).2.2.1,.int .i64 (r__0,(r__1,(r__2,(r__3,r__4)))).2.2.2.1,.imm (.sl y0_) (r__0,(r__1,(r__2,(r__3,r__4)))).2.2.2.2])])) he (Za [(10000000,1)]) ?_
 rintro i _ he
 refine Zh he (fun he=>?_) fun he=>?_
 ·refine Zg he fun he=>?_
  refine ZI he (fun he=>?_) fun he=>?_
  ·refine Zg he fun he=>?_
   refine ZI he (fun he=>?_) fun he=>?_
   ·refine Zg he fun he=>?_
    exact Zu3
   ·exact ZN
  ·exact ZN
 ·refine Zh he (fun he=>?_) fun he=>?_
  ·exact ZKx
  ·exact ZN
def ZpT:Con:=fun
  |[.agg [.int .i64 r__0,.imm (.int .i64) r__1,.imm (.int .i64) r__2,.int .i64 r__3,.imm (.sl (.int .i64)) r__4]],[]=>.opt _ (Zps (r__0,(r__1,(r__2,(r__3,r__4))))) (fun r=>.ret (.c (.bool r)) [])
  |_,_=>.fail
def ZBM:Cfg:={ y:=tys,n:=56,h:=0,tab:=[] }
theorem ZB9:Zn Tryz.prog 245 ZpT:=by
 refine Zp (C:=ZBM) Tryz.f245 Zq fun _ a b k he=>?_
 unfold ZpT at he;split at he;rotate_left;exact he.elim
 rename_i r__0 r__1 r__2 r__3 r__4
 refine Zs he fun he=>?_
 refine Zo (ZlU (r__0,(r__1,(r__2,(r__3,r__4))))) (fun i=>(Zm [(1,.c (.ptr 10000000 0)),(3,.c (.int .i64 i))],[(10000000,.rc [.int .i64 (r__0,(r__1,(r__2,(r__3,r__4)))).1,.imm y0_ (r__0,(r__1,(r__2,(r__3,r__4)))).2.1,.imm y0_ (r__0,(r__1,(r__2,(r__3,r__4)))).2.2.1,.int .i64 (r__0,(r__1,(r__2,(r__3,r__4)))).2.2.2.1,.imm (.sl y0_) (r__0,(r__1,(r__2,(r__3,r__4)))).2.2.2.2])])) he (Za [(10000000,1)]) ?_
 rintro i _ he
 refine Zh he (fun he=>?_) fun he=>?_
 ·refine And.intro (by kernel_rfl) ?_
  refine Zg he fun he=>?_
  refine Zh he (fun he=>?_) fun he=>?_
  ·exact ZN
  ·refine Zo (ZiR (r__0,(r__1,(r__2,(r__3,r__4)))) i) (fun k_=>(Zm [(1,.c (.ptr 10001000 0)),(3,.c (.int .i64 i)),(4,.c (.int .i64 k_))],[(10001000,.rc [.int .i64 (r__0,(r__1,(r__2,(r__3,r__4)))).1,.imm y0_ (r__0,(r__1,(r__2,(r__3,r__4)))).2.1,.imm y0_ (r__0,(r__1,(r__2,(r__3,r__4)))).2.2.1,.int .i64 (r__0,(r__1,(r__2,(r__3,r__4)))).2.2.2.1,.imm (.sl y0_) (r__0,(r__1,(r__2,(r__3,r__4)))).2.2.2.2])])) he (Za [(10001000,10000000)]) ?_
   rintro k_ _ he
   refine Zg he fun he=>?_
   refine Zh he (fun he=>?_) fun he=>?_
   ·refine Zg he fun he=>?_
    refine Zg he fun he=>?_
    refine ZI he (fun he=>?_) fun he=>?_
    ·refine Zg he fun he=>?_
     refine Zg he fun he=>?_
     exact Zu3
    ·exact ZN
   ·refine Zg he fun he=>?_
    exact⟨_,(Zj he :),(Za [(10000000,10001000)])⟩
 ·exact ZN
end
end Go.AE.Y
