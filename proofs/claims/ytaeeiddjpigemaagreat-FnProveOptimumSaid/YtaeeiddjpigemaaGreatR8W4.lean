/-
  Walks: each function keeps the contract that its model gives. No conditions.
-/
import Derived.Test.YtaeeiddjpigemaaGreatR8Tab
import Derived.Test.YtaeeiddjpigemaaGreatR8W3
import Derived.Test.YtaeeiddjpigemaaGreatR8S
namespace Go.AE.Y
open Go Go.AE Go.Proofs
set_option linter.unusedVariables false
set_option maxHeartbeats 2000000
set_option maxRecDepth 100000
noncomputable section
def Zh9:Con:=fun
  |[.c (.imm (.pair (.sl (.pair (.int .i64) (.int .i64))) (.int .i64)) list_)],[]=>.opt _ (ZgO list_) (fun r=>.ret (.c (.bool r)) [])
  |_,_=>.fail
def Zxk:Cfg:={ y:=tys,n:=10,h:=0,tab:=[(159,ZpI)] }
theorem Zqq:Zn Tryz.prog 98 Zh9:=by
 refine Zq (C:=Zxk) Tryz.f98 (Zk ZBC Zr) fun _ a b k he=>?_
 unfold Zh9 at he;split at he;rotate_left;exact he.elim
 rename_i list_
 refine Zs he fun he=>?_
 refine Zh he (fun he=>?_) fun he=>?_
 ·exact ZHb
 ·exact Z5
def ZbI:Con:=fun
  |[.c (.imm (.pair (.sl (.pair (.int .i64) (.int .i64))) (.int .i64)) s_)],[]=>.opt _ (Zbi s_) (fun r=>.ret (.c (.own 900 false)) [(900,.sl 89 y7_ r .shallow)])
  |_,_=>.fail
def ZpB:Cfg:={ y:=tys,n:=8,h:=0,tab:=[] }
theorem ZcU:Zn Tryz.prog 61 ZbI:=by
 refine Zq (C:=ZpB) Tryz.f61 Zr fun _ a b k he=>?_
 unfold ZbI at he;split at he;rotate_left;exact he.elim
 rename_i s_
 refine Zs he fun he=>?_
 refine fun b1_ hb1_=>?_
 have he:=ZJN he hb1_
 refine And.intro (fun hb=>?_) (fun hb=>?_)
 ·have he:=ZGv he hb
  exact ZL
 ·have he:=ZGu he hb
  refine Zg he fun he=>?_
  exact Zt [(2,[])] (Zj he :) (Za [(900,7)])
def ZpK:Con:=fun
  |[.c (.int .i64 l),.c (.imm (.int .i64) p)],[]=>.opt _ (ZpZ l p) (fun r=>.ret (.c (.int .i64 r)) [])
  |_,_=>.fail
def ZFj:Cfg:={ y:=tys,n:=19,h:=0,tab:=[] }
theorem ZHj {P:Prop} (h:P:=by
  refine Zg he fun he=>?_
  exact ZCr):P:=h
theorem ZLt {P:Prop} (h:P:=by
  refine Zg he fun he=>?_
  refine Zg he fun he=>?_
  exact ZHj):P:=h
theorem Zyp:Zn Tryz.prog 258 ZpK:=by
 refine Zq (C:=ZFj) Tryz.f258 Zr fun _ a b k he=>?_
 unfold ZpK at he;split at he;rotate_left;exact he.elim
 rename_i l p
 refine Zs he fun he=>?_
 refine Zh he (fun he=>?_) fun he=>?_
 ·exact ZLt
 ·exact ZHj
def Zfq:Con:=fun
  |[.agg [.imm (.pair (.int .i64) (.int .i64)) c__0,.int .i64 c__1],.c (.imm (.int .i64) p)],[]=>.opt _ (ZeV (c__0,c__1) p) (fun r=>.ret (.c (.int .i64 r)) [])
  |_,_=>.fail
def ZtT:Cfg:={ y:=tys,n:=29,h:=0,tab:=[(258,ZpK)] }
theorem ZLu {P:Prop} (h:P:=by
  refine Zh he (fun he=>?_) fun he=>?_
  ·exact ZCy
  ·exact ZdH):P:=h
theorem ZnJ:Zn Tryz.prog 233 Zfq:=by
 refine Zq (C:=ZtT) Tryz.f233 (Zk Zyp Zr) fun _ a b k he=>?_
 unfold Zfq at he;split at he;rotate_left;exact he.elim
 rename_i c__0 c__1 p
 refine Zs he fun he=>?_
 refine Zg he fun he=>?_
 refine Zp (Zfb (c__0,c__1) p) (fun (out,i)=>(Zm [(1,.c (.imm y0_ p)),(5,.c (.int .i64 out)),(12,.c (.imm y6_ (c__0,c__1).1)),(13,.c (.int .i64 ((c__0,c__1).1.length:Int))),(14,.c (.int .i64 i))],[])) he (Za []) ?_
 rintro⟨out,i⟩ _ he
 refine Zh he (fun he=>?_) fun he=>?_
 ·refine Zg he fun he=>?_
  refine Zi he fun r1_ he=>?_
  exact ZLu
 ·exact Z5
def Zg2:Con:=fun
  |[.agg [.imm (.pair (.int .i64) (.int .i64)) c__0,.int .i64 c__1],.c (.imm (.int .i64) p)],[]=>.opt _ (Zcg (c__0,c__1) p) (fun r=>.ret (.c (.own 900 false)) [(900,.sl 3 y0_ r .shallow)])
  |_,_=>.fail
def Zsw:Cfg:={ y:=tys,n:=37,h:=0,tab:=[(233,Zfq),(258,ZpK)] }
theorem ZsH:Zn Tryz.prog 234 Zg2:=by
 refine Zq (C:=Zsw) Tryz.f234 (Zk ZnJ (Zk Zyp Zr)) fun _ a b k he=>?_
 unfold Zg2 at he;split at he;rotate_left;exact he.elim
 rename_i c__0 c__1 p
 refine Zs he fun he=>?_
 refine Zi he fun r1_ he=>?_
 refine Zp (Zce (c__0,c__1) p r1_) (fun (i,out)=>(Zm [(1,.c (.imm y0_ p)),(5,.c (.int .i64 r1_)),(6,.c (.own 10000000 false)),(13,.c (.imm y6_ (c__0,c__1).1)),(14,.c (.int .i64 ((c__0,c__1).1.length:Int))),(15,.c (.int .i64 i))],[(10000000,.sl 3 y0_ out .shallow)])) he (Za []) ?_
 rintro⟨i,out⟩ _ he
 refine Zh he (fun he=>?_) fun he=>?_
 ·refine Zg he fun he=>?_
  refine Zi he fun r3_ he=>?_
  refine Zh he (fun he=>?_) fun he=>?_
  ·refine Zh he (fun he=>?_) fun he=>?_
   ·refine Zg he fun he=>?_
    refine Zg he fun he=>?_
    exact⟨_,(Zj he :),(Za [(10000000,34)])⟩
   ·exact ZdH
  ·exact ZdH
 ·exact Zt [(4,[])] (Zj he :) (Za [(900,10000000)])
def ZhJ:Con:=fun
  |[.c (.imm (.pair (.sl (.pair (.int .i64) (.int .i64))) (.int .i64)) list_),.c (.imm (.int .i64) p)],[]=>.opt _ (ZbO list_ p) (fun r=>.ret (.tup [.c (.own 900 false),.c (.int .i64 r.1)]) [(900,.sl 3 y0_ r.2 .shallow)])
  |_,_=>.fail
def ZAn:Cfg:={ y:=tys,n:=50,h:=0,tab:=[(75,ZcP),(233,Zfq),(234,Zg2)] }
theorem ZoY:Zn Tryz.prog 171 ZhJ:=by
 refine Zq (C:=ZAn) Tryz.f171 (Zk Zeg (Zk ZnJ (Zk ZsH Zr))) fun _ a b k he=>?_
 unfold ZhJ at he;split at he;rotate_left;exact he.elim
 rename_i list_ p
 refine Zs he fun he=>?_
 refine Zi he fun r1_ he=>?_
 refine Zp (ZcH list_) (fun (made,out3)=>(Zm [(0,.c (.imm y7_ list_)),(6,.c (.own 10000000 false)),(7,.c (.bool made))],[(10000000,.sl 3 y0_ out3 .shallow)])) he (Za [(10000000,14900)]) ?_
 rintro⟨made,out3⟩ _ he
 refine Zh he (fun he=>?_) fun he=>?_
 ·refine Zp (ZbP list_) (fun (made4,i3,out5)=>(Zm [(0,.c (.imm y7_ list_)),(6,.c (.own 10004000 false)),(7,.c (.bool made4)),(15,.c (.imm y7_ list_)),(16,.c (.int .i64 (list_.length:Int))),(17,.c (.int .i64 i3))],[(10004000,.sl 3 y0_ out5 .shallow)])) he (Za [(10004000,10000000)]) ?_
  rintro⟨made4,i3,out5⟩ _ he
  refine Zh he (fun he=>?_) fun he=>?_
  ·refine Zg he fun he=>?_
   refine Zi he fun r8_ he=>?_
   refine Zh he (fun he=>?_) fun he=>?_
   ·exact Zt [(4,[]),(5,[])] (Zj he :) (Za [(900,10004000)])
   ·refine Zi he fun r9_ he=>?_
    refine Zp (ZcI i3 r9_) (fun (made6,i5,out6)=>(Zm [(0,.c (.imm y7_ list_)),(6,.c (.own 10006000 false)),(7,.c (.bool made6)),(15,.c (.imm y7_ list_)),(16,.c (.int .i64 (list_.length:Int))),(17,.c (.int .i64 i3)),(30,.c (.own 10006001 false)),(31,.c (.int .i64 (r9_.length:Int))),(32,.c (.int .i64 i5))],[(10006000,.sl 3 y0_ out6 .shallow),(10006001,.sl 3 y0_ r9_ .shallow)])) he (Za [(10006000,10004000),(10006001,31900)]) ?_
    rintro⟨made6,i5,out6⟩ _ he
    refine Zh he (fun he=>?_) fun he=>?_
    ·refine Zg he fun he=>?_
     refine Zh he (fun he=>?_) fun he=>?_
     ·exact ZvF
     ·exact ZtN
    ·refine Zg he fun he=>?_
     exact⟨_,(Zj he :),(Za [(10004000,10006000)])⟩
  ·exact⟨_,(Zj he :),(Za [(10000000,10004000)])⟩
 ·exact Zt [(4,[]),(5,[])] (Zj he :) (Za [(900,10000000)])
def Zmc:Con:=fun
  |[.c (.imm (.int .i64) p)],[]=>.opt _ (ZgE p) (fun r=>.ret (.tup [.c (.own 900 false),.c (.int .i64 r.1),.c (.bool r.2.1)]) [(900,.sl 4 .bool r.2.2 .shallow)])
  |_,_=>.fail
def ZBa:Cfg:={ y:=tys,n:=26,h:=0,tab:=[],cut:=[9] }
theorem Zus:Zn Tryz.prog 172 Zmc:=by
 refine Zq (C:=ZBa) Tryz.f172 Zr fun _ a b k he=>?_
 unfold Zmc at he;split at he;rotate_left;exact he.elim
 rename_i p
 refine Zs he fun he=>?_
 refine ZN (ZkY) (fun out1=>(Zm [(5,.c (.own 10001000 false))],[(10001000,.sl 4 .bool out1 .shallow)])) he ?_ ?_
 ·rintro out1 he
  exact Zt [(2,[]),(3,[]),(4,[])] (Zj he :) (Za [(900,10001000)])
 ·skip
  refine Zp (ZhT p) (fun (i,out)=>(Zm [(5,.c (.own 10000000 false)),(8,.c (.imm y0_ p)),(9,.c (.int .i64 (p.length:Int))),(10,.c (.int .i64 i))],[(10000000,.sl 4 .bool out .shallow)])) he (Za []) ?_
  rintro⟨i,out⟩ _ he
  refine Zh he (fun he=>?_) fun he=>?_
  ·refine Zg he fun he=>?_
   refine Zh he (fun he=>?_) fun he=>?_
   ·refine Zg he fun he=>?_
    exact Zt [(2,[]),(3,[]),(4,[])] (Zj he :) (Za [])
   ·refine Zg he fun he=>?_
    refine Zg he fun he=>?_
    exact⟨_,(Zj he :),(Za [(10000000,23)])⟩
  ·exact⟨_,(Zbp he :),(Za [(10001000,10000000)])⟩
def ZhL:Con:=fun
  |[.c (.imm (.pair (.int .i64) (.int .i64)) s_)],[]=>.opt _ (ZfX s_) (fun r=>.ret (.c (.own 900 false)) [(900,.sl 155 y6_ r .shallow)])
  |_,_=>.fail
def Zs6:Cfg:={ y:=tys,n:=8,h:=0,tab:=[] }
theorem Ztv:Zn Tryz.prog 224 ZhL:=by
 refine Zq (C:=Zs6) Tryz.f224 Zr fun _ a b k he=>?_
 unfold ZhL at he;split at he;rotate_left;exact he.elim
 rename_i s_
 refine Zs he fun he=>?_
 refine fun b1_ hb1_=>?_
 have he:=ZJN he hb1_
 refine And.intro (fun hb=>?_) (fun hb=>?_)
 ·have he:=ZGv he hb
  exact ZL
 ·have he:=ZGu he hb
  refine Zg he fun he=>?_
  exact Zt [(2,[])] (Zj he :) (Za [(900,7)])
def ZeT:Con:=fun
  |[.agg [.imm (.pair (.int .i64) (.int .i64)) c__0,.int .i64 c__1]],[]=>.opt _ (ZeG (c__0,c__1)) (fun r=>.ret (.agg [.own 901 false,.int .i64 r.1]) [(900,.rc [.own 901 false,.int .i64 r.1]),(901,.sl 155 y6_ r.2 .shallow)])
  |_,_=>.fail
def Zu0:Cfg:={ y:=tys,n:=8,h:=0,tab:=[(224,ZhL)] }
theorem Zka:Zn Tryz.prog 160 ZeT:=by
 refine Zq (C:=Zu0) Tryz.f160 (Zk Ztv Zr) fun _ a b k he=>?_
 unfold ZeT at he;split at he;rotate_left;exact he.elim
 rename_i c__0 c__1
 refine Zs he fun he=>?_
 refine Zi he fun r1_ he=>?_
 exact Zt [(2,[900])] (Zj he :) (Za [(900,2),(901,6900)])
def ZeL:Con:=fun
  |[.c (.ptr 0 0),.c (.imm (.int .i64) decisions)],[(0,.rc [.own 1 false,.int .i64 s_1,.own 2 false,.bool s_3]),(1,.sl 89 (.pair (.sl (.pair (.int .i64) (.int .i64))) (.int .i64)) o1 .shallow),(2,.sl 96 (.pair (.int .i64) (.pair (.int .i64) (.pair (.int .i64) (.pair (.sl (.pair (.int .i64) (.int .i64))) (.int .i64))))) o2 (.deep true .no))]=>.opt _ (ZcA decisions s_1 s_3 o1 o2) (fun r=>.ret (.tup []) [(0,.rc [.own 900 false,.int .i64 s_1,.own 901 false,.bool s_3]),(1,.dead),(2,.dead),(900,.sl 89 y7_ r.1 .shallow),(901,.sl 96 Zb7 r.2 (.deep true .no))])
  |_,_=>.fail
def Zjv:Sched:=.alt 7 (ZB [8,9] (.alt 10 .done .stop)) .stop
def Zjw:Sched:=.alt 6 Zjv .stop
def Zjx:Sched:=.alt 9 (ZB [10,11] (.alt 12 .done .stop)) .stop
def Zjy:Sched:=.alt 8 Zjx .stop
def Zjz:Sched:=.alt 7 Zjy .stop
def ZjA:Sched:=.alt 6 Zjz .stop
def ZrX:Cfg:={ y:=tys,n:=48,h:=3,tab:=[(119,ZiW),(160,ZeT)],cut:=[6,8],deep:=[44],sched:=[(7,(ZB [0,1,2,3] (.alt 4 (.alt 5 Zjw .stop) (.alt 5 (.alt 4 Zjw (.alt 6 (.alt 4 Zjv .stop) .stop)) .stop)))),(8,(ZB [0,1,2,3] (.alt 4 (.alt 5 ZjA .stop) (.alt 5 (.alt 4 ZjA (.alt 6 (.alt 4 Zjz (.alt 7 (.alt 4 Zjy (.alt 8 (.alt 4 Zjx .stop) .stop)) .stop)) .stop)) .stop))))] }
theorem ZCv {P:Prop} (h:P:=by
  refine Y4 ?_
  refine Y4 ?_
  refine And.intro hq2 ?_
  refine Y4 ?_
  exact Zt [] (Zj he :) (Za [(900,10002001),(901,45)] (l:=[]) (st':=[(0,.rc [.own 900 false,.int .i64 s_1,.own 901 false,.bool s_3]),(1,.dead),(2,.dead),(900,.sl 89 y7_ (o1++[(r1_.2.2,r1_.2.1)]) .shallow),(901,.sl 96 Zb7 (o2++[((7:Int),((0:Int),((0:Int),(r3_.2,r3_.1))))]) (.deep true .no))]))):P:=h
theorem ZLv {P:Prop} (h:P:=by
  refine Y4 ?_
  refine⟨r3_,hq1,?_⟩
  refine Y4 ?_
  exact ZCv):P:=h
theorem ZHk {P:Prop} (h:P:=by
  refine Y4 ?_
  refine Y4 ?_
  refine And.intro hq1 ?_
  refine Y4 ?_
  exact⟨_,he,(Za [(10002000,7),(10002001,33)])⟩):P:=h
theorem ZlF:Zn Tryz.prog 173 ZeL:=by
 refine Zq (C:=ZrX) Tryz.f173 (Zk Zp1 (Zk Zka Zr)) fun _ a b k he=>?_
 unfold ZeL at he;split at he;rotate_left;exact he.elim
 rename_i decisions s_1 s_3 o1 o2
 refine Zs he fun he=>?_
 refine ZN (ZeC o1 o2) (fun lits1=>(Zm [(0,.c (.ptr 0 0)),(4,.c (.own 10001000 false))],[(0,.rc [.own 1 false,.int .i64 s_1,.own 2 false,.bool s_3]),(1,.sl 89 y7_ o1 .shallow),(2,.sl 96 Zb7 o2 (.deep true .no)),(10001000,.sl 3 y0_ lits1 .shallow)])) he ?_ ?_
 ·rintro lits1 he
  refine Zi he fun r1_ he=>?_
  refine ZN (ZeD o1 o2 r1_) (fun _=>(Zm [(0,.c (.ptr 0 0)),(7,.c (.ptr 10002000 0))],[(0,.rc [.own 10002001 false,.int .i64 s_1,.own 2 false,.bool s_3]),(1,.dead),(2,.sl 96 Zb7 o2 (.deep true .no)),(10002000,.rc [.imm y6_ r1_.2.2,.int .i64 r1_.2.1]),(10002001,.sl 89 y7_ (o1++[(r1_.2.2,r1_.2.1)]) .shallow)])) he ?_ ?_
  ·rintro⟨⟩ he
   refine And.intro (by kernel_rfl) ?_
   obtain⟨r3_,hq1,he⟩:=ZX he
   obtain⟨hq2,he⟩:=ZP he
   refine Y5 ?_ ?_
   ·skip
    refine Y4 ?_
    exact ZLv
   ·skip
    refine Y5 ?_ ?_
    ·skip
     exact ZLv
    ·skip
     refine⟨r3_,hq1,?_⟩
     refine Y5 ?_ ?_
     ·skip
      refine Y4 ?_
      exact ZCv
     ·skip
      refine Y5 ?_ ?_
      ·skip
       exact ZCv
      ·skip
       exact ZCv
  ·skip
   refine And.intro (by kernel_rfl) ?_
   obtain⟨hq1,he⟩:=ZP he
   refine Y5 ?_ ?_
   ·skip
    refine Y4 ?_
    exact ZHk
   ·skip
    refine Y5 ?_ ?_
    ·skip
     exact ZHk
    ·skip
     exact ZHk
 ·skip
  refine Zp (ZbF decisions o1 o2) (fun (i,lits)=>(Zm [(0,.c (.ptr 0 0)),(4,.c (.own 10000000 false)),(9,.c (.imm y0_ decisions)),(10,.c (.int .i64 (decisions.length:Int))),(11,.c (.int .i64 i))],[(0,.rc [.own 1 false,.int .i64 s_1,.own 2 false,.bool s_3]),(1,.sl 89 y7_ o1 .shallow),(2,.sl 96 Zb7 o2 (.deep true .no)),(10000000,.sl 3 y0_ lits .shallow)])) he (Za []) ?_
  rintro⟨i,lits⟩ _ he
  refine Zh he (fun he=>?_) fun he=>?_
  ·refine Zg he fun he=>?_
   refine Zg he fun he=>?_
   refine Zg he fun he=>?_
   refine Zg he fun he=>?_
   exact⟨_,(Zj he :),(Za [(10000000,19)])⟩
  ·exact⟨_,(Zbp he :),(Za [(10001000,10000000)])⟩
def Zb0 (n_:Nat):Con:=fun
  |[.c (.ptr 0 0),.c (.imm (.int .i64) a1)],[(0,.rc [.own 1 false,.int .i64 o0_1,.own 2 false,.bool o0_3]),(1,.sl 89 (.pair (.sl (.pair (.int .i64) (.int .i64))) (.int .i64)) o1 .shallow),(2,.sl 96 (.pair (.int .i64) (.pair (.int .i64) (.pair (.int .i64) (.pair (.sl (.pair (.int .i64) (.int .i64))) (.int .i64))))) o2 (.deep true .no))]=>.opt _ (ZC n_ a1 o0_1 o0_3 o1 o2) (fun r=>.ret (.tup [.c (.own 900 false),.c (.bool r.1)]) [(0,.rc [.own 901 false,.int .i64 r.2.1,.own 902 false,.bool r.2.2.1]),(1,.dead),(2,.dead),(900,.sl 4 .bool r.2.2.2.1 .shallow),(901,.sl 89 y7_ r.2.2.2.2.1 .shallow),(902,.sl 96 Zb7 r.2.2.2.2.2 (.deep true .no))])
  |_,_=>.fail
def Zre (n_:Nat):Cfg:={ y:=tys,n:=120,h:=3,tab:=[(75,ZcP),(114,Zb0 n_),(170,Zew),(171,ZhJ),(172,Zmc),(173,ZeL)],cut:=[13,25,28] }
theorem ZLw {P:Prop} (h:P:=by
  exact Zt [(4,[]),(5,[])] (Zj he :) (Za [(901,1),(902,2)])):P:=h
theorem ZLx {P:Prop} (h:P:=by
  rintro⟨i_12,i_32,i_02,i_22⟩ he
  refine Zi he fun r9_ he=>?_
  exact Zt [(4,[]),(5,[])] (Zj he :) (Za [(901,120900),(902,120901)])):P:=h
theorem ZLy {P:Prop} (h:P:=by
  rintro⟨i_11,i_31,i_01,i_21⟩ he
  refine Zh he (fun he=>?_) fun he=>?_
  ·exact Zt [(4,[]),(5,[])] (Zj he :) (Za [(901,10003000),(902,10003001)])
  ·exact⟨_,he,(Za [(10004000,10003000),(10004001,10003001)])⟩):P:=h
theorem ZLz {P:Prop} (h:P:=by
  exact Zt [(4,[]),(5,[])] (Zj he :) (Za [(900,96900),(901,96901),(902,96902)])):P:=h
theorem ZLA {P:Prop} (h:P:=by
  rintro⟨i3,i_1,i_3,i_0,i_2⟩ _ he
  refine Zh he (fun he=>?_) fun he=>?_
  ·refine Zg he fun he=>?_
   refine Zi he fun r7_ he=>?_
   refine Zg he fun he=>?_
   refine Zi he fun r8_ he=>?_
   refine ZD he (fun he=>?_) fun he=>?_
   ·refine Zh he (fun he=>?_) fun he=>?_
    ·exact ZLz
    ·refine Zg he fun he=>?_
     exact⟨_,(Zj he :),(Za [(10002001,96901),(10002002,96902)])⟩
   ·exact ZLz
  ·exact⟨_,(Zbp he :),(Za [(10003000,10002001),(10003001,10002002)])⟩):P:=h
theorem ZLB {P:Prop} (h:P:=by
  rintro⟨i,i1⟩ _ he
  refine Zh he (fun he=>?_) fun he=>?_
  ·refine Zg he fun he=>?_
   refine Zi he fun r2_ he=>?_
   exact ZLn
  ·exact⟨_,(Zbp he :),(Za [(10001000,10000000)])⟩):P:=h
theorem Zo0 (n_:Nat) (ih:Zn Tryz.prog 114 (Zb0 n_)):Zn Tryz.prog 114 (Zb0 (n_+1)):=by
 refine Zq (C:=(Zre n_)) Tryz.f114 (Zk Zeg (Zk ih (Zk ZgS (Zk ZoY (Zk Zus (Zk ZlF Zr)))))) fun _ a b k he=>?_
 unfold Zb0 at he;split at he;rotate_left;exact he.elim
 rename_i a1 o0_1 o0_3 o1 o2
 have he:Ok (ZM (ZC n_) a1 o0_1 o0_3 o1 o2) (fun r=>k (.tup [.c (.own 900 false),.c (.bool r.1)]) [(0,.rc [.own 901 false,.int .i64 r.2.1,.own 902 false,.bool r.2.2.1]),(1,.dead),(2,.dead),(900,.sl 4 .bool r.2.2.2.1 .shallow),(901,.sl 89 y7_ r.2.2.2.2.1 .shallow),(902,.sl 96 Zb7 r.2.2.2.2.2 (.deep true .no))]):=he
 refine⟨rfl,rfl,?_⟩
 refine ZD he (fun he=>?_) fun he=>?_
 ·refine Zh he (fun he=>?_) fun he=>?_
  ·exact ZLw
  ·refine Zg he fun he=>?_
   refine Zg he fun he=>?_
   refine ZN (ZW a1 o0_1 o0_3 o1 o2 (ZC n_)) (fun i2=>(Zm [(0,.c (.ptr 0 0)),(1,.c (.imm y0_ a1)),(6,.c (.own 10001000 false))],[(0,.rc [.own 1 false,.int .i64 (o0_1 - (1:Int)),.own 2 false,.bool o0_3]),(1,.sl 89 y7_ o1 .shallow),(2,.sl 96 Zb7 o2 (.deep true .no)),(10001000,.sl 3 y0_ i2 .shallow)])) he ?_ ?_
   ·rintro i2 he
    refine Zi he fun r3_ he=>?_
    refine ZN (Zbg a1) (fun (i_12,i_32,i_02,i_22)=>(Zm [(0,.c (.ptr 0 0)),(1,.c (.imm y0_ a1))],[(0,.rc [.own 10004000 false,.int .i64 i_12,.own 10004001 false,.bool i_32]),(1,.dead),(2,.dead),(10004000,.sl 89 y7_ i_02 .shallow),(10004001,.sl 96 Zb7 i_22 (.deep true .no))])) he ?_ ?_
    ·exact ZLx
    ·skip
     refine Zh he (fun he=>?_) fun he=>?_
     ·refine Zi he fun r4_ he=>?_
      refine Zh he (fun he=>?_) fun he=>?_
      ·exact Zt [(4,[]),(5,[])] (Zj he :) (Za [(900,74900),(901,1),(902,2)])
      ·refine ZN (Zdl a1) (fun (i_11,i_31,i_01,i_21)=>(Zm [(0,.c (.ptr 0 0)),(1,.c (.imm y0_ a1))],[(0,.rc [.own 10003000 false,.int .i64 i_11,.own 10003001 false,.bool i_31]),(1,.dead),(2,.dead),(10003000,.sl 89 y7_ i_01 .shallow),(10003001,.sl 96 Zb7 i_21 (.deep true .no))])) he ?_ ?_
       ·exact ZLy
       ·skip
        refine Zg he fun he=>?_
        refine Zp (Zbz a1 r4_ (ZC n_)) (fun (i3,i_1,i_3,i_0,i_2)=>(Zm [(0,.c (.ptr 0 0)),(1,.c (.imm y0_ a1)),(82,.c (.own 10002000 false)),(83,.c (.int .i64 ([r4_.1,(0 - r4_.1)].length:Int))),(84,.c (.int .i64 i3))],[(0,.rc [.own 10002001 false,.int .i64 i_1,.own 10002002 false,.bool i_3]),(1,.dead),(2,.dead),(10002000,.sl 3 y0_ [r4_.1,(0 - r4_.1)] .shallow),(10002001,.sl 89 y7_ i_0 .shallow),(10002002,.sl 96 Zb7 i_2 (.deep true .no))])) he (Za [(10002000,82),(10002001,1),(10002002,2)]) ?_
        exact ZLA
     ·exact⟨_,he,(Za [(10004000,1),(10004001,2)])⟩
   ·skip
    refine Zp (Zbh a1 o0_1 o0_3 o1 o2 (ZC n_)) (fun (i,i1)=>(Zm [(0,.c (.ptr 0 0)),(1,.c (.imm y0_ a1)),(6,.c (.own 10000000 false)),(41,.c (.imm y0_ a1)),(42,.c (.int .i64 (a1.length:Int))),(43,.c (.int .i64 i))],[(0,.rc [.own 1 false,.int .i64 (o0_1 - (1:Int)),.own 2 false,.bool o0_3]),(1,.sl 89 y7_ o1 .shallow),(2,.sl 96 Zb7 o2 (.deep true .no)),(10000000,.sl 3 y0_ i1 .shallow)])) he (Za [(10000000,40)]) ?_
    exact ZLB
 ·exact ZLw
theorem ZkB:∀n_,Zn Tryz.prog 114 (Zb0 n_)
  |0=>by
    refine Zq (C:={ y:=tys,n:=120,h:=3,tab:=[] }) Tryz.f114 Zr fun _ a b k he=>?_
    unfold Zb0 at he
    split at he
    · obtain⟨x,hx,_⟩:=he
      cases hx
    · exact he.elim
  |n_+1=>Zo0 n_ (ZkB n_)
def ZcC (n_:Nat):Con:=fun
  |[.c (.ptr 0 0),.c (.imm (.int .i64) a1)],[(0,.rc [.own 1 false,.int .i64 o0_1,.nil,.bool o0_3]),(1,.sl 89 (.pair (.sl (.pair (.int .i64) (.int .i64))) (.int .i64)) o1 .shallow)]=>.opt _ (ZbW n_ a1 o0_1 o0_3 o1) (fun r=>.ret (.tup [.c (.own 900 false),.c (.bool r.1)]) [(0,.rc [.own 901 false,.int .i64 r.2.1,.own 902 false,.bool r.2.2.1]),(1,.dead),(900,.sl 4 .bool r.2.2.2.1 .shallow),(901,.sl 89 y7_ r.2.2.2.2.1 .shallow),(902,.sl 96 Zb7 r.2.2.2.2.2 (.deep true .no))])
  |_,_=>.fail
def Zrd (n_:Nat):Cfg:={ y:=tys,n:=120,h:=2,tab:=[(75,ZcP),(114,(Zb0 64)),(170,Zew),(171,ZhJ),(172,Zmc),(173,ZeL)],cut:=[13,25,28] }
theorem ZoZ (n_:Nat) (ih:Zn Tryz.prog 114 (ZcC n_)):Zn Tryz.prog 114 (ZcC (n_+1)):=by
 refine Zq (C:=(Zrd n_)) Tryz.f114 (Zk Zeg (Zk (ZkB 64) (Zk ZgS (Zk ZoY (Zk Zus (Zk ZlF Zr)))))) fun _ a b k he=>?_
 unfold ZcC at he;split at he;rotate_left;exact he.elim
 rename_i a1 o0_1 o0_3 o1
 have he:Ok (Zd6 (ZbW n_) a1 o0_1 o0_3 o1) (fun r=>k (.tup [.c (.own 900 false),.c (.bool r.1)]) [(0,.rc [.own 901 false,.int .i64 r.2.1,.own 902 false,.bool r.2.2.1]),(1,.dead),(900,.sl 4 .bool r.2.2.2.1 .shallow),(901,.sl 89 y7_ r.2.2.2.2.1 .shallow),(902,.sl 96 Zb7 r.2.2.2.2.2 (.deep true .no))]):=he
 refine⟨rfl,rfl,?_⟩
 refine ZD he (fun he=>?_) fun he=>?_
 ·refine Zh he (fun he=>?_) fun he=>?_
  ·exact Zt [(4,[]),(5,[])] (Zj he :) (Za [(901,1)])
  ·refine Zg he fun he=>?_
   refine Zg he fun he=>?_
   refine ZN (Zeo a1 o0_1 o0_3 o1) (fun i2=>(Zm [(0,.c (.ptr 0 0)),(1,.c (.imm y0_ a1)),(6,.c (.own 10001000 false))],[(0,.rc [.own 1 false,.int .i64 (o0_1 - (1:Int)),.nil,.bool o0_3]),(1,.sl 89 y7_ o1 .shallow),(10001000,.sl 3 y0_ i2 .shallow)])) he ?_ ?_
   ·rintro i2 he
    refine Zi he fun r3_ he=>?_
    refine ZN (ZfN a1) (fun (i_12,i_32,i_02,i_22)=>(Zm [(0,.c (.ptr 0 0)),(1,.c (.imm y0_ a1))],[(0,.rc [.own 10004000 false,.int .i64 i_12,.own 10004001 false,.bool i_32]),(1,.dead),(10004000,.sl 89 y7_ i_02 .shallow),(10004001,.sl 96 Zb7 i_22 (.deep true .no))])) he ?_ ?_
    ·exact ZLx
    ·skip
     refine Zh he (fun he=>?_) fun he=>?_
     ·refine Zi he fun r4_ he=>?_
      refine Zh he (fun he=>?_) fun he=>?_
      ·exact Zt [(4,[]),(5,[])] (Zj he :) (Za [(900,74900),(901,1)])
      ·refine ZN (Zj9 a1) (fun (i_11,i_31,i_01,i_21)=>(Zm [(0,.c (.ptr 0 0)),(1,.c (.imm y0_ a1))],[(0,.rc [.own 10003000 false,.int .i64 i_11,.own 10003001 false,.bool i_31]),(1,.dead),(10003000,.sl 89 y7_ i_01 .shallow),(10003001,.sl 96 Zb7 i_21 (.deep true .no))])) he ?_ ?_
       ·exact ZLy
       ·skip
        refine Zg he fun he=>?_
        refine Zp (ZfO a1 r4_) (fun (i3,i_1,i_3,i_0,i_2)=>(Zm [(0,.c (.ptr 0 0)),(1,.c (.imm y0_ a1)),(82,.c (.own 10002000 false)),(83,.c (.int .i64 ([r4_.1,(0 - r4_.1)].length:Int))),(84,.c (.int .i64 i3))],[(0,.rc [.own 10002001 false,.int .i64 i_1,.own 10002002 false,.bool i_3]),(1,.dead),(10002000,.sl 3 y0_ [r4_.1,(0 - r4_.1)] .shallow),(10002001,.sl 89 y7_ i_0 .shallow),(10002002,.sl 96 Zb7 i_2 (.deep true .no))])) he (Za [(10002000,82),(10002001,1)]) ?_
        exact ZLA
     ·exact⟨_,he,(Za [(10004000,1)])⟩
   ·skip
    refine Zp (Zep a1 o0_1 o0_3 o1) (fun (i,i1)=>(Zm [(0,.c (.ptr 0 0)),(1,.c (.imm y0_ a1)),(6,.c (.own 10000000 false)),(41,.c (.imm y0_ a1)),(42,.c (.int .i64 (a1.length:Int))),(43,.c (.int .i64 i))],[(0,.rc [.own 1 false,.int .i64 (o0_1 - (1:Int)),.nil,.bool o0_3]),(1,.sl 89 y7_ o1 .shallow),(10000000,.sl 3 y0_ i1 .shallow)])) he (Za [(10000000,40)]) ?_
    exact ZLB
 ·exact Zt [(4,[]),(5,[])] (Zj he :) (Za [(901,1)])
theorem ZkA:∀n_,Zn Tryz.prog 114 (ZcC n_)
  |0=>by
    refine Zq (C:={ y:=tys,n:=120,h:=2,tab:=[] }) Tryz.f114 Zr fun _ a b k he=>?_
    unfold ZcC at he
    split at he
    · obtain⟨x,hx,_⟩:=he
      cases hx
    · exact he.elim
  |n_+1=>ZoZ n_ (ZkA n_)
def ZlQ:Con:=fun
  |[.c (.imm (.pair (.sl (.pair (.int .i64) (.int .i64))) (.int .i64)) list_),.c (.int .i64 fuel)],[]=>.opt _ (ZcG list_ fuel) (fun r=>.ret (.tup [.c (.int .i64 r.1),.c (.own 900 false),.c (.own 901 false)]) [(900,.sl 4 .bool r.2.1 .shallow),(901,.sl 96 Zb7 r.2.2 (.deep true .no))])
  |_,_=>.fail
def Zxn:Cfg:={ y:=tys,n:=40,h:=0,tab:=[(57,Zou),(61,ZbI),(98,Zh9),(114,(ZcC 64))] }
theorem ZHl {P:Prop} (h:P:=by
  exact Zt [(4,[]),(5,[]),(6,[])] (Zj he :) (Za [])):P:=h
theorem ZxC:Zn Tryz.prog 44 ZlQ:=by
 refine Zq (C:=Zxn) Tryz.f44 (Zk Zw6 (Zk ZcU (Zk Zqq (Zk (ZkA 64) Zr)))) fun _ a b k he=>?_
 unfold ZlQ at he;split at he;rotate_left;exact he.elim
 rename_i list_ fuel
 refine Zs he fun he=>?_
 refine Zi he fun r1_ he=>?_
 refine ZD he (fun he=>?_) fun he=>?_
 ·refine Zi he fun r2_ he=>?_
  refine Zh he (fun he=>?_) fun he=>?_
  ·exact ZHl
  ·refine Zi he fun r3_ he=>?_
   refine Zi he fun r4_ he=>?_
   refine Zh he (fun he=>?_) fun he=>?_
   ·exact Zt [(4,[]),(5,[]),(6,[])] (Zj he :) (Za [(900,26900)])
   ·refine Zh he (fun he=>?_) fun he=>?_
    ·exact ZHl
    ·refine And.intro (by kernel_rfl) ?_
     exact Zt [(4,[]),(5,[]),(6,[])] (Zj he :) (Za [(901,26902)])
 ·exact ZHl
def ZlL:Con:=fun
  |[.agg [.imm (.int .i64) m_0,.imm (.pair (.int .i64) (.pair (.sl (.int .i64)) (.pair (.sl (.int .i64)) (.pair (.int .i64) (.sl (.sl (.int .i64))))))) m_1],.c (.imm .bool values)],[]=>.opt _ (ZgL (m_0,m_1) values) (fun r=>.ret (.tup [.c (.own 900 false),.c (.bool r.1)]) [(900,.sl 3 y0_ r.2 .shallow)])
  |_,_=>.fail
def Zxf:Cfg:={ y:=tys,n:=50,h:=0,tab:=[(71,Zev),(118,Zh8)],cut:=[15] }
theorem Zzi {P:Prop} (h:P:=by
  exact Zt [(4,[]),(5,[])] (Zj he :) (Za [])):P:=h
theorem Zzj {P:Prop} (h:P:=by
  exact Zt [(4,[]),(5,[])] (Zj he :) (Za [(900,10000001)])):P:=h
theorem Zxx:Zn Tryz.prog 58 ZlL:=by
 refine Zq (C:=Zxf) Tryz.f58 (Zk ZgR (Zk Zqp Zr)) fun _ a b k he=>?_
 unfold ZlL at he;split at he;rotate_left;exact he.elim
 rename_i m_0 m_1 values
 refine Zs he fun he=>?_
 refine Zi he fun r1_ he=>?_
 refine ZD he (fun he=>?_) fun he=>?_
 ·refine Zh he (fun he=>?_) fun he=>?_
  ·exact Zzi
  ·refine Zp (Zg9 (m_0,m_1) values) (fun (i,out2)=>(Zm [(1,.c (.imm .bool values)),(2,.c (.ptr 10000000 0)),(6,.c (.own 10000001 false)),(21,.c (.int .i64 ((m_0,m_1).1.length:Int))),(22,.c (.int .i64 i))],[(10000000,.rc [.imm y0_ (m_0,m_1).1,.imm y5_ (m_0,m_1).2]),(10000001,.sl 3 y0_ out2 .shallow)])) he (Za [(10000000,2)]) ?_
   rintro⟨i,out2⟩ _ he
   refine Zh he (fun he=>?_) fun he=>?_
   ·refine ZN (ZkR i) (fun (count3,out4)=>(Zm [(1,.c (.imm .bool values)),(2,.c (.ptr 10004000 0)),(6,.c (.own 10004001 false)),(8,.c (.int .i64 count3)),(21,.c (.int .i64 ((m_0,m_1).1.length:Int))),(22,.c (.int .i64 i))],[(10004000,.rc [.imm y0_ (m_0,m_1).1,.imm y5_ (m_0,m_1).2]),(10004001,.sl 3 y0_ out4 .shallow)])) he ?_ ?_
    ·rintro⟨count3,out4⟩ he
     refine Zh he (fun he=>?_) fun he=>?_
     ·exact Zzi
     ·exact ZHg
    ·skip
     refine Zi he fun r3_ he=>?_
     refine Zp (Zha values i r3_) (fun (count2,i2,out3)=>(Zm [(1,.c (.imm .bool values)),(2,.c (.ptr 10003000 0)),(6,.c (.own 10003001 false)),(8,.c (.int .i64 count2)),(21,.c (.int .i64 ((m_0,m_1).1.length:Int))),(22,.c (.int .i64 i)),(27,.c (.own 10003002 false)),(28,.c (.int .i64 (r3_.length:Int))),(29,.c (.int .i64 i2))],[(10003000,.rc [.imm y0_ (m_0,m_1).1,.imm y5_ (m_0,m_1).2]),(10003001,.sl 3 y0_ out3 .shallow),(10003002,.sl 3 y0_ r3_ .shallow)])) he (Za [(10003000,10000000),(10003001,10000001),(10003002,28900)]) ?_
     rintro⟨count2,i2,out3⟩ _ he
     refine Zh he (fun he=>?_) fun he=>?_
     ·refine Zg he fun he=>?_
      refine Zg he fun he=>?_
      refine Zg he fun he=>?_
      refine Zh he (fun he=>?_) fun he=>?_
      ·refine Zg he fun he=>?_
       refine Zg he fun he=>?_
       refine Zg he fun he=>?_
       exact⟨_,(Zj he :),(Za [(10003001,42)])⟩
      ·exact ZdH
     ·exact⟨_,(Zbp he :),(Za [(10004000,10003000),(10004001,10003001)])⟩
   ·exact Zzj
 ·exact Zzi
def ZhB:Con:=fun
  |[.c (.imm (.int .i64) coefs),.c (.imm (.int .i64) cells)],[]=>.opt _ (Zfg coefs cells) (fun r=>.ret (.c (.int .i64 r)) [])
  |_,_=>.fail
def ZCE:Cfg:={ y:=tys,n:=25,h:=0,tab:=[] }
theorem Znp:Zn Tryz.prog 60 ZhB:=by
 refine Zq (C:=ZCE) Tryz.f60 Zr fun _ a b k he=>?_
 unfold ZhB at he;split at he;rotate_left;exact he.elim
 rename_i coefs cells
 refine Zs he fun he=>?_
 refine Zp (Zp0 coefs cells) (fun (sum,i)=>(Zm [(0,.c (.imm y0_ coefs)),(5,.c (.int .i64 sum)),(8,.c (.imm y0_ cells)),(9,.c (.int .i64 (cells.length:Int))),(10,.c (.int .i64 i))],[])) he (Za []) ?_
 rintro⟨sum,i⟩ _ he
 refine Zh he (fun he=>?_) fun he=>?_
 ·exact Zzh
 ·exact Z5
def Zfp:Con:=fun
  |[.agg [.imm (.int .i64) m_0,.imm (.pair (.int .i64) (.pair (.sl (.int .i64)) (.pair (.sl (.int .i64)) (.pair (.int .i64) (.sl (.sl (.int .i64))))))) m_1],.c (.imm (.int .i64) coefs),.c (.int .i64 most)],[]=>.opt _ (Zd2 (m_0,m_1) coefs most) (fun r=>.ret (.tup [.agg [.own 901 false,.int .i64 r.2.1],.c (.bool r.1)]) [(900,.rc [.own 901 false,.int .i64 r.2.1]),(901,.sl 155 y6_ r.2.2 .shallow)])
  |_,_=>.fail
def ZtS:Cfg:={ y:=tys,n:=63,h:=0,tab:=[(56,Zd8),(71,Zev),(127,ZbY),(128,Zem),(129,ZlB)],cut:=[13],sched:=[(10,(ZB [0,1,2,3,4,5,6,7,9,10] (.alt 8 (.alt 11 (.alt 12 (.alt 13 (.alt 14 (.first 15 .done) .stop) .stop) .stop) .stop) .stop)))] }
theorem ZvP {P:Prop} (h:P:=by
  exact Zt [(6,[900]),(7,[])] (Zj he :) (Za [(900,6)])):P:=h
theorem ZnI:Zn Tryz.prog 59 Zfp:=by
 refine Zq (C:=ZtS) Tryz.f59 (Zk Zgd (Zk ZgR (Zk Zcz (Zk Zhe (Zk Zse Zr))))) fun _ a b k he=>?_
 unfold Zfp at he;split at he;rotate_left;exact he.elim
 rename_i m_0 m_1 coefs most
 refine Zs he fun he=>?_
 refine Zi he fun r1_ he=>?_
 refine ZD he (fun he=>?_) fun he=>?_
 ·refine Zi he fun r2_ he=>?_
  refine ZD he (fun he=>?_) fun he=>?_
  ·refine Zi he fun r3_ he=>?_
   refine Zh he (fun he=>?_) fun he=>?_
   ·exact ZvP
   ·refine ZN (ZhP most) (fun terms3=>(Zm [(2,.c (.int .i64 most)),(6,.c (.ptr 10003000 0)),(8,.c (.own 10003001 false))],[(10003000,.rc [.nil,.int .i64 (0:Int)]),(10003001,.sl 155 y6_ terms3 .shallow)])) he ?_ ?_
    ·rintro terms3 he
     refine Zg he fun he=>?_
     refine Zi he fun r9_ he=>?_
     exact Zt [(6,[900]),(7,[])] (Zj he :) (Za [(900,10003000),(901,61901)])
    ·skip
     refine Zp (Ze7 (m_0,m_1) coefs most) (fun (i,terms1)=>(Zm [(1,.c (.imm y0_ coefs)),(2,.c (.int .i64 most)),(3,.c (.ptr 10000000 0)),(6,.c (.ptr 10000001 0)),(8,.c (.own 10000002 false)),(28,.c (.imm y0_ (m_0,m_1).1)),(29,.c (.int .i64 ((m_0,m_1).1.length:Int))),(30,.c (.int .i64 i))],[(10000000,.rc [.imm y0_ (m_0,m_1).1,.imm y5_ (m_0,m_1).2]),(10000001,.rc [.nil,.int .i64 (0:Int)]),(10000002,.sl 155 y6_ terms1 .shallow)])) he (Za [(10000000,3),(10000001,6)]) ?_
     rintro⟨i,terms1⟩ _ he
     refine Zh he (fun he=>?_) fun he=>?_
     ·refine Zg he fun he=>?_
      refine Zg he fun he=>?_
      refine Zp (Ze8 (m_0,m_1) coefs i) (fun (i2,terms2)=>(Zm [(1,.c (.imm y0_ coefs)),(2,.c (.int .i64 most)),(3,.c (.ptr 10002000 0)),(6,.c (.ptr 10002001 0)),(8,.c (.own 10002002 false)),(9,.c (.int .i64 i)),(28,.c (.imm y0_ (m_0,m_1).1)),(29,.c (.int .i64 ((m_0,m_1).1.length:Int))),(30,.c (.int .i64 i)),(36,.c (.int .i64 (((m_0,m_1).1.getD i.toNat 0)+(1:Int)))),(37,.c (.int .i64 i2))],[(10002000,.rc [.imm y0_ (m_0,m_1).1,.imm y5_ (m_0,m_1).2]),(10002001,.rc [.nil,.int .i64 (0:Int)]),(10002002,.sl 155 y6_ terms2 .shallow)])) he (Za [(10002000,10000000),(10002001,10000001),(10002002,10000002)]) ?_
      rintro⟨i2,terms2⟩ _ he
      refine Zh he (fun he=>?_) fun he=>?_
      ·refine And.intro (by kernel_rfl) ?_
       refine Zg he fun he=>?_
       refine Zg he fun he=>?_
       refine Zg he fun he=>?_
       refine Y4 ?_
       refine Y4 ?_
       refine Zi he fun r8_ he=>?_
       refine Y4 ?_
       refine Y4 ?_
       refine Y4 ?_
       refine Zg he fun he=>?_
       exact ZLq
      ·refine Zg he fun he=>?_
       exact⟨_,(Zj he :),(Za [(10000000,10002000),(10000001,10002001),(10000002,10002002)])⟩
     ·exact⟨_,(Zbp he :),(Za [(10003000,10000001),(10003001,10000002)])⟩
  ·exact ZvP
 ·exact ZvP
def ZlO:Con:=fun
  |[.agg [.imm (.int .i64) a0_0,.imm (.pair (.int .i64) (.pair (.sl (.int .i64)) (.pair (.sl (.int .i64)) (.pair (.int .i64) (.sl (.sl (.int .i64))))))) a0_1],.c (.imm (.int .i64) a1),.c (.int .i64 a2)],[]=>.opt _ (ZgP (a0_0,a0_1) a1 a2) (fun r=>.ret (.tup [.c (.int .i64 r.1),.c (.own 900 false),.c (.own 901 false)]) [(900,.sl 3 y0_ r.2.1 .shallow),(901,.sl 96 Zb7 r.2.2 (.deep true .no))])
  |_,_=>.fail
def Zn0:Sched:=.alt 11 (.first 12 .done) .stop
def Zjj:Sched:=.alt 6 (ZB [7,8,9] Zn0) .stop
def Zn1:Sched:=.alt 6 (ZB [7,8,9] (.alt 10 Zn0 .stop)) (.alt 10 Zjj .stop)
def Zn2:Sched:=.alt 4 (.first 5 Zjj) .stop
def Zn3:Sched:=.alt 0 Zjj .stop
def Zn4:Sched:=.alt 4 (.first 5 .done) .stop
def Zn5:Sched:=.alt 3 Zn4 .stop
def Zxl:Cfg:={ y:=tys,n:=82,h:=0,tab:=[(44,ZlQ),(55,Znd),(56,Zd8),(57,Zou),(58,ZlL),(59,Zfp),(60,ZhB),(61,ZbI)],cut:=[15],good:=[61],sched:=[(14,(ZB [1,2,3] (.alt 0 (.alt 4 (.first 5 Zn1) (.alt 10 Zn2 .stop)) (.alt 4 (.first 5 (.alt 0 Zn1 (.alt 10 Zn3 .stop))) (.alt 10 (.alt 0 Zn2 (.alt 4 (.first 5 Zn3) .stop)) .stop))))),(15,(.first 0 (.alt 1 (.alt 2 Zn5 .stop) (.alt 2 (.alt 1 Zn5 (.alt 3 (.alt 1 Zn4 .stop) .stop)) .stop))))] }
theorem ZLC {P:Prop} (h:P:=by
  exact Zt [(6,[]),(7,[]),(8,[])] (Zj he :) (Za [(900,10000001),(901,41901)])):P:=h
theorem ZLD {P:Prop} (h:P:=by
  exact Zt [(6,[]),(7,[]),(8,[])] (Zj he :) (Za [(900,10000001)])):P:=h
theorem ZHm {P:Prop} (h:P:=by
  refine Y4 ?_
  refine And.intro hq2 ?_
  obtain⟨hne0,he⟩:=ZP he
  exact⟨_,(Zj he :),((Zgf [81]).trans (Zc9 [(10000000,10002000),(10000001,10002001)] (l:=[(1,.c (.imm y0_ a1)),(2,.c (.int .i64 a2)),(3,.c (.ptr 10000000 0)),(9,.c (.imm y7_ r1_.2)),(11,.c (.own 10000001 true)),(12,.c (.imm y7_ (r16_++[(i_01,i_11)])))]) (st':=[(10000000,.rc [.imm y0_ (a0_0,a0_1).1,.imm y5_ (a0_0,a0_1).2]),(10000001,.sl 3 y0_ r13_.2 .shallow)]) rfl rfl ⟨⟨.inl rfl,.inl rfl,Y1⟩,Y2,Y1⟩ ⟨.inl rfl,rfl,⟨Y2,rfl⟩,.inl rfl,⟨Y2,hne0⟩,.inr (.inr ⟨_,_,_,rfl,rfl⟩),Y1⟩))⟩):P:=h
theorem ZLE {P:Prop} (h:P:=by
  refine Y4 ?_
  exact⟨_,he,(Za [(10002000,10000000),(10002001,65900),(10002002,16),(10002003,75901)])⟩):P:=h
theorem ZCw {P:Prop} (h:P:=by
  refine Y4 ?_
  refine⟨r15_,hq3,?_⟩
  exact ZLE):P:=h
theorem ZLF {P:Prop} (h:P:=by
  refine Y5 ?_ ?_
  ·skip
   refine⟨r15_,hq3,?_⟩
   refine Y4 ?_
   exact ZLE
  ·skip
   exact ZCw):P:=h
theorem ZLG {P:Prop} (h:P:=by
  skip
  refine Y4 ?_
  refine⟨r14_,hq1,?_⟩
  refine And.intro hq2 ?_
  exact ZCw):P:=h
theorem ZHn {P:Prop} (h:P:=by
  refine Y4 ?_
  refine And.intro hq2 ?_
  obtain⟨hne0,he⟩:=ZP he
  exact⟨_,(Zj he :),((Zgf [81]).trans (Zc9 [(10000000,10003000),(10000001,10003001)] (l:=[(1,.c (.imm y0_ a1)),(2,.c (.int .i64 a2)),(3,.c (.ptr 10000000 0)),(9,.c (.imm y7_ r1_.2)),(11,.c (.own 10000001 true)),(12,.c (.imm y7_ (r20_++[(i_02,i_12)])))]) (st':=[(10000000,.rc [.imm y0_ (a0_0,a0_1).1,.imm y5_ (a0_0,a0_1).2]),(10000001,.sl 3 y0_ r17_.2 .shallow)]) rfl rfl ⟨⟨.inl rfl,.inl rfl,Y1⟩,Y2,Y1⟩ ⟨.inl rfl,rfl,⟨Y2,rfl⟩,.inl rfl,⟨Y2,hne0⟩,.inr (.inr ⟨_,_,_,rfl,rfl⟩),Y1⟩))⟩):P:=h
theorem ZLH {P:Prop} (h:P:=by
  refine Y4 ?_
  exact⟨_,he,(Za [(10003000,10000000),(10003001,65900),(10003002,16),(10003003,75901)])⟩):P:=h
theorem ZCx {P:Prop} (h:P:=by
  refine Y4 ?_
  refine⟨r19_,hq3,?_⟩
  exact ZLH):P:=h
theorem ZLI {P:Prop} (h:P:=by
  refine Y5 ?_ ?_
  ·skip
   refine⟨r19_,hq3,?_⟩
   refine Y4 ?_
   exact ZLH
  ·skip
   exact ZCx):P:=h
theorem ZLJ {P:Prop} (h:P:=by
  skip
  refine Y4 ?_
  refine⟨r18_,hq1,?_⟩
  refine And.intro hq2 ?_
  exact ZCx):P:=h
theorem ZxA:Zn Tryz.prog 12 ZlO:=by
 refine Zq (C:=Zxl) Tryz.f12 (Zk ZxC (Zk Zvi (Zk Zgd (Zk Zw6 (Zk Zxx (Zk ZnI (Zk Znp (Zk ZcU Zr)))))))) fun _ a b k he=>?_
 unfold ZlO at he;split at he;rotate_left;exact he.elim
 rename_i a0_0 a0_1 a1 a2
 refine Zs he fun he=>?_
 refine Zi he fun r1_ he=>?_
 refine ZD he (fun he=>?_) fun he=>?_
 ·refine Zi he fun r2_ he=>?_
  refine ZD he (fun he=>?_) fun he=>?_
  ·refine Zi he fun r3_ he=>?_
   refine Zh he (fun he=>?_) fun he=>?_
   ·exact Zt [(6,[]),(7,[]),(8,[])] (Zj he :) (Za [])
   ·refine Zp (ZbK (a0_0,a0_1) a1 a2 r1_) (fun (i,i1)=>(Zm [(1,.c (.imm y0_ a1)),(2,.c (.int .i64 a2)),(3,.c (.ptr 10000000 0)),(9,.c (.imm y7_ r1_.2)),(11,.c (.own 10000001 true)),(12,.c (.imm y7_ i))],[(10000000,.rc [.imm y0_ (a0_0,a0_1).1,.imm y5_ (a0_0,a0_1).2]),(10000001,.sl 3 y0_ i1 .shallow)])) he ((Zgf [21900]).trans (Za [(10000000,3)] (l:=[(1,.c (.imm y0_ a1)),(2,.c (.int .i64 a2)),(3,.c (.ptr 10000000 0)),(9,.c (.imm y7_ r1_.2)),(11,.c (.own 10000001 true)),(12,.c (.imm y7_ r1_.2))]) (st':=[(10000000,.rc [.imm y0_ (a0_0,a0_1).1,.imm y5_ (a0_0,a0_1).2]),(10000001,.sl 3 y0_ ([]:List Int) .shallow)]))) ?_
    rintro⟨i,i1⟩ _ he
    refine Zi he fun r12_ he=>?_
    refine Zh he (fun he=>?_) fun he=>?_
    ·refine Zh he (fun he=>?_) fun he=>?_
     ·exact Zt [(6,[]),(7,[]),(8,[])] (Zj he :) (Za [(901,41901)])
     ·refine Zh he (fun he=>?_) fun he=>?_
      ·exact ZLC
      ·refine Zh he (fun he=>?_) fun he=>?_
       ·exact ZLD
       ·refine Zi he fun r13_ he=>?_
        refine ZN (ZpV r1_ r13_) (fun (i_11,i_01)=>(Zm [(1,.c (.imm y0_ a1)),(2,.c (.int .i64 a2)),(3,.c (.ptr 10002000 0)),(9,.c (.imm y7_ r1_.2)),(11,.c (.own 10002001 false)),(16,.c (.ptr 10002002 0))],[(10002000,.rc [.imm y0_ (a0_0,a0_1).1,.imm y5_ (a0_0,a0_1).2]),(10002001,.sl 3 y0_ r13_.2 .shallow),(10002002,.rc [.own 10002003 false,.int .i64 i_11]),(10002003,.sl 155 y6_ i_01 .shallow)])) he ?_ ?_
        ·rintro⟨i_11,i_01⟩ he
         refine And.intro (by kernel_rfl) ?_
         obtain⟨r16_,hq1,he⟩:=ZX he
         obtain⟨hq2,he⟩:=ZP he
         refine Y5 ?_ ?_
         ·skip
          refine⟨r16_,hq1,?_⟩
          refine Y4 ?_
          refine Y4 ?_
          exact ZHm
         ·skip
          refine Y5 ?_ ?_
          ·skip
           refine⟨r16_,hq1,?_⟩
           refine Y4 ?_
           exact ZHm
          ·skip
           refine Y4 ?_
           refine⟨r16_,hq1,?_⟩
           exact ZHm
        ·skip
         refine And.intro (by kernel_rfl) ?_
         obtain⟨r14_,hq1,he⟩:=ZX he
         obtain⟨hq2,he⟩:=ZP he
         obtain⟨r15_,hq3,he⟩:=ZX he
         refine And.intro ?_ (And.intro ?_ (And.intro ?_ (Y1)))
         ·skip
          refine Y5 ?_ ?_
          ·skip
           refine⟨r14_,hq1,?_⟩
           refine And.intro hq2 ?_
           exact ZLF
          ·exact ZLG
         ·skip
          refine⟨r14_,hq1,?_⟩
          refine And.intro hq2 ?_
          refine Y5 ?_ ?_
          ·skip
           exact ZLF
          ·skip
           refine Y4 ?_
           exact ZCw
         ·skip
          refine Y5 ?_ ?_
          ·exact ZLG
          ·skip
           refine⟨r14_,hq1,?_⟩
           refine And.intro hq2 ?_
           refine Y4 ?_
           exact ZCw
    ·refine Zh he (fun he=>?_) fun he=>?_
     ·exact ZLC
     ·refine Zh he (fun he=>?_) fun he=>?_
      ·exact ZLD
      ·refine Zi he fun r17_ he=>?_
       refine ZN (ZkV r1_ r17_) (fun (i_12,i_02)=>(Zm [(1,.c (.imm y0_ a1)),(2,.c (.int .i64 a2)),(3,.c (.ptr 10003000 0)),(9,.c (.imm y7_ r1_.2)),(11,.c (.own 10003001 false)),(16,.c (.ptr 10003002 0))],[(10003000,.rc [.imm y0_ (a0_0,a0_1).1,.imm y5_ (a0_0,a0_1).2]),(10003001,.sl 3 y0_ r17_.2 .shallow),(10003002,.rc [.own 10003003 false,.int .i64 i_12]),(10003003,.sl 155 y6_ i_02 .shallow)])) he ?_ ?_
       ·rintro⟨i_12,i_02⟩ he
        refine And.intro (by kernel_rfl) ?_
        obtain⟨r20_,hq1,he⟩:=ZX he
        obtain⟨hq2,he⟩:=ZP he
        refine Y5 ?_ ?_
        ·skip
         refine⟨r20_,hq1,?_⟩
         refine Y4 ?_
         refine Y4 ?_
         exact ZHn
        ·skip
         refine Y5 ?_ ?_
         ·skip
          refine⟨r20_,hq1,?_⟩
          refine Y4 ?_
          exact ZHn
         ·skip
          refine Y4 ?_
          refine⟨r20_,hq1,?_⟩
          exact ZHn
       ·skip
        refine And.intro (by kernel_rfl) ?_
        obtain⟨r18_,hq1,he⟩:=ZX he
        obtain⟨hq2,he⟩:=ZP he
        obtain⟨r19_,hq3,he⟩:=ZX he
        refine And.intro ?_ (And.intro ?_ (And.intro ?_ (Y1)))
        ·skip
         refine Y5 ?_ ?_
         ·skip
          refine⟨r18_,hq1,?_⟩
          refine And.intro hq2 ?_
          exact ZLI
         ·exact ZLJ
        ·skip
         refine⟨r18_,hq1,?_⟩
         refine And.intro hq2 ?_
         refine Y5 ?_ ?_
         ·skip
          exact ZLI
         ·skip
          refine Y4 ?_
          exact ZCx
        ·skip
         refine Y5 ?_ ?_
         ·exact ZLJ
         ·skip
          refine⟨r18_,hq1,?_⟩
          refine And.intro hq2 ?_
          refine Y4 ?_
          exact ZCx
  ·exact Zt [(6,[]),(7,[]),(8,[])] (Zj he :) (Za [])
 ·exact Zt [(6,[]),(7,[]),(8,[])] (Zj he :) (Za [])
def Zr5:Con:=fun
  |[.agg [.imm (.int .i64) m_0,.imm (.pair (.int .i64) (.pair (.sl (.int .i64)) (.pair (.sl (.int .i64)) (.pair (.int .i64) (.sl (.sl (.int .i64))))))) m_1],.c (.imm (.int .i64) list_)],[]=>.opt _ (Zq8 (m_0,m_1) list_) (fun r=>.ret (.c (.bool r)) [])
  |_,_=>.fail
def ZEE:Cfg:={ y:=tys,n:=45,h:=0,tab:=[] }
theorem ZLK {P:Prop} (h:P:=by
  refine And.intro (by kernel_rfl) ?_
  refine Zg he fun he=>?_
  refine Zg he fun he=>?_
  exact ZHc):P:=h
theorem ZET:Zn Tryz.prog 243 Zr5:=by
 refine Zq (C:=ZEE) Tryz.f243 Zr fun _ a b k he=>?_
 unfold Zr5 at he;split at he;rotate_left;exact he.elim
 rename_i m_0 m_1 list_
 refine Zs he fun he=>?_
 refine Zp (Znz (m_0,m_1) list_) (fun i=>(Zm [(1,.c (.imm y0_ list_)),(2,.c (.ptr 10000000 0)),(5,.c (.int .i64 i))],[(10000000,.rc [.imm y0_ (m_0,m_1).1,.imm y5_ (m_0,m_1).2])])) he (Za [(10000000,2)]) ?_
 rintro i _ he
 refine Zh he (fun he=>?_) fun he=>?_
 ·refine And.intro (by kernel_rfl) ?_
  refine Zg he fun he=>?_
  refine ZD he (fun he=>?_) fun he=>?_
  ·refine Zg he fun he=>?_
   refine Zh he (fun he=>?_) fun he=>?_
   ·exact Zbd
   ·refine Zp (Zkm list_ i) (fun k_=>(Zm [(1,.c (.imm y0_ list_)),(2,.c (.ptr 10001000 0)),(5,.c (.int .i64 i)),(6,.c (.int .i64 k_))],[(10001000,.rc [.imm y0_ (m_0,m_1).1,.imm y5_ (m_0,m_1).2])])) he (Za [(10001000,10000000)]) ?_
    rintro k_ _ he
    refine Zh he (fun he=>?_) fun he=>?_
    ·exact ZLK
    ·refine Zg he fun he=>?_
     exact⟨_,(Zj he :),(Za [(10000000,10001000)])⟩
  ·exact Zbd
 ·exact Zbd
def ZpN:Con:=fun
  |[.agg [.int .i64 r__0,.imm (.int .i64) r__1,.imm (.int .i64) r__2,.int .i64 r__3,.imm (.sl (.int .i64)) r__4]],[]=>.opt _ (ZoD (r__0,(r__1,(r__2,(r__3,r__4))))) (fun r=>.ret (.c (.bool r)) [])
  |_,_=>.fail
def ZBe:Cfg:={ y:=tys,n:=50,h:=0,tab:=[] }
theorem ZvQ {P:Prop} (h:P:=by
  refine Zh he (fun he=>?_) fun he=>?_
  ·exact ZL
  ·exact ZdH):P:=h
theorem ZLL {P:Prop} (h:P:=by
  refine Zh he (fun he=>?_) fun he=>?_
  ·exact ZL
  ·exact ZL):P:=h
theorem ZBE:Zn Tryz.prog 244 ZpN:=by
 refine Zq (C:=ZBe) Tryz.f244 Zr fun _ a b k he=>?_
 unfold ZpN at he;split at he;rotate_left;exact he.elim
 rename_i r__0 r__1 r__2 r__3 r__4
 refine Zs he fun he=>?_
 refine Zp (Zlg (r__0,(r__1,(r__2,(r__3,r__4))))) (fun i=>(Zm [(1,.c (.ptr 10000000 0)),(3,.c (.int .i64 i))],[(10000000,.rc [.int .i64 (r__0,(r__1,(r__2,(r__3,r__4)))).1,.imm y0_ (r__0,(r__1,(r__2,(r__3,r__4)))).2.1,.imm y0_ (r__0,(r__1,(r__2,(r__3,r__4)))).2.2.1,.int .i64 (r__0,(r__1,(r__2,(r__3,r__4)))).2.2.2.1,.imm (.sl y0_) (r__0,(r__1,(r__2,(r__3,r__4)))).2.2.2.2])])) he (Za [(10000000,1)]) ?_
 rintro i _ he
 refine Zh he (fun he=>?_) fun he=>?_
 ·refine Zg he fun he=>?_
  refine ZD he (fun he=>?_) fun he=>?_
  ·refine Zg he fun he=>?_
   refine ZD he (fun he=>?_) fun he=>?_
   ·refine Zg he fun he=>?_
    exact ZvQ
   ·exact ZL
  ·exact ZL
 ·refine Zh he (fun he=>?_) fun he=>?_
  ·exact ZLL
  ·exact ZL
def ZqC:Con:=fun
  |[.agg [.int .i64 r__0,.imm (.int .i64) r__1,.imm (.int .i64) r__2,.int .i64 r__3,.imm (.sl (.int .i64)) r__4]],[]=>.opt _ (Zqe (r__0,(r__1,(r__2,(r__3,r__4))))) (fun r=>.ret (.c (.bool r)) [])
  |_,_=>.fail
def ZCK:Cfg:={ y:=tys,n:=56,h:=0,tab:=[] }
theorem ZC5:Zn Tryz.prog 245 ZqC:=by
 refine Zq (C:=ZCK) Tryz.f245 Zr fun _ a b k he=>?_
 unfold ZqC at he;split at he;rotate_left;exact he.elim
 rename_i r__0 r__1 r__2 r__3 r__4
 refine Zs he fun he=>?_
 refine Zp (Zms (r__0,(r__1,(r__2,(r__3,r__4))))) (fun i=>(Zm [(1,.c (.ptr 10000000 0)),(3,.c (.int .i64 i))],[(10000000,.rc [.int .i64 (r__0,(r__1,(r__2,(r__3,r__4)))).1,.imm y0_ (r__0,(r__1,(r__2,(r__3,r__4)))).2.1,.imm y0_ (r__0,(r__1,(r__2,(r__3,r__4)))).2.2.1,.int .i64 (r__0,(r__1,(r__2,(r__3,r__4)))).2.2.2.1,.imm (.sl y0_) (r__0,(r__1,(r__2,(r__3,r__4)))).2.2.2.2])])) he (Za [(10000000,1)]) ?_
 rintro i _ he
 refine Zh he (fun he=>?_) fun he=>?_
 ·refine And.intro (by kernel_rfl) ?_
  refine Zg he fun he=>?_
  refine Zh he (fun he=>?_) fun he=>?_
  ·exact ZL
  ·refine Zp (Zjg (r__0,(r__1,(r__2,(r__3,r__4)))) i) (fun k_=>(Zm [(1,.c (.ptr 10001000 0)),(3,.c (.int .i64 i)),(4,.c (.int .i64 k_))],[(10001000,.rc [.int .i64 (r__0,(r__1,(r__2,(r__3,r__4)))).1,.imm y0_ (r__0,(r__1,(r__2,(r__3,r__4)))).2.1,.imm y0_ (r__0,(r__1,(r__2,(r__3,r__4)))).2.2.1,.int .i64 (r__0,(r__1,(r__2,(r__3,r__4)))).2.2.2.1,.imm (.sl y0_) (r__0,(r__1,(r__2,(r__3,r__4)))).2.2.2.2])])) he (Za [(10001000,10000000)]) ?_
   rintro k_ _ he
   refine Zg he fun he=>?_
   refine Zh he (fun he=>?_) fun he=>?_
   ·refine Zg he fun he=>?_
    refine Zg he fun he=>?_
    refine ZD he (fun he=>?_) fun he=>?_
    ·refine Zg he fun he=>?_
     refine Zg he fun he=>?_
     exact ZvQ
    ·exact ZL
   ·refine Zg he fun he=>?_
    exact⟨_,(Zj he :),(Za [(10000000,10001000)])⟩
 ·exact ZL
end
end Go.AE.Y
