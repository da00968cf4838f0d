/-
  Walks: each function keeps the contract that its model gives. No conditions.
-/
import Derived.Test.YtaeeiddjpigemaaGreatR8Tab
import Derived.Test.YtaeeiddjpigemaaGreatR8W4
import Derived.Test.YtaeeiddjpigemaaGreatR8S
namespace Go.AE.Y
open Go Go.AE Go.Proofs
set_option linter.unusedVariables false
set_option maxHeartbeats 2000000
set_option maxRecDepth 100000
noncomputable section
def ZtM:Con:=ZJm
theorem ZCf:Zn Tryz.prog 182 ZtM:=ZKo ZPE
def Znr:Con:=fun
  |[.c (.imm (.int .i64) s1_),.c (.imm (.int .i64) s2_)],[]=>.opt _ (Zly s1_ s2_) (fun r=>.ret (.c (.bool r)) [])
  |_,_=>.fail
def Zz5:Cfg:={ y:=tys,n:=26,h:=0,tab:=[] }
theorem ZAC:Zn Tryz.prog 242 Znr:=by
 refine Zq (C:=Zz5) Tryz.f242 Zr fun _ a b k he=>?_
 unfold Znr at he;split at he;rotate_left;exact he.elim
 rename_i s1_ s2_
 refine Zs he fun he=>?_
 refine Zg he (fun he=>?_) fun he=>?_
 ·exact Zbf
 ·refine Zt (Ziv s1_ s2_) (fun i=>(Zm [(0,.c (.imm y0_ s1_)),(1,.c (.imm y0_ s2_)),(12,.c (.int .i64 (s1_.length:Int))),(13,.c (.int .i64 i))],[])) he (Za []) ?_
  exact ZJP
def Zmw:Con:=fun
  |[.c (.imm (.int .i64) row),.c (.ptr 0 0)],[(0,.rc [.imm (.int .i64) o0])]=>.opt _ (ZoH row o0) (fun r=>.ret (.c (.bool r)) [(0,.rc [.imm y0_ o0])])
  |_,_=>.fail
def Zzy:Cfg:={ y:=tys,n:=7,h:=1,tab:=[(242,Znr)] }
theorem ZzO:Zn Tryz.prog 241 Zmw:=by
 refine Zq (C:=Zzy) Tryz.f241 (Zk ZAC Zr) fun _ a b k he=>?_
 unfold Zmw at he;split at he;rotate_left;exact he.elim
 rename_i row o0
 refine Zs he fun he=>?_
 refine Zi he fun r1_ he=>?_
 exact Zvz
def ZcV:Con:=fun
  |[.c (.imm (.sl (.int .i64)) s_),.c (.fn 241 [0])],[(0,.rc [.imm (.int .i64) o0])]=>.opt _ (Zdn s_ o0) (fun r=>.ret (.c (.int .i64 r)) [(0,.rc [.imm y0_ o0])])
  |_,_=>.fail
def ZjZ:Cfg:={ y:=tys,n:=19,h:=1,tab:=[(241,Zmw)] }
theorem Zj1:Zn Tryz.prog 250 ZcV:=by
 refine Zq (C:=ZjZ) Tryz.f250 (Zk ZzO Zr) fun _ a b k he=>?_
 unfold ZcV at he;split at he;rotate_left;exact he.elim
 rename_i s_ o0
 refine Zs he fun he=>?_
 refine Zt (Zbm s_ o0) (fun i=>(Zm [(0,.c (.imm (.sl y0_) s_)),(1,.c (.fn 241 [0])),(7,.c (.int .i64 (s_.length:Int))),(8,.c (.int .i64 i))],[(0,.rc [.imm y0_ o0])])) he (Za []) ?_
 exact ZxZ
def ZcF:Con:=fun
  |[.c (.imm (.sl (.int .i64)) s_),.c (.fn 241 [0])],[(0,.rc [.imm (.int .i64) o0])]=>.opt _ (ZcR s_ o0) (fun r=>.ret (.c (.bool r)) [(0,.rc [.imm y0_ o0])])
  |_,_=>.fail
def ZiP:Cfg:={ y:=tys,n:=9,h:=1,tab:=[(250,ZcV)] }
theorem Zi2:Zn Tryz.prog 200 ZcF:=by
 refine Zq (C:=ZiP) Tryz.f200 (Zk Zj1 Zr) fun _ a b k he=>?_
 unfold ZcF at he;split at he;rotate_left;exact he.elim
 rename_i s_ o0
 refine Zs he fun he=>?_
 refine Zi he fun r1_ he=>?_
 exact Z3
def Zj3:Con:=fun
  |[.agg [.int .i64 r__0,.imm (.int .i64) r__1,.imm (.int .i64) r__2,.int .i64 r__3,.imm (.sl (.int .i64)) r__4],.c (.imm (.int .i64) vals)],[]=>.opt _ (Zjo (r__0,(r__1,(r__2,(r__3,r__4)))) vals) (fun r=>.ret (.c (.bool r)) [])
  |_,_=>.fail
def ZB5:Cfg:={ y:=tys,n:=63,h:=0,tab:=[(178,ZeN),(200,ZcF)] }
theorem ZtQ:Zn Tryz.prog 184 Zj3:=by
 refine Zq (C:=ZB5) Tryz.f184 (Zk ZkL (Zk Zi2 Zr)) fun _ a b k he=>?_
 unfold Zj3 at he;split at he;rotate_left;exact he.elim
 rename_i r__0 r__1 r__2 r__3 r__4 vals
 refine Zs he fun he=>?_
 refine Zg he (fun he=>?_) fun he=>?_
 ·refine Zt (ZnH (r__0,(r__1,(r__2,(r__3,r__4)))) vals) (fun (sum,i)=>(Zm [(2,.c (.ptr 10000000 0)),(5,.c (.int .i64 sum)),(14,.c (.imm y0_ vals)),(15,.c (.int .i64 (vals.length:Int))),(16,.c (.int .i64 i))],[(10000000,.rc [.int .i64 (r__0,(r__1,(r__2,(r__3,r__4)))).1,.imm y0_ (r__0,(r__1,(r__2,(r__3,r__4)))).2.1,.imm y0_ (r__0,(r__1,(r__2,(r__3,r__4)))).2.2.1,.int .i64 (r__0,(r__1,(r__2,(r__3,r__4)))).2.2.2.1,.imm (.sl y0_) (r__0,(r__1,(r__2,(r__3,r__4)))).2.2.2.2])])) he (Za [(10000000,2)]) ?_
  rintro⟨sum,i⟩ _ he
  refine Zg he (fun he=>?_) fun he=>?_
  ·exact ZBs
  ·exact Z3
 ·refine Zg he (fun he=>?_) fun he=>?_
  ·refine Zt (Zgo vals) (fun i1=>(Zm [(3,.c (.ptr 10001000 0)),(37,.c (.imm y0_ vals)),(38,.c (.int .i64 (vals.length:Int))),(39,.c (.int .i64 i1))],[(10001000,.rc [.imm y0_ vals])])) he (Za [(10001000,3)]) ?_
   rintro i1 _ he
   refine Zg he (fun he=>?_) fun he=>?_
   ·refine Zh he fun he=>?_
    exact ZN9
   ·exact Z3
  ·refine Zg he (fun he=>?_) fun he=>?_
   ·exact Zx5
   ·refine And.intro (by kernel_rfl) ?_
    exact ZHO
def ZeG:Con:=fun
  |[.c (.own 3 false),.c (.ptr 0 0),.c (.ptr 1 0),.c (.ptr 2 0)],[(0,.rc [.int .i64 o0_0,.imm (.int .i64) o0_1,.imm (.int .i64) o0_2,.int .i64 o0_3,.imm (.sl (.int .i64)) o0_4]),(1,.rc [.imm (.int .i64) o1_0,.imm (.pair (.int .i64) (.pair (.sl (.int .i64)) (.pair (.sl (.int .i64)) (.pair (.int .i64) (.sl (.sl (.int .i64))))))) o1_1]),(2,.rc [.own 4 false]),(3,.sl 3 (.int .i64) vals .shallow),(4,.sl 89 (.pair (.sl (.pair (.int .i64) (.int .i64))) (.int .i64)) o4 (.deep true .no))]=>.opt _ (ZdV (o0_0,(o0_1,(o0_2,(o0_3,o0_4)))) (o1_0,o1_1) vals o4) (fun r=>.ret (.c (.bool r.1)) [(0,.rc [.int .i64 o0_0,.imm y0_ o0_1,.imm y0_ o0_2,.int .i64 o0_3,.imm (.sl y0_) o0_4]),(1,.rc [.imm y0_ o1_0,.imm y5_ o1_1]),(2,.rc [.own 900 false]),(3,.sl 3 y0_ vals .shallow),(4,.dead),(900,.sl 89 y7_ r.2 (.deep true .no))])
  |_,_=>.fail
def Zgw:Sched:=.alt 7 (.first 8 (.alt 9 (.alt 10 (.first 11 .done) .stop) .stop)) .stop
def ZpE:Cfg:={ y:=tys,n:=44,h:=5,tab:=[(119,ZmW),(128,Zee),(184,Zj3)],cut:=[8],deep:=[42],sched:=[(6,(Zy [0,2,3,4,5] (.alt 1 (.alt 6 Zgw .stop) (.alt 6 (.alt 1 Zgw .stop) .stop))))] }
theorem ZLm {P:Prop} (h:P:=by
  skip
  refine Y4 ?_
  refine Y4 ?_
  refine⟨r4_,hq1,?_⟩
  refine And.intro hq2 ?_
  refine Y4 ?_
  refine Y4 ?_
  refine And.intro hq3 ?_
  refine Zh he fun he=>?_
  exact⟨_,(Zj he :),(Za [(10000000,33)])⟩):P:=h
theorem ZpT:Zn Tryz.prog 183 ZeG:=by
 refine Zq (C:=ZpE) Tryz.f183 (Zk ZwA (Zk Zhm (Zk ZtQ Zr))) fun _ a b k he=>?_
 unfold ZeG at he;split at he;rotate_left;exact he.elim
 rename_i o0_0 o0_1 o0_2 o0_3 o0_4 o1_0 o1_1 vals o4
 refine Zs he fun he=>?_
 refine Zi he fun r1_ he=>?_
 refine Zg he (fun he=>?_) fun he=>?_
 ·refine ZK (Zcq o4) (fun lits1=>(Zm [(3,.c (.ptr 2 0)),(6,.c (.own 10001000 false))],[(0,.rc [.int .i64 (o0_0,(o0_1,(o0_2,(o0_3,o0_4)))).1,.imm y0_ (o0_0,(o0_1,(o0_2,(o0_3,o0_4)))).2.1,.imm y0_ (o0_0,(o0_1,(o0_2,(o0_3,o0_4)))).2.2.1,.int .i64 (o0_0,(o0_1,(o0_2,(o0_3,o0_4)))).2.2.2.1,.imm (.sl y0_) (o0_0,(o0_1,(o0_2,(o0_3,o0_4)))).2.2.2.2]),(1,.rc [.imm y0_ (o1_0,o1_1).1,.imm y5_ (o1_0,o1_1).2]),(2,.rc [.own 4 false]),(3,.sl 3 y0_ vals .shallow),(4,.sl 89 y7_ o4 (.deep true .no)),(10001000,.sl 3 y0_ lits1 .shallow)])) he ?_ ?_
  ·rintro lits1 he
   refine Zi he fun r5_ he=>?_
   refine Zh he fun he=>?_
   exact Zv [(5,[])] (Zj he :) (Za [(900,43)])
  ·skip
   refine Zt (Zcr (o0_0,(o0_1,(o0_2,(o0_3,o0_4)))) (o1_0,o1_1) vals o4) (fun (i,lits)=>(Zm [(0,.c (.own 3 false)),(2,.c (.ptr 1 0)),(3,.c (.ptr 2 0)),(6,.c (.own 10000000 false)),(16,.c (.imm y0_ (o0_0,(o0_1,(o0_2,(o0_3,o0_4)))).2.1)),(17,.c (.int .i64 ((o0_0,(o0_1,(o0_2,(o0_3,o0_4)))).2.1.length:Int))),(18,.c (.int .i64 i))],[(0,.rc [.int .i64 (o0_0,(o0_1,(o0_2,(o0_3,o0_4)))).1,.imm y0_ (o0_0,(o0_1,(o0_2,(o0_3,o0_4)))).2.1,.imm y0_ (o0_0,(o0_1,(o0_2,(o0_3,o0_4)))).2.2.1,.int .i64 (o0_0,(o0_1,(o0_2,(o0_3,o0_4)))).2.2.2.1,.imm (.sl y0_) (o0_0,(o0_1,(o0_2,(o0_3,o0_4)))).2.2.2.2]),(1,.rc [.imm y0_ (o1_0,o1_1).1,.imm y5_ (o1_0,o1_1).2]),(2,.rc [.own 4 false]),(3,.sl 3 y0_ vals .shallow),(4,.sl 89 y7_ o4 (.deep true .no)),(10000000,.sl 3 y0_ lits .shallow)])) he (Za []) ?_
   rintro⟨i,lits⟩ _ he
   refine Zg he (fun he=>?_) fun he=>?_
   ·refine Zh he fun he=>?_
    refine And.intro (by kernel_rfl) ?_
    refine Zh he fun he=>?_
    obtain⟨r4_,hq1,he⟩:=ZS he
    obtain⟨hq2,he⟩:=ZD he
    obtain⟨hq3,he⟩:=ZD he
    refine Y5 ?_ ?_
    ·exact ZLm
    ·exact ZLm
   ·exact⟨_,(Zbn he :),(Za [(10001000,10000000)])⟩
 ·exact Zv [(5,[])] (Zj he :) (Za [(900,4)])
def Zc3:Con:=fun
  |[.c (.imm (.int .i64) sizes),.c (.imm (.int .i64) from_),.c (.fn 183 [0,1,2])],[(0,.rc [.int .i64 o0_0,.imm (.int .i64) o0_1,.imm (.int .i64) o0_2,.int .i64 o0_3,.imm (.sl (.int .i64)) o0_4]),(1,.rc [.imm (.int .i64) o1_0,.imm (.pair (.int .i64) (.pair (.sl (.int .i64)) (.pair (.sl (.int .i64)) (.pair (.int .i64) (.sl (.sl (.int .i64))))))) o1_1]),(2,.rc [.nil])]=>.opt _ (Zck sizes from_ (o0_0,(o0_1,(o0_2,(o0_3,o0_4)))) (o1_0,o1_1)) (fun r=>.ret (.tup []) [(0,.rc [.int .i64 o0_0,.imm y0_ o0_1,.imm y0_ o0_2,.int .i64 o0_3,.imm (.sl y0_) o0_4]),(1,.rc [.imm y0_ o1_0,.imm y5_ o1_1]),(2,.rc [.own 900 false]),(900,.sl 89 y7_ r (.deep true .no))])
  |_,_=>.fail
def Zkf:Cfg:={ y:=tys,n:=42,h:=3,tab:=[(75,Zd1),(183,ZeG)],cut:=[6],hand:=[(183,[0])] }
theorem ZLn {P:Prop} (h:P:=by
  rintro⟨i2,cells3⟩ _ he
  refine And.intro (by kernel_rfl) ?_
  refine Zg he (fun he=>?_) fun he=>?_
  ·refine Zh he fun he=>?_
   refine Zh he fun he=>?_
   refine Zg he (fun he=>?_) fun he=>?_
   ·exact ZBo
   ·exact⟨_,(Zbn he :),(Za [(10004000,10003000),(10004001,10003001)])⟩
  ·exact⟨_,(Zbn he :),(Za [(10004000,10003000),(10004001,10003001)])⟩):P:=h
theorem ZkK:Zn Tryz.prog 72 Zc3:=by
 refine Zq (C:=Zkf) Tryz.f72 (Zk Zgr (Zk ZpT Zr)) fun _ a b k he=>?_
 unfold Zc3 at he;split at he;rotate_left;exact he.elim
 rename_i sizes from_ o0_0 o0_1 o0_2 o0_3 o0_4 o1_0 o1_1
 refine Zs he fun he=>?_
 refine Zi he fun r1_ he=>?_
 refine Zt (Zb3 sizes (o0_0,(o0_1,(o0_2,(o0_3,o0_4)))) (o1_0,o1_1)) (fun (cells2,cap)=>(Zm [(0,.c (.imm y0_ sizes)),(2,.c (.fn 183 [0,1,2])),(6,.c (.own 10000000 false))],[(0,.rc [.int .i64 (o0_0,(o0_1,(o0_2,(o0_3,o0_4)))).1,.imm y0_ (o0_0,(o0_1,(o0_2,(o0_3,o0_4)))).2.1,.imm y0_ (o0_0,(o0_1,(o0_2,(o0_3,o0_4)))).2.2.1,.int .i64 (o0_0,(o0_1,(o0_2,(o0_3,o0_4)))).2.2.2.1,.imm (.sl y0_) (o0_0,(o0_1,(o0_2,(o0_3,o0_4)))).2.2.2.2]),(1,.rc [.imm y0_ (o1_0,o1_1).1,.imm y5_ (o1_0,o1_1).2]),(2,.rc [.own 10000001 false]),(10000000,.sl 3 y0_ cells2 .shallow),(10000001,.sl 89 y7_ cap (.deep true .no))])) he (Za [(10000000,10900)]) ?_
 rintro⟨cells2,cap⟩ _ he
 refine Zi he fun r3_ he=>?_
 refine Zg he (fun he=>?_) fun he=>?_
 ·refine Zh he fun he=>?_
  refine ZK (Zb2 r3_) (fun (i3,cells4)=>(Zm [(0,.c (.imm y0_ sizes)),(2,.c (.fn 183 [0,1,2])),(6,.c (.own 10004000 false)),(7,.c (.int .i64 i3))],[(0,.rc [.int .i64 (o0_0,(o0_1,(o0_2,(o0_3,o0_4)))).1,.imm y0_ (o0_0,(o0_1,(o0_2,(o0_3,o0_4)))).2.1,.imm y0_ (o0_0,(o0_1,(o0_2,(o0_3,o0_4)))).2.2.1,.int .i64 (o0_0,(o0_1,(o0_2,(o0_3,o0_4)))).2.2.2.1,.imm (.sl y0_) (o0_0,(o0_1,(o0_2,(o0_3,o0_4)))).2.2.2.2]),(1,.rc [.imm y0_ (o1_0,o1_1).1,.imm y5_ (o1_0,o1_1).2]),(2,.rc [.own 10004001 false]),(10004000,.sl 3 y0_ cells4 .shallow),(10004001,.sl 89 y7_ r3_.2 (.deep true .no))])) he ?_ ?_
  ·rintro⟨i3,cells4⟩ he
   refine Zg he (fun he=>?_) fun he=>?_
   ·exact Zv [] (Zj he :) (Za [(900,10004001)] (l:=[]) (st':=[(0,.rc [.int .i64 o0_0,.imm y0_ o0_1,.imm y0_ o0_2,.int .i64 o0_3,.imm (.sl y0_) o0_4]),(1,.rc [.imm y0_ o1_0,.imm y5_ o1_1]),(2,.rc [.own 900 false]),(900,.sl 89 y7_ r3_.2 (.deep true .no))]))
   ·refine Zh he fun he=>?_
    refine Zh he fun he=>?_
    refine Zh he fun he=>?_
    exact⟨_,(Zj he :),(Za [(10000000,10004000),(10000001,10004001)])⟩
  ·skip
   refine Zt (ZcW sizes r3_) (fun (i2,cells3)=>(Zm [(0,.c (.imm y0_ sizes)),(2,.c (.fn 183 [0,1,2])),(6,.c (.own 10003000 false)),(7,.c (.int .i64 i2))],[(0,.rc [.int .i64 (o0_0,(o0_1,(o0_2,(o0_3,o0_4)))).1,.imm y0_ (o0_0,(o0_1,(o0_2,(o0_3,o0_4)))).2.1,.imm y0_ (o0_0,(o0_1,(o0_2,(o0_3,o0_4)))).2.2.1,.int .i64 (o0_0,(o0_1,(o0_2,(o0_3,o0_4)))).2.2.2.1,.imm (.sl y0_) (o0_0,(o0_1,(o0_2,(o0_3,o0_4)))).2.2.2.2]),(1,.rc [.imm y0_ (o1_0,o1_1).1,.imm y5_ (o1_0,o1_1).2]),(2,.rc [.own 10003001 false]),(10003000,.sl 3 y0_ cells3 .shallow),(10003001,.sl 89 y7_ r3_.2 (.deep true .no))])) he (Za [(10003000,10000000),(10003001,13900)]) ?_
   exact ZLn
 ·exact Zv [] (Zj he :) (Za [(900,13900)] (l:=[]) (st':=[(0,.rc [.int .i64 o0_0,.imm y0_ o0_1,.imm y0_ o0_2,.int .i64 o0_3,.imm (.sl y0_) o0_4]),(1,.rc [.imm y0_ o1_0,.imm y5_ o1_1]),(2,.rc [.own 900 false]),(900,.sl 89 y7_ r3_.2 (.deep true .no))]))
def ZiS:Con:=fun
  |[.agg [.imm (.int .i64) a0_0,.imm (.pair (.int .i64) (.pair (.sl (.int .i64)) (.pair (.sl (.int .i64)) (.pair (.int .i64) (.sl (.sl (.int .i64))))))) a0_1],.agg [.int .i64 a1_0,.imm (.int .i64) a1_1,.imm (.int .i64) a1_2,.int .i64 a1_3,.imm (.sl (.int .i64)) a1_4]],[]=>.opt _ (Zb7 (a0_0,a0_1) (a1_0,(a1_1,(a1_2,(a1_3,a1_4))))) (fun r=>.ret (.c (.own 900 false)) [(900,.sl 89 y7_ r (.deep true .no))])
  |_,_=>.fail
def Zl0:Sched:=.alt 12 (.alt 13 (.alt 14 (.first 15 .done) .stop) .stop) .stop
def Zl1:Sched:=.alt 11 Zl0 .stop
def Zl2:Sched:=.alt 4 (.alt 5 .done .stop) .stop
def Zl3:Sched:=.alt 3 Zl2 .stop
def ZvF:Cfg:={ y:=tys,n:=128,h:=0,tab:=[(72,Zc3),(120,Zlc),(128,Zee),(129,Zmg),(182,ZtM)],cut:=[14,27,38],hand:=[(182,[0])],deep:=[65,101],sched:=[(11,(Zy [0,1,3,6,9,10] (.alt 2 (Zy [4,5,7] (.alt 8 Zl1 .stop)) (.alt 8 (.alt 2 (Zy [4,5,7] Zl1) (.alt 11 (.alt 2 (Zy [4,5,7] Zl0) .stop) .stop)) .stop)))),(29,(.first 1 (.alt 0 (.alt 2 Zl3 .stop) (.alt 2 (.alt 0 Zl3 (.alt 3 (.alt 0 Zl2 .stop) .stop)) .stop))))] }
theorem ZLo {P:Prop} (h:P:=by
  refine Zh he fun he=>?_
  exact⟨_,(Zj he :),(Za [(10002002,54)])⟩):P:=h
theorem ZFT {P:Prop} (h:P:=by
  refine Y4 ?_
  refine Y4 ?_
  refine Y4 ?_
  refine And.intro hq4 ?_
  exact ZLo):P:=h
theorem ZFU {P:Prop} (h:P:=by
  refine Y4 ?_
  refine Y4 ?_
  refine And.intro hq2 ?_
  refine Y4 ?_
  refine Zh he fun he=>?_
  exact⟨_,(Zj he :),(Za [(10004000,10008000),(10004001,10008001),(10004002,10008002),(10004003,102)])⟩):P:=h
theorem ZvS:Zn Tryz.prog 121 ZiS:=by
 refine Zq (C:=ZvF) Tryz.f121 (Zk ZkK (Zk Zu6 (Zk Zhm (Zk Zts (Zk ZCf Zr))))) fun _ a b k he=>?_
 unfold ZiS at he;split at he;rotate_left;exact he.elim
 rename_i a0_0 a0_1 a1_0 a1_1 a1_2 a1_3 a1_4
 refine Zs he fun he=>?_
 refine Zg he (fun he=>?_) fun he=>?_
 ·refine ZK (Ze9 (a1_0,(a1_1,(a1_2,(a1_3,a1_4))))) (fun i6=>(Zm [(3,.c (.ptr 10003000 0)),(6,.c (.own 10003001 false))],[(10003000,.rc [.int .i64 (a1_0,(a1_1,(a1_2,(a1_3,a1_4)))).1,.imm y0_ (a1_0,(a1_1,(a1_2,(a1_3,a1_4)))).2.1,.imm y0_ (a1_0,(a1_1,(a1_2,(a1_3,a1_4)))).2.2.1,.int .i64 (a1_0,(a1_1,(a1_2,(a1_3,a1_4)))).2.2.2.1,.imm (.sl y0_) (a1_0,(a1_1,(a1_2,(a1_3,a1_4)))).2.2.2.2]),(10003001,.sl 155 y6_ i6 .shallow)])) he ?_ ?_
  ·rintro i6 he
   refine Zi he fun r6_ he=>?_
   exact Zv [(4,[])] (Zj he :) (Za [(900,65)])
  ·skip
   refine Zt (ZhY (a0_0,a0_1) (a1_0,(a1_1,(a1_2,(a1_3,a1_4))))) (fun (i,i3)=>(Zm [(2,.c (.ptr 10000000 0)),(3,.c (.ptr 10000001 0)),(6,.c (.own 10000002 false)),(24,.c (.imm y0_ (a1_0,(a1_1,(a1_2,(a1_3,a1_4)))).2.1)),(25,.c (.int .i64 ((a1_0,(a1_1,(a1_2,(a1_3,a1_4)))).2.1.length:Int))),(26,.c (.int .i64 i))],[(10000000,.rc [.imm y0_ (a0_0,a0_1).1,.imm y5_ (a0_0,a0_1).2]),(10000001,.rc [.int .i64 (a1_0,(a1_1,(a1_2,(a1_3,a1_4)))).1,.imm y0_ (a1_0,(a1_1,(a1_2,(a1_3,a1_4)))).2.1,.imm y0_ (a1_0,(a1_1,(a1_2,(a1_3,a1_4)))).2.2.1,.int .i64 (a1_0,(a1_1,(a1_2,(a1_3,a1_4)))).2.2.2.1,.imm (.sl y0_) (a1_0,(a1_1,(a1_2,(a1_3,a1_4)))).2.2.2.2]),(10000002,.sl 155 y6_ i3 .shallow)])) he (Za [(10000000,2),(10000001,3)]) ?_
   rintro⟨i,i3⟩ _ he
   refine Zg he (fun he=>?_) fun he=>?_
   ·refine Zh he fun he=>?_
    refine Zh he fun he=>?_
    refine Zh he fun he=>?_
    refine Zt (Zc9 (a0_0,a0_1) (a1_0,(a1_1,(a1_2,(a1_3,a1_4)))) i) (fun (i4,i5)=>(Zm [(2,.c (.ptr 10002000 0)),(3,.c (.ptr 10002001 0)),(6,.c (.own 10002002 false)),(7,.c (.int .i64 i)),(8,.c (.int .i64 ((a1_0,(a1_1,(a1_2,(a1_3,a1_4)))).2.1.getD i.toNat 0))),(24,.c (.imm y0_ (a1_0,(a1_1,(a1_2,(a1_3,a1_4)))).2.1)),(25,.c (.int .i64 ((a1_0,(a1_1,(a1_2,(a1_3,a1_4)))).2.1.length:Int))),(26,.c (.int .i64 i)),(36,.c (.int .i64 (((a0_0,a0_1).1.getD ((a1_0,(a1_1,(a1_2,(a1_3,a1_4)))).2.1.getD i.toNat 0).toNat 0)+(1:Int)))),(37,.c (.int .i64 i4))],[(10002000,.rc [.imm y0_ (a0_0,a0_1).1,.imm y5_ (a0_0,a0_1).2]),(10002001,.rc [.int .i64 (a1_0,(a1_1,(a1_2,(a1_3,a1_4)))).1,.imm y0_ (a1_0,(a1_1,(a1_2,(a1_3,a1_4)))).2.1,.imm y0_ (a1_0,(a1_1,(a1_2,(a1_3,a1_4)))).2.2.1,.int .i64 (a1_0,(a1_1,(a1_2,(a1_3,a1_4)))).2.2.2.1,.imm (.sl y0_) (a1_0,(a1_1,(a1_2,(a1_3,a1_4)))).2.2.2.2]),(10002002,.sl 155 y6_ i5 .shallow)])) he (Za [(10002000,10000000),(10002001,10000001),(10002002,10000002)]) ?_
    rintro⟨i4,i5⟩ _ he
    refine Zg he (fun he=>?_) fun he=>?_
    ·refine And.intro (by kernel_rfl) ?_
     obtain⟨hq1,he⟩:=ZD he
     obtain⟨hq2,he⟩:=ZD he
     obtain⟨r5_,hq3,he⟩:=ZS he
     obtain⟨hq4,he⟩:=ZD he
     refine Y5 ?_ ?_
     ·skip
      refine And.intro hq1 ?_
      refine And.intro hq2 ?_
      refine Y4 ?_
      refine Y4 ?_
      refine⟨r5_,hq3,?_⟩
      exact ZFT
     ·skip
      refine Y5 ?_ ?_
      ·skip
       refine And.intro hq1 ?_
       refine And.intro hq2 ?_
       refine Y4 ?_
       refine⟨r5_,hq3,?_⟩
       exact ZFT
      ·skip
       refine⟨r5_,hq3,?_⟩
       refine Y4 ?_
       refine And.intro hq1 ?_
       refine And.intro hq2 ?_
       exact ZFT
    ·refine Zh he fun he=>?_
     exact⟨_,(Zj he :),(Za [(10000000,10002000),(10000001,10002001),(10000002,10002002)])⟩
   ·exact⟨_,(Zbn he :),(Za [(10003000,10000001),(10003001,10000002)])⟩
 ·refine Zg he (fun he=>?_) fun he=>?_
  ·refine Zt (ZhZ (a0_0,a0_1) (a1_0,(a1_1,(a1_2,(a1_3,a1_4))))) (fun (i7,i11)=>(Zm [(2,.c (.ptr 10004000 0)),(3,.c (.ptr 10004001 0)),(5,.c (.ptr 10004002 0)),(68,.c (.int .i64 i7))],[(10004000,.rc [.imm y0_ (a0_0,a0_1).1,.imm y5_ (a0_0,a0_1).2]),(10004001,.rc [.int .i64 (a1_0,(a1_1,(a1_2,(a1_3,a1_4)))).1,.imm y0_ (a1_0,(a1_1,(a1_2,(a1_3,a1_4)))).2.1,.imm y0_ (a1_0,(a1_1,(a1_2,(a1_3,a1_4)))).2.2.1,.int .i64 (a1_0,(a1_1,(a1_2,(a1_3,a1_4)))).2.2.2.1,.imm (.sl y0_) (a1_0,(a1_1,(a1_2,(a1_3,a1_4)))).2.2.2.2]),(10004002,.rc [.own 10004003 false]),(10004003,.sl 89 y7_ i11 (.deep true .no))])) he (Za [(10004000,2),(10004001,3),(10004002,5)]) ?_
   rintro⟨i7,i11⟩ _ he
   refine Zg he (fun he=>?_) fun he=>?_
   ·refine ZK (Zd3 i7 i11) (fun i14=>(Zm [(2,.c (.ptr 10008000 0)),(3,.c (.ptr 10008001 0)),(5,.c (.ptr 10008002 0)),(13,.c (.own 10008003 false)),(68,.c (.int .i64 i7))],[(10008000,.rc [.imm y0_ (a0_0,a0_1).1,.imm y5_ (a0_0,a0_1).2]),(10008001,.rc [.int .i64 (a1_0,(a1_1,(a1_2,(a1_3,a1_4)))).1,.imm y0_ (a1_0,(a1_1,(a1_2,(a1_3,a1_4)))).2.1,.imm y0_ (a1_0,(a1_1,(a1_2,(a1_3,a1_4)))).2.2.1,.int .i64 (a1_0,(a1_1,(a1_2,(a1_3,a1_4)))).2.2.2.1,.imm (.sl y0_) (a1_0,(a1_1,(a1_2,(a1_3,a1_4)))).2.2.2.2]),(10008002,.rc [.own 10008004 false]),(10008003,.sl 3 y0_ i14 .shallow),(10008004,.sl 89 y7_ i11 (.deep true .no))])) he ?_ ?_
    ·rintro i14 he
     refine Zg he (fun he=>?_) fun he=>?_
     ·refine Zi he fun r14_ he=>?_
      refine And.intro (by kernel_rfl) ?_
      obtain⟨r15_,hq1,he⟩:=ZS he
      obtain⟨hq2,he⟩:=ZD he
      refine Y5 ?_ ?_
      ·skip
       refine Y4 ?_
       refine⟨r15_,hq1,?_⟩
       exact ZFU
      ·skip
       refine⟨r15_,hq1,?_⟩
       refine Y5 ?_ ?_
       ·skip
        exact ZFU
       ·skip
        exact ZFU
     ·refine Zh he fun he=>?_
      exact⟨_,(Zj he :),(Za [(10004000,10008000),(10004001,10008001),(10004002,10008002),(10004003,10008004)])⟩
    ·skip
     refine Zt (Zd5 (a0_0,a0_1) (a1_0,(a1_1,(a1_2,(a1_3,a1_4)))) i7 i11) (fun (i12,i13)=>(Zm [(2,.c (.ptr 10007000 0)),(3,.c (.ptr 10007001 0)),(5,.c (.ptr 10007002 0)),(12,.c (.int .i64 i7)),(13,.c (.own 10007003 false)),(68,.c (.int .i64 i7)),(72,.c (.imm y0_ (a1_0,(a1_1,(a1_2,(a1_3,a1_4)))).2.1)),(73,.c (.int .i64 ((a1_0,(a1_1,(a1_2,(a1_3,a1_4)))).2.1.length:Int))),(74,.c (.int .i64 i12))],[(10007000,.rc [.imm y0_ (a0_0,a0_1).1,.imm y5_ (a0_0,a0_1).2]),(10007001,.rc [.int .i64 (a1_0,(a1_1,(a1_2,(a1_3,a1_4)))).1,.imm y0_ (a1_0,(a1_1,(a1_2,(a1_3,a1_4)))).2.1,.imm y0_ (a1_0,(a1_1,(a1_2,(a1_3,a1_4)))).2.2.1,.int .i64 (a1_0,(a1_1,(a1_2,(a1_3,a1_4)))).2.2.2.1,.imm (.sl y0_) (a1_0,(a1_1,(a1_2,(a1_3,a1_4)))).2.2.2.2]),(10007002,.rc [.own 10007004 false]),(10007003,.sl 3 y0_ i13 .shallow),(10007004,.sl 89 y7_ i11 (.deep true .no))])) he (Za [(10007000,10004000),(10007001,10004001),(10007002,10004002),(10007004,10004003)]) ?_
     rintro⟨i12,i13⟩ _ he
     refine Zg he (fun he=>?_) fun he=>?_
     ·refine Zh he fun he=>?_
      refine Zh he fun he=>?_
      refine Zg he (fun he=>?_) fun he=>?_
      ·refine Zi he fun r13_ he=>?_
       refine Zh he fun he=>?_
       refine Zh he fun he=>?_
       exact⟨_,(Zj he :),(Za [(10007003,91)])⟩
      ·exact ZdC
     ·exact⟨_,(Zbn he :),(Za [(10008000,10007000),(10008001,10007001),(10008002,10007002),(10008003,10007003),(10008004,10007004)])⟩
   ·exact Zv [(4,[])] (Zj he :) (Za [(900,10004003)])
  ·refine ZK (Zd4 (a0_0,a0_1) (a1_0,(a1_1,(a1_2,(a1_3,a1_4))))) (fun i17=>(Zm [(2,.c (.ptr 10010000 0)),(3,.c (.ptr 10010001 0)),(5,.c (.ptr 10010002 0)),(16,.c (.own 10010003 false))],[(10010000,.rc [.imm y0_ (a0_0,a0_1).1,.imm y5_ (a0_0,a0_1).2]),(10010001,.rc [.int .i64 (a1_0,(a1_1,(a1_2,(a1_3,a1_4)))).1,.imm y0_ (a1_0,(a1_1,(a1_2,(a1_3,a1_4)))).2.1,.imm y0_ (a1_0,(a1_1,(a1_2,(a1_3,a1_4)))).2.2.1,.int .i64 (a1_0,(a1_1,(a1_2,(a1_3,a1_4)))).2.2.2.1,.imm (.sl y0_) (a1_0,(a1_1,(a1_2,(a1_3,a1_4)))).2.2.2.2]),(10010002,.rc [.nil]),(10010003,.sl 3 y0_ i17 .shallow)])) he ?_ ?_
   ·rintro i17 he
    refine Zh he fun he=>?_
    refine Zi he fun r16_ he=>?_
    exact Zv [(4,[])] (Zj he :) (Za [(900,127900)])
   ·skip
    refine Zt (Zd6 (a0_0,a0_1) (a1_0,(a1_1,(a1_2,(a1_3,a1_4))))) (fun (i15,i16)=>(Zm [(2,.c (.ptr 10009000 0)),(3,.c (.ptr 10009001 0)),(5,.c (.ptr 10009002 0)),(16,.c (.own 10009003 false)),(106,.c (.imm y0_ (a1_0,(a1_1,(a1_2,(a1_3,a1_4)))).2.1)),(107,.c (.int .i64 ((a1_0,(a1_1,(a1_2,(a1_3,a1_4)))).2.1.length:Int))),(108,.c (.int .i64 i15))],[(10009000,.rc [.imm y0_ (a0_0,a0_1).1,.imm y5_ (a0_0,a0_1).2]),(10009001,.rc [.int .i64 (a1_0,(a1_1,(a1_2,(a1_3,a1_4)))).1,.imm y0_ (a1_0,(a1_1,(a1_2,(a1_3,a1_4)))).2.1,.imm y0_ (a1_0,(a1_1,(a1_2,(a1_3,a1_4)))).2.2.1,.int .i64 (a1_0,(a1_1,(a1_2,(a1_3,a1_4)))).2.2.2.1,.imm (.sl y0_) (a1_0,(a1_1,(a1_2,(a1_3,a1_4)))).2.2.2.2]),(10009002,.rc [.nil]),(10009003,.sl 3 y0_ i16 .shallow)])) he (Za [(10009000,2),(10009001,3),(10009002,5)]) ?_
    rintro⟨i15,i16⟩ _ he
    refine Zg he (fun he=>?_) fun he=>?_
    ·refine Zh he fun he=>?_
     refine Zh he fun he=>?_
     refine Zh he fun he=>?_
     refine Zh he fun he=>?_
     exact⟨_,(Zj he :),(Za [(10009003,119)])⟩
    ·exact⟨_,(Zbn he :),(Za [(10010000,10009000),(10010001,10009001),(10010002,10009002),(10010003,10009003)])⟩
def Znm:Con:=fun
  |[.agg [.imm (.int .i64) m_0,.imm (.pair (.int .i64) (.pair (.sl (.int .i64)) (.pair (.sl (.int .i64)) (.pair (.int .i64) (.sl (.sl (.int .i64))))))) m_1]],[]=>.opt _ (Zlo (m_0,m_1)) (fun r=>.ret (.tup [.c (.own 900 false),.c (.bool r.1)]) [(900,.sl 89 y7_ r.2 (.deep true .no))])
  |_,_=>.fail
def Zp5:Sched:=.alt 4 (.alt 5 (.first 6 .done) .stop) .stop
def ZzY:Cfg:={ y:=tys,n:=52,h:=0,tab:=[(71,Zfn),(118,Zmu),(119,ZmW),(120,Zlc),(121,ZiS)],cut:=[11,16],deep:=[32],sched:=[(9,(Zy [0,2] (.alt 1 (.alt 3 Zp5 .stop) (.alt 3 (.alt 1 Zp5 .stop) .stop))))] }
theorem ZLp {P:Prop} (h:P:=by
  refine Y4 ?_
  refine Y4 ?_
  refine And.intro hq2 ?_
  refine Zh he fun he=>?_
  exact⟨_,(Zj he :),(Za [(10000001,33)])⟩):P:=h
theorem ZAw:Zn Tryz.prog 48 Znm:=by
 refine Zq (C:=ZzY) Tryz.f48 (Zk Zj9 (Zk ZzM (Zk ZwA (Zk Zu6 (Zk ZvS Zr))))) fun _ a b k he=>?_
 unfold Znm at he;split at he;rotate_left;exact he.elim
 rename_i m_0 m_1
 refine Zs he fun he=>?_
 refine Zi he fun r1_ he=>?_
 refine Zg he (fun he=>?_) fun he=>?_
 ·exact Zv [(2,[]),(3,[])] (Zj he :) (Za [])
 ·refine ZK (Zip (m_0,m_1)) (fun out1=>(Zm [(1,.c (.ptr 10001000 0)),(4,.c (.own 10001001 false))],[(10001000,.rc [.imm y0_ (m_0,m_1).1,.imm y5_ (m_0,m_1).2]),(10001001,.sl 89 y7_ out1 (.deep true .no))])) he ?_ ?_
  ·rintro out1 he
   refine ZK (Ziq) (fun out3=>(Zm [(4,.c (.own 10003000 false))],[(10003000,.sl 89 y7_ out3 (.deep true .no))])) he ?_ ?_
   ·rintro out3 he
    refine Zg he (fun he=>?_) fun he=>?_
    ·exact Zv [(2,[]),(3,[])] (Zj he :) (Za [])
    ·exact Zv [(2,[]),(3,[])] (Zj he :) (Za [(900,10003000)])
   ·skip
    refine Zt (Zir (m_0,m_1)) (fun (i1,out2)=>(Zm [(1,.c (.ptr 10002000 0)),(4,.c (.own 10002001 false)),(36,.c (.imm y5_ (m_0,m_1).2)),(37,.c (.int .i64 ((m_0,m_1).2.length:Int))),(38,.c (.int .i64 i1))],[(10002000,.rc [.imm y0_ (m_0,m_1).1,.imm y5_ (m_0,m_1).2]),(10002001,.sl 89 y7_ out2 (.deep true .no))])) he (Za [(10002000,10001000),(10002001,10001001)]) ?_
    rintro⟨i1,out2⟩ _ he
    refine Zg he (fun he=>?_) fun he=>?_
    ·refine Zh he fun he=>?_
     refine Zi he fun r10_ he=>?_
     refine Zh he fun he=>?_
     refine Zh he fun he=>?_
     exact⟨_,(Zj he :),(Za [(10002001,46)])⟩
    ·exact⟨_,(Zbn he :),(Za [(10003000,10002001)])⟩
  ·skip
   refine Zt (Zis (m_0,m_1)) (fun (i,out)=>(Zm [(1,.c (.ptr 10000000 0)),(4,.c (.own 10000001 false)),(16,.c (.int .i64 ((m_0,m_1).1.length:Int))),(17,.c (.int .i64 i))],[(10000000,.rc [.imm y0_ (m_0,m_1).1,.imm y5_ (m_0,m_1).2]),(10000001,.sl 89 y7_ out (.deep true .no))])) he (Za [(10000000,1)]) ?_
   rintro⟨i,out⟩ _ he
   refine Zg he (fun he=>?_) fun he=>?_
   ·refine Zi he fun r6_ he=>?_
    refine Zi he fun r7_ he=>?_
    refine And.intro (by kernel_rfl) ?_
    obtain⟨r8_,hq1,he⟩:=ZS he
    obtain⟨hq2,he⟩:=ZD he
    refine Y5 ?_ ?_
    ·skip
     refine Y4 ?_
     refine⟨r8_,hq1,?_⟩
     exact ZLp
    ·skip
     refine⟨r8_,hq1,?_⟩
     refine Y4 ?_
     exact ZLp
   ·exact⟨_,(Zbn he :),(Za [(10001000,10000000),(10001001,10000001)])⟩
def ZrD:Con:=fun
  |[.agg [.imm (.int .i64) m_0,.imm (.pair (.int .i64) (.pair (.sl (.int .i64)) (.pair (.sl (.int .i64)) (.pair (.int .i64) (.sl (.sl (.int .i64))))))) m_1]],[]=>.opt _ (ZnI (m_0,m_1)) (fun r=>.ret (.tup [.c (.own 900 false),.c (.bool r.1)]) [(900,.sl 89 y7_ r.2 (.deep true .no))])
  |_,_=>.fail
def ZEV:Cfg:={ y:=tys,n:=18,h:=0,tab:=[(48,Znm)] }
theorem ZLq {P:Prop} (h:P:=by
  exact Zv [(2,[]),(3,[])] (Zj he :) (Za [(900,9900)])):P:=h
theorem ZFm:Zn Tryz.prog 55 ZrD:=by
 refine Zq (C:=ZEV) Tryz.f55 (Zk ZAw Zr) fun _ a b k he=>?_
 unfold ZrD at he;split at he;rotate_left;exact he.elim
 rename_i m_0 m_1
 refine Zs he fun he=>?_
 refine Zi he fun r1_ he=>?_
 refine Zg he (fun he=>?_) fun he=>?_
 ·exact ZLq
 ·exact ZLq
def Zj2:Con:=fun
  |[.agg [.imm (.int .i64) m_0,.imm (.pair (.int .i64) (.pair (.sl (.int .i64)) (.pair (.sl (.int .i64)) (.pair (.int .i64) (.sl (.sl (.int .i64))))))) m_1],.c (.imm (.int .i64) cells)],[]=>.opt _ (Zjl (m_0,m_1) cells) (fun r=>.ret (.c (.bool r)) [])
  |_,_=>.fail
def ZB2:Cfg:={ y:=tys,n:=34,h:=0,tab:=[(71,Zfn),(127,Zb9)] }
theorem ZtP:Zn Tryz.prog 76 Zj2:=by
 refine Zq (C:=ZB2) Tryz.f76 (Zk Zj9 (Zk ZcH Zr)) fun _ a b k he=>?_
 unfold Zj2 at he;split at he;rotate_left;exact he.elim
 rename_i m_0 m_1 cells
 refine Zs he fun he=>?_
 refine Zi he fun r1_ he=>?_
 refine ZC he (fun he=>?_) fun he=>?_
 ·refine Zg he (fun he=>?_) fun he=>?_
  ·exact Z3
  ·refine Zt (Zjm (m_0,m_1) cells) (fun i=>(Zm [(2,.c (.ptr 10000000 0)),(18,.c (.imm y0_ cells)),(19,.c (.int .i64 (cells.length:Int))),(20,.c (.int .i64 i))],[(10000000,.rc [.imm y0_ (m_0,m_1).1,.imm y5_ (m_0,m_1).2])])) he (Za [(10000000,2)]) ?_
   rintro i _ he
   refine Zg he (fun he=>?_) fun he=>?_
   ·refine Zh he fun he=>?_
    exact ZLh
   ·exact Z3
 ·exact Z3
def ZrC:Con:=fun
  |[.agg [.int .i64 r__0,.imm (.int .i64) r__1,.imm (.int .i64) r__2,.int .i64 r__3,.imm (.sl (.int .i64)) r__4],.c (.imm (.int .i64) cells)],[]=>.opt _ (ZqX (r__0,(r__1,(r__2,(r__3,r__4)))) cells) (fun r=>.ret (.c (.bool r)) [])
  |_,_=>.fail
def ZEU:Cfg:={ y:=tys,n:=26,h:=0,tab:=[(184,Zj3)],cut:=[7] }
theorem ZFV {P:Prop} (h:P:=by
  refine Zi he fun r1_ he=>?_
  exact Z3):P:=h
theorem ZFl:Zn Tryz.prog 142 ZrC:=by
 refine Zq (C:=ZEU) Tryz.f142 (Zk ZtQ Zr) fun _ a b k he=>?_
 unfold ZrC at he;split at he;rotate_left;exact he.elim
 rename_i r__0 r__1 r__2 r__3 r__4 cells
 refine Zs he fun he=>?_
 refine ZK (ZqY (r__0,(r__1,(r__2,(r__3,r__4))))) (fun vals1=>(Zm [(2,.c (.ptr 10001000 0)),(5,.c (.own 10001001 false))],[(10001000,.rc [.int .i64 (r__0,(r__1,(r__2,(r__3,r__4)))).1,.imm y0_ (r__0,(r__1,(r__2,(r__3,r__4)))).2.1,.imm y0_ (r__0,(r__1,(r__2,(r__3,r__4)))).2.2.1,.int .i64 (r__0,(r__1,(r__2,(r__3,r__4)))).2.2.2.1,.imm (.sl y0_) (r__0,(r__1,(r__2,(r__3,r__4)))).2.2.2.2]),(10001001,.sl 3 y0_ vals1 .shallow)])) he ?_ ?_
 ·rintro vals1 he
  exact ZFV
 ·skip
  refine Zt (ZmY (r__0,(r__1,(r__2,(r__3,r__4)))) cells) (fun (i,vals)=>(Zm [(1,.c (.imm y0_ cells)),(2,.c (.ptr 10000000 0)),(5,.c (.own 10000001 false)),(9,.c (.imm y0_ (r__0,(r__1,(r__2,(r__3,r__4)))).2.1)),(10,.c (.int .i64 ((r__0,(r__1,(r__2,(r__3,r__4)))).2.1.length:Int))),(11,.c (.int .i64 i))],[(10000000,.rc [.int .i64 (r__0,(r__1,(r__2,(r__3,r__4)))).1,.imm y0_ (r__0,(r__1,(r__2,(r__3,r__4)))).2.1,.imm y0_ (r__0,(r__1,(r__2,(r__3,r__4)))).2.2.1,.int .i64 (r__0,(r__1,(r__2,(r__3,r__4)))).2.2.2.1,.imm (.sl y0_) (r__0,(r__1,(r__2,(r__3,r__4)))).2.2.2.2]),(10000001,.sl 3 y0_ vals .shallow)])) he (Za [(10000000,2)]) ?_
  rintro⟨i,vals⟩ _ he
  refine Zg he (fun he=>?_) fun he=>?_
  ·refine Zh he fun he=>?_
   refine Zh he fun he=>?_
   refine Zh he fun he=>?_
   refine Zh he fun he=>?_
   exact⟨_,(Zj he :),(Za [(10000001,21)])⟩
  ·exact⟨_,(Zbn he :),(Za [(10001000,10000000),(10001001,10000001)])⟩
def Zky:Con:=fun
  |[.agg [.int .i64 r__0,.imm (.int .i64) r__1,.imm (.int .i64) r__2,.int .i64 r__3,.imm (.sl (.int .i64)) r__4],.c (.ptr 0 0)],[(0,.rc [.imm (.int .i64) o0])]=>.opt _ (ZmE (r__0,(r__1,(r__2,(r__3,r__4)))) o0) (fun r=>.ret (.c (.bool r)) [(0,.rc [.imm y0_ o0])])
  |_,_=>.fail
def Zxh:Cfg:={ y:=tys,n:=8,h:=1,tab:=[(142,ZrC)] }
theorem Zxx:Zn Tryz.prog 141 Zky:=by
 refine Zq (C:=Zxh) Tryz.f141 (Zk ZFl Zr) fun _ a b k he=>?_
 unfold Zky at he;split at he;rotate_left;exact he.elim
 rename_i r__0 r__1 r__2 r__3 r__4 o0
 refine Zs he fun he=>?_
 refine Zi he fun r1_ he=>?_
 exact Zvz
def Zcs:Con:=fun
  |[.c (.imm (.pair (.int .i64) (.pair (.sl (.int .i64)) (.pair (.sl (.int .i64)) (.pair (.int .i64) (.sl (.sl (.int .i64))))))) s_),.c (.fn 141 [0])],[(0,.rc [.imm (.int .i64) o0])]=>.opt _ (ZcD s_ o0) (fun r=>.ret (.c (.int .i64 r)) [(0,.rc [.imm y0_ o0])])
  |_,_=>.fail
def ZhI:Cfg:={ y:=tys,n:=19,h:=1,tab:=[(141,Zky)] }
theorem ZhL:Zn Tryz.prog 198 Zcs:=by
 refine Zq (C:=ZhI) Tryz.f198 (Zk Zxx Zr) fun _ a b k he=>?_
 unfold Zcs at he;split at he;rotate_left;exact he.elim
 rename_i s_ o0
 refine Zs he fun he=>?_
 refine Zt (Z7 s_ o0) (fun i=>(Zm [(0,.c (.imm y5_ s_)),(1,.c (.fn 141 [0])),(7,.c (.int .i64 (s_.length:Int))),(8,.c (.int .i64 i))],[(0,.rc [.imm y0_ o0])])) he (Za []) ?_
 exact ZxZ
def Zca:Con:=fun
  |[.c (.imm (.pair (.int .i64) (.pair (.sl (.int .i64)) (.pair (.sl (.int .i64)) (.pair (.int .i64) (.sl (.sl (.int .i64))))))) s_),.c (.fn 141 [0])],[(0,.rc [.imm (.int .i64) o0])]=>.opt _ (Zcm s_ o0) (fun r=>.ret (.c (.bool r)) [(0,.rc [.imm y0_ o0])])
  |_,_=>.fail
def ZgN:Cfg:={ y:=tys,n:=9,h:=1,tab:=[(198,Zcs)] }
theorem ZgS:Zn Tryz.prog 138 Zca:=by
 refine Zq (C:=ZgN) Tryz.f138 (Zk ZhL Zr) fun _ a b k he=>?_
 unfold Zca at he;split at he;rotate_left;exact he.elim
 rename_i s_ o0
 refine Zs he fun he=>?_
 refine Zi he fun r1_ he=>?_
 exact Z3
def Zim:Con:=fun
  |[.agg [.imm (.int .i64) m_0,.imm (.pair (.int .i64) (.pair (.sl (.int .i64)) (.pair (.sl (.int .i64)) (.pair (.int .i64) (.sl (.sl (.int .i64))))))) m_1],.c (.imm (.int .i64) cells)],[]=>.opt _ (ZgY (m_0,m_1) cells) (fun r=>.ret (.c (.bool r)) [])
  |_,_=>.fail
def Zzv:Cfg:={ y:=tys,n:=10,h:=0,tab:=[(138,Zca)] }
theorem Zrs:Zn Tryz.prog 74 Zim:=by
 refine Zq (C:=Zzv) Tryz.f74 (Zk ZgS Zr) fun _ a b k he=>?_
 unfold Zim at he;split at he;rotate_left;exact he.elim
 rename_i m_0 m_1 cells
 refine Zs he fun he=>?_
 refine Zi he fun r1_ he=>?_
 exact Z3
def Znn:Con:=fun
  |[.agg [.imm (.int .i64) m_0,.imm (.pair (.int .i64) (.pair (.sl (.int .i64)) (.pair (.sl (.int .i64)) (.pair (.int .i64) (.sl (.sl (.int .i64))))))) m_1],.c (.imm (.int .i64) cells)],[]=>.opt _ (Zlp (m_0,m_1) cells) (fun r=>.ret (.c (.bool r)) [])
  |_,_=>.fail
def ZzZ:Cfg:={ y:=tys,n:=13,h:=0,tab:=[(74,Zim),(76,Zj2)] }
theorem ZAx:Zn Tryz.prog 77 Znn:=by
 refine Zq (C:=ZzZ) Tryz.f77 (Zk Zrs (Zk ZtP Zr)) fun _ a b k he=>?_
 unfold Znn at he;split at he;rotate_left;exact he.elim
 rename_i m_0 m_1 cells
 refine Zs he fun he=>?_
 refine Zi he fun r1_ he=>?_
 refine Zg he (fun he=>?_) fun he=>?_
 ·exact Zx5
 ·exact Z3
def Zld:Con:=fun
  |[.c (.int .i64 n)],[]=>.opt _ (ZnJ n) (fun r=>.ret (.c (.bool r)) [])
  |_,_=>.fail
def Zyd:Cfg:={ y:=tys,n:=6,h:=0,tab:=[(127,Zb9)] }
theorem ZyD:Zn Tryz.prog 126 Zld:=by
 refine Zq (C:=Zyd) Tryz.f126 (Zk ZcH Zr) fun _ a b k he=>?_
 unfold Zld at he;split at he;rotate_left;exact he.elim
 rename_i n
 refine Zs he fun he=>?_
 refine Zi he fun r1_ he=>?_
 exact Zbf
def Zc4:Con:=fun
  |[.c (.imm (.int .i64) s_),.c (.fn 126 [])],[]=>.opt _ (Zdv s_) (fun r=>.ret (.c (.int .i64 r)) [])
  |_,_=>.fail
def Zkm:Cfg:={ y:=tys,n:=19,h:=0,tab:=[(126,Zld)] }
theorem ZkM:Zn Tryz.prog 186 Zc4:=by
 refine Zq (C:=Zkm) Tryz.f186 (Zk ZyD Zr) fun _ a b k he=>?_
 unfold Zc4 at he;split at he;rotate_left;exact he.elim
 rename_i s_
 refine Zs he fun he=>?_
 refine Zt (Zbo s_) (fun i=>(Zm [(0,.c (.imm y0_ s_)),(1,.c (.fn 126 [])),(7,.c (.int .i64 (s_.length:Int))),(8,.c (.int .i64 i))],[])) he (Za []) ?_
 exact ZBu
end
end Go.AE.Y
