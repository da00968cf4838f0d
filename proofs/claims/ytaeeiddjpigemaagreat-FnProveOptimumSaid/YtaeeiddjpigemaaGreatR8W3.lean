/-
  Walks: each function keeps the contract that its model gives. No conditions.
-/
import Derived.Test.YtaeeiddjpigemaaGreatR8Tab
import Derived.Test.YtaeeiddjpigemaaGreatR8W2
import Derived.Test.YtaeeiddjpigemaaGreatR8S
namespace Go.AE.Y
open Go Go.AE Go.Proofs
set_option linter.unusedVariables false
set_option maxHeartbeats 2000000
set_option maxRecDepth 100000
noncomputable section
def Zsq:Con:=ZGO
theorem ZzX:Zn Tryz.prog 182 Zsq:=ZHU ZM6
def ZmG:Con:=fun
  |[.c (.imm (.int .i64) s1_),.c (.imm (.int .i64) s2_)],[]=>.opt _ (Zk4 s1_ s2_) (fun r=>.ret (.c (.bool r)) [])
  |_,_=>.fail
def ZxS:Cfg:={ y:=tys,n:=26,h:=0,tab:=[] }
theorem ZCt {P:Prop} (h:P:=by
  rintro i _ he
  refine Zh he (fun he=>?_) fun he=>?_
  ·refine And.intro (by kernel_rfl) ?_
   refine Zg he fun he=>?_
   refine Zg he fun he=>?_
   exact ZCq
  ·exact Z5):P:=h
theorem Zyq:Zn Tryz.prog 242 ZmG:=by
 refine Zq (C:=ZxS) Tryz.f242 Zr fun _ a b k he=>?_
 unfold ZmG at he;split at he;rotate_left;exact he.elim
 rename_i s1_ s2_
 refine Zs he fun he=>?_
 refine Zh he (fun he=>?_) fun he=>?_
 ·exact Z5
 ·refine Zp (Zih s1_ s2_) (fun i=>(Zm [(0,.c (.imm y0_ s1_)),(1,.c (.imm y0_ s2_)),(12,.c (.int .i64 (s1_.length:Int))),(13,.c (.int .i64 i))],[])) he (Za []) ?_
  exact ZCt
def ZlP:Con:=fun
  |[.c (.imm (.int .i64) row),.c (.ptr 0 0)],[(0,.rc [.imm (.int .i64) o0])]=>.opt _ (ZnR row o0) (fun r=>.ret (.c (.bool r)) [(0,.rc [.imm y0_ o0])])
  |_,_=>.fail
def Zxm:Cfg:={ y:=tys,n:=7,h:=1,tab:=[(242,ZmG)] }
theorem ZxB:Zn Tryz.prog 241 ZlP:=by
 refine Zq (C:=Zxm) Tryz.f241 (Zk Zyq Zr) fun _ a b k he=>?_
 unfold ZlP at he;split at he;rotate_left;exact he.elim
 rename_i row o0
 refine Zs he fun he=>?_
 refine Zi he fun r1_ he=>?_
 exact ZtQ
def Zc5:Con:=fun
  |[.c (.imm (.sl (.int .i64)) s_),.c (.fn 241 [0])],[(0,.rc [.imm (.int .i64) o0])]=>.opt _ (Zdv s_ o0) (fun r=>.ret (.c (.int .i64 r)) [(0,.rc [.imm y0_ o0])])
  |_,_=>.fail
def ZjC:Cfg:={ y:=tys,n:=19,h:=1,tab:=[(241,ZlP)] }
theorem ZjE:Zn Tryz.prog 250 Zc5:=by
 refine Zq (C:=ZjC) Tryz.f250 (Zk ZxB Zr) fun _ a b k he=>?_
 unfold Zc5 at he;split at he;rotate_left;exact he.elim
 rename_i s_ o0
 refine Zs he fun he=>?_
 refine Zp (Zbn s_ o0) (fun i=>(Zm [(0,.c (.imm (.sl y0_) s_)),(1,.c (.fn 241 [0])),(7,.c (.int .i64 (s_.length:Int))),(8,.c (.int .i64 i))],[(0,.rc [.imm y0_ o0])])) he (Za []) ?_
 rintro i _ he
 exact Zzg
def ZcL:Con:=fun
  |[.c (.imm (.sl (.int .i64)) s_),.c (.fn 241 [0])],[(0,.rc [.imm (.int .i64) o0])]=>.opt _ (Zc0 s_ o0) (fun r=>.ret (.c (.bool r)) [(0,.rc [.imm y0_ o0])])
  |_,_=>.fail
def ZiB:Cfg:={ y:=tys,n:=9,h:=1,tab:=[(250,Zc5)] }
theorem ZiL:Zn Tryz.prog 200 ZcL:=by
 refine Zq (C:=ZiB) Tryz.f200 (Zk ZjE Zr) fun _ a b k he=>?_
 unfold ZcL at he;split at he;rotate_left;exact he.elim
 rename_i s_ o0
 refine Zs he fun he=>?_
 refine Zi he fun r1_ he=>?_
 exact Zbd
def ZjG:Con:=fun
  |[.agg [.int .i64 r__0,.imm (.int .i64) r__1,.imm (.int .i64) r__2,.int .i64 r__3,.imm (.sl (.int .i64)) r__4],.c (.imm (.int .i64) vals)],[]=>.opt _ (Zi4 (r__0,(r__1,(r__2,(r__3,r__4)))) vals) (fun r=>.ret (.c (.bool r)) [])
  |_,_=>.fail
def ZzP:Cfg:={ y:=tys,n:=63,h:=0,tab:=[(178,ZeU),(200,ZcL)] }
theorem Zzh {P:Prop} (h:P:=by
  refine Zg he fun he=>?_
  exact ZtN):P:=h
theorem ZHf {P:Prop} (h:P:=by
  refine Zi he fun r2_ he=>?_
  exact Zbd):P:=h
theorem Zst:Zn Tryz.prog 184 ZjG:=by
 refine Zq (C:=ZzP) Tryz.f184 (Zk Zkc (Zk ZiL Zr)) fun _ a b k he=>?_
 unfold ZjG at he;split at he;rotate_left;exact he.elim
 rename_i r__0 r__1 r__2 r__3 r__4 vals
 refine Zs he fun he=>?_
 refine Zh he (fun he=>?_) fun he=>?_
 ·refine Zp (ZmU (r__0,(r__1,(r__2,(r__3,r__4)))) vals) (fun (sum,i)=>(Zm [(2,.c (.ptr 10000000 0)),(5,.c (.int .i64 sum)),(14,.c (.imm y0_ vals)),(15,.c (.int .i64 (vals.length:Int))),(16,.c (.int .i64 i))],[(10000000,.rc [.int .i64 (r__0,(r__1,(r__2,(r__3,r__4)))).1,.imm y0_ (r__0,(r__1,(r__2,(r__3,r__4)))).2.1,.imm y0_ (r__0,(r__1,(r__2,(r__3,r__4)))).2.2.1,.int .i64 (r__0,(r__1,(r__2,(r__3,r__4)))).2.2.2.1,.imm (.sl y0_) (r__0,(r__1,(r__2,(r__3,r__4)))).2.2.2.2])])) he (Za [(10000000,2)]) ?_
  rintro⟨sum,i⟩ _ he
  refine Zh he (fun he=>?_) fun he=>?_
  ·exact Zzh
  ·exact Zbd
 ·refine Zh he (fun he=>?_) fun he=>?_
  ·refine Zp (Zgc vals) (fun i1=>(Zm [(3,.c (.ptr 10001000 0)),(37,.c (.imm y0_ vals)),(38,.c (.int .i64 (vals.length:Int))),(39,.c (.int .i64 i1))],[(10001000,.rc [.imm y0_ vals])])) he (Za [(10001000,3)]) ?_
   rintro i1 _ he
   refine Zh he (fun he=>?_) fun he=>?_
   ·refine Zg he fun he=>?_
    exact ZLk
   ·exact Zbd
  ·refine Zh he (fun he=>?_) fun he=>?_
   ·exact ZHf
   ·refine And.intro (by kernel_rfl) ?_
    exact ZFg
def ZeN:Con:=fun
  |[.c (.own 3 false),.c (.ptr 0 0),.c (.ptr 1 0),.c (.ptr 2 0)],[(0,.rc [.int .i64 o0_0,.imm (.int .i64) o0_1,.imm (.int .i64) o0_2,.int .i64 o0_3,.imm (.sl (.int .i64)) o0_4]),(1,.rc [.imm (.int .i64) o1_0,.imm (.pair (.int .i64) (.pair (.sl (.int .i64)) (.pair (.sl (.int .i64)) (.pair (.int .i64) (.sl (.sl (.int .i64))))))) o1_1]),(2,.rc [.own 4 false]),(3,.sl 3 (.int .i64) vals .shallow),(4,.sl 89 (.pair (.sl (.pair (.int .i64) (.int .i64))) (.int .i64)) o4 (.deep true .no))]=>.opt _ (ZdZ (o0_0,(o0_1,(o0_2,(o0_3,o0_4)))) (o1_0,o1_1) vals o4) (fun r=>.ret (.c (.bool r.1)) [(0,.rc [.int .i64 o0_0,.imm y0_ o0_1,.imm y0_ o0_2,.int .i64 o0_3,.imm (.sl y0_) o0_4]),(1,.rc [.imm y0_ o1_0,.imm y5_ o1_1]),(2,.rc [.own 900 false]),(3,.sl 3 y0_ vals .shallow),(4,.dead),(900,.sl 89 y7_ r.2 (.deep true .no))])
  |_,_=>.fail
def Zgk:Sched:=.alt 7 (.first 8 (.alt 9 (.alt 10 (.first 11 .done) .stop) .stop)) .stop
def ZoK:Cfg:={ y:=tys,n:=44,h:=5,tab:=[(119,ZiW),(128,Zem),(184,ZjG)],cut:=[8],deep:=[42],sched:=[(6,(ZB [0,2,3,4,5] (.alt 1 (.alt 6 Zgk .stop) (.alt 6 (.alt 1 Zgk .stop) .stop))))] }
theorem ZLo {P:Prop} (h:P:=by
  skip
  refine Y4 ?_
  refine Y4 ?_
  refine⟨r4_,hq1,?_⟩
  refine And.intro hq2 ?_
  refine Y4 ?_
  refine Y4 ?_
  refine And.intro hq3 ?_
  refine Zg he fun he=>?_
  exact⟨_,(Zj he :),(Za [(10000000,33)])⟩):P:=h
theorem ZoW:Zn Tryz.prog 183 ZeN:=by
 refine Zq (C:=ZoK) Tryz.f183 (Zk Zp1 (Zk Zhe (Zk Zst Zr))) fun _ a b k he=>?_
 unfold ZeN at he;split at he;rotate_left;exact he.elim
 rename_i o0_0 o0_1 o0_2 o0_3 o0_4 o1_0 o1_1 vals o4
 refine Zs he fun he=>?_
 refine Zi he fun r1_ he=>?_
 refine Zh he (fun he=>?_) fun he=>?_
 ·refine ZN (Zcv o4) (fun lits1=>(Zm [(3,.c (.ptr 2 0)),(6,.c (.own 10001000 false))],[(0,.rc [.int .i64 (o0_0,(o0_1,(o0_2,(o0_3,o0_4)))).1,.imm y0_ (o0_0,(o0_1,(o0_2,(o0_3,o0_4)))).2.1,.imm y0_ (o0_0,(o0_1,(o0_2,(o0_3,o0_4)))).2.2.1,.int .i64 (o0_0,(o0_1,(o0_2,(o0_3,o0_4)))).2.2.2.1,.imm (.sl y0_) (o0_0,(o0_1,(o0_2,(o0_3,o0_4)))).2.2.2.2]),(1,.rc [.imm y0_ (o1_0,o1_1).1,.imm y5_ (o1_0,o1_1).2]),(2,.rc [.own 4 false]),(3,.sl 3 y0_ vals .shallow),(4,.sl 89 y7_ o4 (.deep true .no)),(10001000,.sl 3 y0_ lits1 .shallow)])) he ?_ ?_
  ·rintro lits1 he
   refine Zi he fun r5_ he=>?_
   refine Zg he fun he=>?_
   exact Zt [(5,[])] (Zj he :) (Za [(900,43)])
  ·skip
   refine Zp (Zcw (o0_0,(o0_1,(o0_2,(o0_3,o0_4)))) (o1_0,o1_1) vals o4) (fun (i,lits)=>(Zm [(0,.c (.own 3 false)),(2,.c (.ptr 1 0)),(3,.c (.ptr 2 0)),(6,.c (.own 10000000 false)),(16,.c (.imm y0_ (o0_0,(o0_1,(o0_2,(o0_3,o0_4)))).2.1)),(17,.c (.int .i64 ((o0_0,(o0_1,(o0_2,(o0_3,o0_4)))).2.1.length:Int))),(18,.c (.int .i64 i))],[(0,.rc [.int .i64 (o0_0,(o0_1,(o0_2,(o0_3,o0_4)))).1,.imm y0_ (o0_0,(o0_1,(o0_2,(o0_3,o0_4)))).2.1,.imm y0_ (o0_0,(o0_1,(o0_2,(o0_3,o0_4)))).2.2.1,.int .i64 (o0_0,(o0_1,(o0_2,(o0_3,o0_4)))).2.2.2.1,.imm (.sl y0_) (o0_0,(o0_1,(o0_2,(o0_3,o0_4)))).2.2.2.2]),(1,.rc [.imm y0_ (o1_0,o1_1).1,.imm y5_ (o1_0,o1_1).2]),(2,.rc [.own 4 false]),(3,.sl 3 y0_ vals .shallow),(4,.sl 89 y7_ o4 (.deep true .no)),(10000000,.sl 3 y0_ lits .shallow)])) he (Za []) ?_
   rintro⟨i,lits⟩ _ he
   refine Zh he (fun he=>?_) fun he=>?_
   ·refine Zg he fun he=>?_
    refine And.intro (by kernel_rfl) ?_
    refine Zg he fun he=>?_
    obtain⟨r4_,hq1,he⟩:=ZX he
    obtain⟨hq2,he⟩:=ZP he
    obtain⟨hq3,he⟩:=ZP he
    refine Y5 ?_ ?_
    ·exact ZLo
    ·exact ZLo
   ·exact⟨_,(Zbp he :),(Za [(10001000,10000000)])⟩
 ·exact Zt [(5,[])] (Zj he :) (Za [(900,4)])
def Zdd:Con:=fun
  |[.c (.imm (.int .i64) sizes),.c (.imm (.int .i64) from_),.c (.fn 183 [0,1,2])],[(0,.rc [.int .i64 o0_0,.imm (.int .i64) o0_1,.imm (.int .i64) o0_2,.int .i64 o0_3,.imm (.sl (.int .i64)) o0_4]),(1,.rc [.imm (.int .i64) o1_0,.imm (.pair (.int .i64) (.pair (.sl (.int .i64)) (.pair (.sl (.int .i64)) (.pair (.int .i64) (.sl (.sl (.int .i64))))))) o1_1]),(2,.rc [.nil])]=>.opt _ (Zcq sizes from_ (o0_0,(o0_1,(o0_2,(o0_3,o0_4)))) (o1_0,o1_1)) (fun r=>.ret (.tup []) [(0,.rc [.int .i64 o0_0,.imm y0_ o0_1,.imm y0_ o0_2,.int .i64 o0_3,.imm (.sl y0_) o0_4]),(1,.rc [.imm y0_ o1_0,.imm y5_ o1_1]),(2,.rc [.own 900 false]),(900,.sl 89 y7_ r (.deep true .no))])
  |_,_=>.fail
def ZjO:Cfg:={ y:=tys,n:=42,h:=3,tab:=[(75,ZcP),(183,ZeN)],cut:=[6],hand:=[(183,[0])] }
theorem ZHg {P:Prop} (h:P:=by
  refine Zg he fun he=>?_
  exact⟨_,(Zj he :),(Za [(10000000,10004000),(10000001,10004001)])⟩):P:=h
theorem ZLp {P:Prop} (h:P:=by
  rintro⟨i2,cells3⟩ _ he
  refine And.intro (by kernel_rfl) ?_
  refine Zh he (fun he=>?_) fun he=>?_
  ·refine Zg he fun he=>?_
   refine Zg he fun he=>?_
   refine Zh he (fun he=>?_) fun he=>?_
   ·exact ZCy
   ·exact⟨_,(Zbp he :),(Za [(10004000,10003000),(10004001,10003001)])⟩
  ·exact⟨_,(Zbp he :),(Za [(10004000,10003000),(10004001,10003001)])⟩):P:=h
theorem Zkb:Zn Tryz.prog 72 Zdd:=by
 refine Zq (C:=ZjO) Tryz.f72 (Zk Zeg (Zk ZoW Zr)) fun _ a b k he=>?_
 unfold Zdd at he;split at he;rotate_left;exact he.elim
 rename_i sizes from_ o0_0 o0_1 o0_2 o0_3 o0_4 o1_0 o1_1
 refine Zs he fun he=>?_
 refine Zi he fun r1_ he=>?_
 refine Zp (Zb3 sizes (o0_0,(o0_1,(o0_2,(o0_3,o0_4)))) (o1_0,o1_1)) (fun (cells2,cap)=>(Zm [(0,.c (.imm y0_ sizes)),(2,.c (.fn 183 [0,1,2])),(6,.c (.own 10000000 false))],[(0,.rc [.int .i64 (o0_0,(o0_1,(o0_2,(o0_3,o0_4)))).1,.imm y0_ (o0_0,(o0_1,(o0_2,(o0_3,o0_4)))).2.1,.imm y0_ (o0_0,(o0_1,(o0_2,(o0_3,o0_4)))).2.2.1,.int .i64 (o0_0,(o0_1,(o0_2,(o0_3,o0_4)))).2.2.2.1,.imm (.sl y0_) (o0_0,(o0_1,(o0_2,(o0_3,o0_4)))).2.2.2.2]),(1,.rc [.imm y0_ (o1_0,o1_1).1,.imm y5_ (o1_0,o1_1).2]),(2,.rc [.own 10000001 false]),(10000000,.sl 3 y0_ cells2 .shallow),(10000001,.sl 89 y7_ cap (.deep true .no))])) he (Za [(10000000,10900)]) ?_
 rintro⟨cells2,cap⟩ _ he
 refine Zi he fun r3_ he=>?_
 refine Zh he (fun he=>?_) fun he=>?_
 ·refine Zg he fun he=>?_
  refine ZN (Zb2 r3_) (fun (i3,cells4)=>(Zm [(0,.c (.imm y0_ sizes)),(2,.c (.fn 183 [0,1,2])),(6,.c (.own 10004000 false)),(7,.c (.int .i64 i3))],[(0,.rc [.int .i64 (o0_0,(o0_1,(o0_2,(o0_3,o0_4)))).1,.imm y0_ (o0_0,(o0_1,(o0_2,(o0_3,o0_4)))).2.1,.imm y0_ (o0_0,(o0_1,(o0_2,(o0_3,o0_4)))).2.2.1,.int .i64 (o0_0,(o0_1,(o0_2,(o0_3,o0_4)))).2.2.2.1,.imm (.sl y0_) (o0_0,(o0_1,(o0_2,(o0_3,o0_4)))).2.2.2.2]),(1,.rc [.imm y0_ (o1_0,o1_1).1,.imm y5_ (o1_0,o1_1).2]),(2,.rc [.own 10004001 false]),(10004000,.sl 3 y0_ cells4 .shallow),(10004001,.sl 89 y7_ r3_.2 (.deep true .no))])) he ?_ ?_
  ·rintro⟨i3,cells4⟩ he
   refine Zh he (fun he=>?_) fun he=>?_
   ·exact Zt [] (Zj he :) (Za [(900,10004001)] (l:=[]) (st':=[(0,.rc [.int .i64 o0_0,.imm y0_ o0_1,.imm y0_ o0_2,.int .i64 o0_3,.imm (.sl y0_) o0_4]),(1,.rc [.imm y0_ o1_0,.imm y5_ o1_1]),(2,.rc [.own 900 false]),(900,.sl 89 y7_ r3_.2 (.deep true .no))]))
   ·refine Zg he fun he=>?_
    refine Zg he fun he=>?_
    exact ZHg
  ·skip
   refine Zp (Zc6 sizes r3_) (fun (i2,cells3)=>(Zm [(0,.c (.imm y0_ sizes)),(2,.c (.fn 183 [0,1,2])),(6,.c (.own 10003000 false)),(7,.c (.int .i64 i2))],[(0,.rc [.int .i64 (o0_0,(o0_1,(o0_2,(o0_3,o0_4)))).1,.imm y0_ (o0_0,(o0_1,(o0_2,(o0_3,o0_4)))).2.1,.imm y0_ (o0_0,(o0_1,(o0_2,(o0_3,o0_4)))).2.2.1,.int .i64 (o0_0,(o0_1,(o0_2,(o0_3,o0_4)))).2.2.2.1,.imm (.sl y0_) (o0_0,(o0_1,(o0_2,(o0_3,o0_4)))).2.2.2.2]),(1,.rc [.imm y0_ (o1_0,o1_1).1,.imm y5_ (o1_0,o1_1).2]),(2,.rc [.own 10003001 false]),(10003000,.sl 3 y0_ cells3 .shallow),(10003001,.sl 89 y7_ r3_.2 (.deep true .no))])) he (Za [(10003000,10000000),(10003001,13900)]) ?_
   exact ZLp
 ·exact Zt [] (Zj he :) (Za [(900,13900)] (l:=[]) (st':=[(0,.rc [.int .i64 o0_0,.imm y0_ o0_1,.imm y0_ o0_2,.int .i64 o0_3,.imm (.sl y0_) o0_4]),(1,.rc [.imm y0_ o1_0,.imm y5_ o1_1]),(2,.rc [.own 900 false]),(900,.sl 89 y7_ r3_.2 (.deep true .no))]))
def ZiE:Con:=fun
  |[.agg [.imm (.int .i64) a0_0,.imm (.pair (.int .i64) (.pair (.sl (.int .i64)) (.pair (.sl (.int .i64)) (.pair (.int .i64) (.sl (.sl (.int .i64))))))) a0_1],.agg [.int .i64 a1_0,.imm (.int .i64) a1_1,.imm (.int .i64) a1_2,.int .i64 a1_3,.imm (.sl (.int .i64)) a1_4]],[]=>.opt _ (Zb8 (a0_0,a0_1) (a1_0,(a1_1,(a1_2,(a1_3,a1_4))))) (fun r=>.ret (.c (.own 900 false)) [(900,.sl 89 y7_ r (.deep true .no))])
  |_,_=>.fail
def Zlu:Sched:=.alt 12 (.alt 13 (.alt 14 (.first 15 .done) .stop) .stop) .stop
def Zlv:Sched:=.alt 11 Zlu .stop
def Zlw:Sched:=.alt 4 (.alt 5 .done .stop) .stop
def Zlx:Sched:=.alt 3 Zlw .stop
def ZtX:Cfg:={ y:=tys,n:=128,h:=0,tab:=[(72,Zdd),(120,ZkF),(128,Zem),(129,ZlB),(182,Zsq)],cut:=[14,27,38],hand:=[(182,[0])],deep:=[65,101],sched:=[(11,(ZB [0,1,3,6,9,10] (.alt 2 (ZB [4,5,7] (.alt 8 Zlv .stop)) (.alt 8 (.alt 2 (ZB [4,5,7] Zlv) (.alt 11 (.alt 2 (ZB [4,5,7] Zlu) .stop) .stop)) .stop)))),(29,(.first 1 (.alt 0 (.alt 2 Zlx .stop) (.alt 2 (.alt 0 Zlx (.alt 3 (.alt 0 Zlw .stop) .stop)) .stop))))] }
theorem ZLq {P:Prop} (h:P:=by
  refine Zg he fun he=>?_
  exact⟨_,(Zj he :),(Za [(10002002,54)])⟩):P:=h
theorem ZHh {P:Prop} (h:P:=by
  refine Y4 ?_
  refine Y4 ?_
  refine Y4 ?_
  refine And.intro hq4 ?_
  exact ZLq):P:=h
theorem ZHi {P:Prop} (h:P:=by
  refine Y4 ?_
  refine Y4 ?_
  refine And.intro hq2 ?_
  refine Y4 ?_
  refine Zg he fun he=>?_
  exact⟨_,(Zj he :),(Za [(10004000,10008000),(10004001,10008001),(10004002,10008002),(10004003,102)])⟩):P:=h
theorem Zt5:Zn Tryz.prog 121 ZiE:=by
 refine Zq (C:=ZtX) Tryz.f121 (Zk Zkb (Zk Ztt (Zk Zhe (Zk Zse (Zk ZzX Zr))))) fun _ a b k he=>?_
 unfold ZiE at he;split at he;rotate_left;exact he.elim
 rename_i a0_0 a0_1 a1_0 a1_1 a1_2 a1_3 a1_4
 refine Zs he fun he=>?_
 refine Zh he (fun he=>?_) fun he=>?_
 ·refine ZN (Zfd (a1_0,(a1_1,(a1_2,(a1_3,a1_4))))) (fun i6=>(Zm [(3,.c (.ptr 10003000 0)),(6,.c (.own 10003001 false))],[(10003000,.rc [.int .i64 (a1_0,(a1_1,(a1_2,(a1_3,a1_4)))).1,.imm y0_ (a1_0,(a1_1,(a1_2,(a1_3,a1_4)))).2.1,.imm y0_ (a1_0,(a1_1,(a1_2,(a1_3,a1_4)))).2.2.1,.int .i64 (a1_0,(a1_1,(a1_2,(a1_3,a1_4)))).2.2.2.1,.imm (.sl y0_) (a1_0,(a1_1,(a1_2,(a1_3,a1_4)))).2.2.2.2]),(10003001,.sl 155 y6_ i6 .shallow)])) he ?_ ?_
  ·rintro i6 he
   refine Zi he fun r6_ he=>?_
   exact Zt [(4,[])] (Zj he :) (Za [(900,65)])
  ·skip
   refine Zp (ZhQ (a0_0,a0_1) (a1_0,(a1_1,(a1_2,(a1_3,a1_4))))) (fun (i,i3)=>(Zm [(2,.c (.ptr 10000000 0)),(3,.c (.ptr 10000001 0)),(6,.c (.own 10000002 false)),(24,.c (.imm y0_ (a1_0,(a1_1,(a1_2,(a1_3,a1_4)))).2.1)),(25,.c (.int .i64 ((a1_0,(a1_1,(a1_2,(a1_3,a1_4)))).2.1.length:Int))),(26,.c (.int .i64 i))],[(10000000,.rc [.imm y0_ (a0_0,a0_1).1,.imm y5_ (a0_0,a0_1).2]),(10000001,.rc [.int .i64 (a1_0,(a1_1,(a1_2,(a1_3,a1_4)))).1,.imm y0_ (a1_0,(a1_1,(a1_2,(a1_3,a1_4)))).2.1,.imm y0_ (a1_0,(a1_1,(a1_2,(a1_3,a1_4)))).2.2.1,.int .i64 (a1_0,(a1_1,(a1_2,(a1_3,a1_4)))).2.2.2.1,.imm (.sl y0_) (a1_0,(a1_1,(a1_2,(a1_3,a1_4)))).2.2.2.2]),(10000002,.sl 155 y6_ i3 .shallow)])) he (Za [(10000000,2),(10000001,3)]) ?_
   rintro⟨i,i3⟩ _ he
   refine Zh he (fun he=>?_) fun he=>?_
   ·refine Zg he fun he=>?_
    refine Zg he fun he=>?_
    refine Zg he fun he=>?_
    refine Zp (Zdk (a0_0,a0_1) (a1_0,(a1_1,(a1_2,(a1_3,a1_4)))) i) (fun (i4,i5)=>(Zm [(2,.c (.ptr 10002000 0)),(3,.c (.ptr 10002001 0)),(6,.c (.own 10002002 false)),(7,.c (.int .i64 i)),(8,.c (.int .i64 ((a1_0,(a1_1,(a1_2,(a1_3,a1_4)))).2.1.getD i.toNat 0))),(24,.c (.imm y0_ (a1_0,(a1_1,(a1_2,(a1_3,a1_4)))).2.1)),(25,.c (.int .i64 ((a1_0,(a1_1,(a1_2,(a1_3,a1_4)))).2.1.length:Int))),(26,.c (.int .i64 i)),(36,.c (.int .i64 (((a0_0,a0_1).1.getD ((a1_0,(a1_1,(a1_2,(a1_3,a1_4)))).2.1.getD i.toNat 0).toNat 0)+(1:Int)))),(37,.c (.int .i64 i4))],[(10002000,.rc [.imm y0_ (a0_0,a0_1).1,.imm y5_ (a0_0,a0_1).2]),(10002001,.rc [.int .i64 (a1_0,(a1_1,(a1_2,(a1_3,a1_4)))).1,.imm y0_ (a1_0,(a1_1,(a1_2,(a1_3,a1_4)))).2.1,.imm y0_ (a1_0,(a1_1,(a1_2,(a1_3,a1_4)))).2.2.1,.int .i64 (a1_0,(a1_1,(a1_2,(a1_3,a1_4)))).2.2.2.1,.imm (.sl y0_) (a1_0,(a1_1,(a1_2,(a1_3,a1_4)))).2.2.2.2]),(10002002,.sl 155 y6_ i5 .shallow)])) he (Za [(10002000,10000000),(10002001,10000001),(10002002,10000002)]) ?_
    rintro⟨i4,i5⟩ _ he
    refine Zh he (fun he=>?_) fun he=>?_
    ·refine And.intro (by kernel_rfl) ?_
     obtain⟨hq1,he⟩:=ZP he
     obtain⟨hq2,he⟩:=ZP he
     obtain⟨r5_,hq3,he⟩:=ZX he
     obtain⟨hq4,he⟩:=ZP he
     refine Y5 ?_ ?_
     ·skip
      refine And.intro hq1 ?_
      refine And.intro hq2 ?_
      refine Y4 ?_
      refine Y4 ?_
      refine⟨r5_,hq3,?_⟩
      exact ZHh
     ·skip
      refine Y5 ?_ ?_
      ·skip
       refine And.intro hq1 ?_
       refine And.intro hq2 ?_
       refine Y4 ?_
       refine⟨r5_,hq3,?_⟩
       exact ZHh
      ·skip
       refine⟨r5_,hq3,?_⟩
       refine Y4 ?_
       refine And.intro hq1 ?_
       refine And.intro hq2 ?_
       exact ZHh
    ·refine Zg he fun he=>?_
     exact⟨_,(Zj he :),(Za [(10000000,10002000),(10000001,10002001),(10000002,10002002)])⟩
   ·exact⟨_,(Zbp he :),(Za [(10003000,10000001),(10003001,10000002)])⟩
 ·refine Zh he (fun he=>?_) fun he=>?_
  ·refine Zp (ZhR (a0_0,a0_1) (a1_0,(a1_1,(a1_2,(a1_3,a1_4))))) (fun (i7,i11)=>(Zm [(2,.c (.ptr 10004000 0)),(3,.c (.ptr 10004001 0)),(5,.c (.ptr 10004002 0)),(68,.c (.int .i64 i7))],[(10004000,.rc [.imm y0_ (a0_0,a0_1).1,.imm y5_ (a0_0,a0_1).2]),(10004001,.rc [.int .i64 (a1_0,(a1_1,(a1_2,(a1_3,a1_4)))).1,.imm y0_ (a1_0,(a1_1,(a1_2,(a1_3,a1_4)))).2.1,.imm y0_ (a1_0,(a1_1,(a1_2,(a1_3,a1_4)))).2.2.1,.int .i64 (a1_0,(a1_1,(a1_2,(a1_3,a1_4)))).2.2.2.1,.imm (.sl y0_) (a1_0,(a1_1,(a1_2,(a1_3,a1_4)))).2.2.2.2]),(10004002,.rc [.own 10004003 false]),(10004003,.sl 89 y7_ i11 (.deep true .no))])) he (Za [(10004000,2),(10004001,3),(10004002,5)]) ?_
   rintro⟨i7,i11⟩ _ he
   refine Zh he (fun he=>?_) fun he=>?_
   ·refine ZN (Zea i7 i11) (fun i14=>(Zm [(2,.c (.ptr 10008000 0)),(3,.c (.ptr 10008001 0)),(5,.c (.ptr 10008002 0)),(13,.c (.own 10008003 false)),(68,.c (.int .i64 i7))],[(10008000,.rc [.imm y0_ (a0_0,a0_1).1,.imm y5_ (a0_0,a0_1).2]),(10008001,.rc [.int .i64 (a1_0,(a1_1,(a1_2,(a1_3,a1_4)))).1,.imm y0_ (a1_0,(a1_1,(a1_2,(a1_3,a1_4)))).2.1,.imm y0_ (a1_0,(a1_1,(a1_2,(a1_3,a1_4)))).2.2.1,.int .i64 (a1_0,(a1_1,(a1_2,(a1_3,a1_4)))).2.2.2.1,.imm (.sl y0_) (a1_0,(a1_1,(a1_2,(a1_3,a1_4)))).2.2.2.2]),(10008002,.rc [.own 10008004 false]),(10008003,.sl 3 y0_ i14 .shallow),(10008004,.sl 89 y7_ i11 (.deep true .no))])) he ?_ ?_
    ·rintro i14 he
     refine Zh he (fun he=>?_) fun he=>?_
     ·refine Zi he fun r14_ he=>?_
      refine And.intro (by kernel_rfl) ?_
      obtain⟨r15_,hq1,he⟩:=ZX he
      obtain⟨hq2,he⟩:=ZP he
      refine Y5 ?_ ?_
      ·skip
       refine Y4 ?_
       refine⟨r15_,hq1,?_⟩
       exact ZHi
      ·skip
       refine⟨r15_,hq1,?_⟩
       refine Y5 ?_ ?_
       ·skip
        exact ZHi
       ·skip
        exact ZHi
     ·refine Zg he fun he=>?_
      exact⟨_,(Zj he :),(Za [(10004000,10008000),(10004001,10008001),(10004002,10008002),(10004003,10008004)])⟩
    ·skip
     refine Zp (Zec (a0_0,a0_1) (a1_0,(a1_1,(a1_2,(a1_3,a1_4)))) i7 i11) (fun (i12,i13)=>(Zm [(2,.c (.ptr 10007000 0)),(3,.c (.ptr 10007001 0)),(5,.c (.ptr 10007002 0)),(12,.c (.int .i64 i7)),(13,.c (.own 10007003 false)),(68,.c (.int .i64 i7)),(72,.c (.imm y0_ (a1_0,(a1_1,(a1_2,(a1_3,a1_4)))).2.1)),(73,.c (.int .i64 ((a1_0,(a1_1,(a1_2,(a1_3,a1_4)))).2.1.length:Int))),(74,.c (.int .i64 i12))],[(10007000,.rc [.imm y0_ (a0_0,a0_1).1,.imm y5_ (a0_0,a0_1).2]),(10007001,.rc [.int .i64 (a1_0,(a1_1,(a1_2,(a1_3,a1_4)))).1,.imm y0_ (a1_0,(a1_1,(a1_2,(a1_3,a1_4)))).2.1,.imm y0_ (a1_0,(a1_1,(a1_2,(a1_3,a1_4)))).2.2.1,.int .i64 (a1_0,(a1_1,(a1_2,(a1_3,a1_4)))).2.2.2.1,.imm (.sl y0_) (a1_0,(a1_1,(a1_2,(a1_3,a1_4)))).2.2.2.2]),(10007002,.rc [.own 10007004 false]),(10007003,.sl 3 y0_ i13 .shallow),(10007004,.sl 89 y7_ i11 (.deep true .no))])) he (Za [(10007000,10004000),(10007001,10004001),(10007002,10004002),(10007004,10004003)]) ?_
     rintro⟨i12,i13⟩ _ he
     refine Zh he (fun he=>?_) fun he=>?_
     ·refine Zg he fun he=>?_
      refine Zg he fun he=>?_
      refine Zh he (fun he=>?_) fun he=>?_
      ·refine Zi he fun r13_ he=>?_
       refine Zg he fun he=>?_
       refine Zg he fun he=>?_
       exact⟨_,(Zj he :),(Za [(10007003,91)])⟩
      ·exact ZdH
     ·exact⟨_,(Zbp he :),(Za [(10008000,10007000),(10008001,10007001),(10008002,10007002),(10008003,10007003),(10008004,10007004)])⟩
   ·exact Zt [(4,[])] (Zj he :) (Za [(900,10004003)])
  ·refine ZN (Zeb (a0_0,a0_1) (a1_0,(a1_1,(a1_2,(a1_3,a1_4))))) (fun i17=>(Zm [(2,.c (.ptr 10010000 0)),(3,.c (.ptr 10010001 0)),(5,.c (.ptr 10010002 0)),(16,.c (.own 10010003 false))],[(10010000,.rc [.imm y0_ (a0_0,a0_1).1,.imm y5_ (a0_0,a0_1).2]),(10010001,.rc [.int .i64 (a1_0,(a1_1,(a1_2,(a1_3,a1_4)))).1,.imm y0_ (a1_0,(a1_1,(a1_2,(a1_3,a1_4)))).2.1,.imm y0_ (a1_0,(a1_1,(a1_2,(a1_3,a1_4)))).2.2.1,.int .i64 (a1_0,(a1_1,(a1_2,(a1_3,a1_4)))).2.2.2.1,.imm (.sl y0_) (a1_0,(a1_1,(a1_2,(a1_3,a1_4)))).2.2.2.2]),(10010002,.rc [.nil]),(10010003,.sl 3 y0_ i17 .shallow)])) he ?_ ?_
   ·rintro i17 he
    refine Zg he fun he=>?_
    refine Zi he fun r16_ he=>?_
    exact Zt [(4,[])] (Zj he :) (Za [(900,127900)])
   ·skip
    refine Zp (Zed (a0_0,a0_1) (a1_0,(a1_1,(a1_2,(a1_3,a1_4))))) (fun (i15,i16)=>(Zm [(2,.c (.ptr 10009000 0)),(3,.c (.ptr 10009001 0)),(5,.c (.ptr 10009002 0)),(16,.c (.own 10009003 false)),(106,.c (.imm y0_ (a1_0,(a1_1,(a1_2,(a1_3,a1_4)))).2.1)),(107,.c (.int .i64 ((a1_0,(a1_1,(a1_2,(a1_3,a1_4)))).2.1.length:Int))),(108,.c (.int .i64 i15))],[(10009000,.rc [.imm y0_ (a0_0,a0_1).1,.imm y5_ (a0_0,a0_1).2]),(10009001,.rc [.int .i64 (a1_0,(a1_1,(a1_2,(a1_3,a1_4)))).1,.imm y0_ (a1_0,(a1_1,(a1_2,(a1_3,a1_4)))).2.1,.imm y0_ (a1_0,(a1_1,(a1_2,(a1_3,a1_4)))).2.2.1,.int .i64 (a1_0,(a1_1,(a1_2,(a1_3,a1_4)))).2.2.2.1,.imm (.sl y0_) (a1_0,(a1_1,(a1_2,(a1_3,a1_4)))).2.2.2.2]),(10009002,.rc [.nil]),(10009003,.sl 3 y0_ i16 .shallow)])) he (Za [(10009000,2),(10009001,3),(10009002,5)]) ?_
    rintro⟨i15,i16⟩ _ he
    refine Zh he (fun he=>?_) fun he=>?_
    ·refine Zg he fun he=>?_
     refine Zg he fun he=>?_
     refine Zg he fun he=>?_
     refine Zg he fun he=>?_
     exact⟨_,(Zj he :),(Za [(10009003,119)])⟩
    ·exact⟨_,(Zbp he :),(Za [(10010000,10009000),(10010001,10009001),(10010002,10009002),(10010003,10009003)])⟩
def ZmA:Con:=fun
  |[.agg [.imm (.int .i64) m_0,.imm (.pair (.int .i64) (.pair (.sl (.int .i64)) (.pair (.sl (.int .i64)) (.pair (.int .i64) (.sl (.sl (.int .i64))))))) m_1]],[]=>.opt _ (ZkS (m_0,m_1)) (fun r=>.ret (.tup [.c (.own 900 false),.c (.bool r.1)]) [(900,.sl 89 y7_ r.2 (.deep true .no))])
  |_,_=>.fail
def Zpc:Sched:=.alt 4 (.alt 5 (.first 6 .done) .stop) .stop
def ZxK:Cfg:={ y:=tys,n:=52,h:=0,tab:=[(71,Zev),(118,Zh8),(119,ZiW),(120,ZkF),(121,ZiE)],cut:=[11,16],deep:=[32],sched:=[(9,(ZB [0,2] (.alt 1 (.alt 3 Zpc .stop) (.alt 3 (.alt 1 Zpc .stop) .stop))))] }
theorem ZLr {P:Prop} (h:P:=by
  refine Y4 ?_
  refine Y4 ?_
  refine And.intro hq2 ?_
  refine Zg he fun he=>?_
  exact⟨_,(Zj he :),(Za [(10000001,33)])⟩):P:=h
theorem Zyj:Zn Tryz.prog 48 ZmA:=by
 refine Zq (C:=ZxK) Tryz.f48 (Zk ZgR (Zk Zqp (Zk Zp1 (Zk Ztt (Zk Zt5 Zr))))) fun _ a b k he=>?_
 unfold ZmA at he;split at he;rotate_left;exact he.elim
 rename_i m_0 m_1
 refine Zs he fun he=>?_
 refine Zi he fun r1_ he=>?_
 refine Zh he (fun he=>?_) fun he=>?_
 ·exact Zt [(2,[]),(3,[])] (Zj he :) (Za [])
 ·refine ZN (Zib (m_0,m_1)) (fun out1=>(Zm [(1,.c (.ptr 10001000 0)),(4,.c (.own 10001001 false))],[(10001000,.rc [.imm y0_ (m_0,m_1).1,.imm y5_ (m_0,m_1).2]),(10001001,.sl 89 y7_ out1 (.deep true .no))])) he ?_ ?_
  ·rintro out1 he
   refine ZN (Zic) (fun out3=>(Zm [(4,.c (.own 10003000 false))],[(10003000,.sl 89 y7_ out3 (.deep true .no))])) he ?_ ?_
   ·rintro out3 he
    refine Zh he (fun he=>?_) fun he=>?_
    ·exact Zt [(2,[]),(3,[])] (Zj he :) (Za [])
    ·exact Zt [(2,[]),(3,[])] (Zj he :) (Za [(900,10003000)])
   ·skip
    refine Zp (Zid (m_0,m_1)) (fun (i1,out2)=>(Zm [(1,.c (.ptr 10002000 0)),(4,.c (.own 10002001 false)),(36,.c (.imm y5_ (m_0,m_1).2)),(37,.c (.int .i64 ((m_0,m_1).2.length:Int))),(38,.c (.int .i64 i1))],[(10002000,.rc [.imm y0_ (m_0,m_1).1,.imm y5_ (m_0,m_1).2]),(10002001,.sl 89 y7_ out2 (.deep true .no))])) he (Za [(10002000,10001000),(10002001,10001001)]) ?_
    rintro⟨i1,out2⟩ _ he
    refine Zh he (fun he=>?_) fun he=>?_
    ·refine Zg he fun he=>?_
     refine Zi he fun r10_ he=>?_
     refine Zg he fun he=>?_
     refine Zg he fun he=>?_
     exact⟨_,(Zj he :),(Za [(10002001,46)])⟩
    ·exact⟨_,(Zbp he :),(Za [(10003000,10002001)])⟩
  ·skip
   refine Zp (Zie (m_0,m_1)) (fun (i,out)=>(Zm [(1,.c (.ptr 10000000 0)),(4,.c (.own 10000001 false)),(16,.c (.int .i64 ((m_0,m_1).1.length:Int))),(17,.c (.int .i64 i))],[(10000000,.rc [.imm y0_ (m_0,m_1).1,.imm y5_ (m_0,m_1).2]),(10000001,.sl 89 y7_ out (.deep true .no))])) he (Za [(10000000,1)]) ?_
   rintro⟨i,out⟩ _ he
   refine Zh he (fun he=>?_) fun he=>?_
   ·refine Zi he fun r6_ he=>?_
    refine Zi he fun r7_ he=>?_
    refine And.intro (by kernel_rfl) ?_
    obtain⟨r8_,hq1,he⟩:=ZX he
    obtain⟨hq2,he⟩:=ZP he
    refine Y5 ?_ ?_
    ·skip
     refine Y4 ?_
     refine⟨r8_,hq1,?_⟩
     exact ZLr
    ·skip
     refine⟨r8_,hq1,?_⟩
     refine Y4 ?_
     exact ZLr
   ·exact⟨_,(Zbp he :),(Za [(10001000,10000000),(10001001,10000001)])⟩
def Znd:Con:=fun
  |[.agg [.imm (.int .i64) m_0,.imm (.pair (.int .i64) (.pair (.sl (.int .i64)) (.pair (.sl (.int .i64)) (.pair (.int .i64) (.sl (.sl (.int .i64))))))) m_1]],[]=>.opt _ (ZmV (m_0,m_1)) (fun r=>.ret (.tup [.c (.own 900 false),.c (.bool r.1)]) [(900,.sl 89 y7_ r.2 (.deep true .no))])
  |_,_=>.fail
def ZCD:Cfg:={ y:=tys,n:=18,h:=0,tab:=[(48,ZmA)] }
theorem ZLs {P:Prop} (h:P:=by
  exact Zt [(2,[]),(3,[])] (Zj he :) (Za [(900,9900)])):P:=h
theorem Zvi:Zn Tryz.prog 55 Znd:=by
 refine Zq (C:=ZCD) Tryz.f55 (Zk Zyj Zr) fun _ a b k he=>?_
 unfold Znd at he;split at he;rotate_left;exact he.elim
 rename_i m_0 m_1
 refine Zs he fun he=>?_
 refine Zi he fun r1_ he=>?_
 refine Zh he (fun he=>?_) fun he=>?_
 ·exact ZLs
 ·exact ZLs
def ZkG:Con:=fun
  |[.c (.int .i64 n)],[]=>.opt _ (ZmW n) (fun r=>.ret (.c (.bool r)) [])
  |_,_=>.fail
def ZvU:Cfg:={ y:=tys,n:=6,h:=0,tab:=[(127,ZbY)] }
theorem Zwo:Zn Tryz.prog 126 ZkG:=by
 refine Zq (C:=ZvU) Tryz.f126 (Zk Zcz Zr) fun _ a b k he=>?_
 unfold ZkG at he;split at he;rotate_left;exact he.elim
 rename_i n
 refine Zs he fun he=>?_
 refine Zi he fun r1_ he=>?_
 exact Z5
def Zde:Con:=fun
  |[.c (.imm (.int .i64) s_),.c (.fn 126 [])],[]=>.opt _ (ZdB s_) (fun r=>.ret (.c (.int .i64 r)) [])
  |_,_=>.fail
def ZjV:Cfg:={ y:=tys,n:=19,h:=0,tab:=[(126,ZkG)] }
theorem Zkd:Zn Tryz.prog 186 Zde:=by
 refine Zq (C:=ZjV) Tryz.f186 (Zk Zwo Zr) fun _ a b k he=>?_
 unfold Zde at he;split at he;rotate_left;exact he.elim
 rename_i s_
 refine Zs he fun he=>?_
 refine Zp (Zbq s_) (fun i=>(Zm [(0,.c (.imm y0_ s_)),(1,.c (.fn 126 [])),(7,.c (.int .i64 (s_.length:Int))),(8,.c (.int .i64 i))],[])) he (Za []) ?_
 exact Zzf
def ZcQ:Con:=fun
  |[.c (.imm (.int .i64) s_),.c (.fn 126 [])],[]=>.opt _ (Zc8 s_) (fun r=>.ret (.c (.bool r)) [])
  |_,_=>.fail
def ZiS:Cfg:={ y:=tys,n:=9,h:=0,tab:=[(186,Zde)] }
theorem Zi7:Zn Tryz.prog 125 ZcQ:=by
 refine Zq (C:=ZiS) Tryz.f125 (Zk Zkd Zr) fun _ a b k he=>?_
 unfold ZcQ at he;split at he;rotate_left;exact he.elim
 rename_i s_
 refine Zs he fun he=>?_
 refine Zi he fun r1_ he=>?_
 exact Z5
def Zd8:Con:=fun
  |[.agg [.imm (.int .i64) m_0,.imm (.pair (.int .i64) (.pair (.sl (.int .i64)) (.pair (.sl (.int .i64)) (.pair (.int .i64) (.sl (.sl (.int .i64))))))) m_1],.c (.imm (.int .i64) coefs)],[]=>.opt _ (Zee (m_0,m_1) coefs) (fun r=>.ret (.c (.bool r)) [])
  |_,_=>.fail
def ZxO:Cfg:={ y:=tys,n:=16,h:=0,tab:=[(125,ZcQ)] }
theorem ZCu {P:Prop} (h:P:=by
  refine Zi he fun r1_ he=>?_
  exact Zbd):P:=h
theorem Zgd:Zn Tryz.prog 56 Zd8:=by
 refine Zq (C:=ZxO) Tryz.f56 (Zk Zi7 Zr) fun _ a b k he=>?_
 unfold Zd8 at he;split at he;rotate_left;exact he.elim
 rename_i m_0 m_1 coefs
 refine Zs he fun he=>?_
 refine Zh he (fun he=>?_) fun he=>?_
 ·exact ZCu
 ·exact Zbd
def Zou:Con:=fun
  |[.c (.int .i64 fuel)],[]=>.opt _ (Zol fuel) (fun r=>.ret (.c (.bool r)) [])
  |_,_=>.fail
def ZEt:Cfg:={ y:=tys,n:=5,h:=0,tab:=[(127,ZbY)] }
theorem Zw6:Zn Tryz.prog 57 Zou:=by
 refine Zq (C:=ZEt) Tryz.f57 (Zk Zcz Zr) fun _ a b k he=>?_
 unfold Zou at he;split at he;rotate_left;exact he.elim
 rename_i fuel
 refine Zs he fun he=>?_
 refine Zi he fun r1_ he=>?_
 exact Z5
def ZnP:Con:=fun
  |[.agg [.imm (.pair (.int .i64) (.int .i64)) c__0,.int .i64 c__1]],[]=>.opt _ (ZpY (c__0,c__1)) (fun r=>.ret (.c (.bool r)) [])
  |_,_=>.fail
def ZzQ:Cfg:={ y:=tys,n:=6,h:=0,tab:=[(223,Zbb)] }
theorem ZzW:Zn Tryz.prog 222 ZnP:=by
 refine Zq (C:=ZzQ) Tryz.f222 (Zk ZbH Zr) fun _ a b k he=>?_
 unfold ZnP at he;split at he;rotate_left;exact he.elim
 rename_i c__0 c__1
 refine Zs he fun he=>?_
 refine Zi he fun r1_ he=>?_
 exact ZL
def Zci:Con:=fun
  |[.c (.imm (.pair (.sl (.pair (.int .i64) (.int .i64))) (.int .i64)) s_),.c (.fn 222 [])],[]=>.opt _ (Zcy s_) (fun r=>.ret (.c (.int .i64 r)) [])
  |_,_=>.fail
def ZgI:Cfg:={ y:=tys,n:=19,h:=0,tab:=[(222,ZnP)] }
theorem ZgT:Zn Tryz.prog 225 Zci:=by
 refine Zq (C:=ZgI) Tryz.f225 (Zk ZzW Zr) fun _ a b k he=>?_
 unfold Zci at he;split at he;rotate_left;exact he.elim
 rename_i s_
 refine Zs he fun he=>?_
 refine Zp (Z3 s_) (fun i=>(Zm [(0,.c (.imm y7_ s_)),(1,.c (.fn 222 [])),(7,.c (.int .i64 (s_.length:Int))),(8,.c (.int .i64 i))],[])) he (Za []) ?_
 exact Zzf
def Zb1:Con:=fun
  |[.c (.imm (.pair (.sl (.pair (.int .i64) (.int .i64))) (.int .i64)) s_),.c (.fn 222 [])],[]=>.opt _ (Zcf s_) (fun r=>.ret (.c (.bool r)) [])
  |_,_=>.fail
def Zf2:Cfg:={ y:=tys,n:=9,h:=0,tab:=[(225,Zci)] }
theorem Zge:Zn Tryz.prog 161 Zb1:=by
 refine Zq (C:=Zf2) Tryz.f161 (Zk ZgT Zr) fun _ a b k he=>?_
 unfold Zb1 at he;split at he;rotate_left;exact he.elim
 rename_i s_
 refine Zs he fun he=>?_
 refine Zi he fun r1_ he=>?_
 exact Z5
def ZpI:Con:=fun
  |[.c (.imm (.pair (.sl (.pair (.int .i64) (.int .i64))) (.int .i64)) list_)],[]=>.opt _ (Zsb list_) (fun r=>.ret (.c (.bool r)) [])
  |_,_=>.fail
def ZA8:Cfg:={ y:=tys,n:=6,h:=0,tab:=[(161,Zb1)] }
theorem ZBC:Zn Tryz.prog 159 ZpI:=by
 refine Zq (C:=ZA8) Tryz.f159 (Zk Zge Zr) fun _ a b k he=>?_
 unfold ZpI at he;split at he;rotate_left;exact he.elim
 rename_i list_
 refine Zs he fun he=>?_
 refine Zi he fun r1_ he=>?_
 exact Z5
end
end Go.AE.Y
