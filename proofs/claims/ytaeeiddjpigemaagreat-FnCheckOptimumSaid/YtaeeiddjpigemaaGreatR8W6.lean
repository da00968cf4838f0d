/-
  Walks: each function keeps the contract that its model gives. No conditions.
-/
import Derived.Test.YtaeeiddjpigemaaGreatR8Tab
import Derived.Test.YtaeeiddjpigemaaGreatR8W5
import Derived.Test.YtaeeiddjpigemaaGreatR8S
namespace Go.AE.Y
open Go Go.AE Go.Proofs
set_option linter.unusedVariables false
set_option maxHeartbeats 2000000
set_option maxRecDepth 100000
noncomputable section
def ZcK:Con:=fun
  |[.c (.imm (.int .i64) s_),.c (.fn 126 [])],[]=>.opt _ (ZcX s_) (fun r=>.ret (.c (.bool r)) [])
  |_,_=>.fail
def Zjb:Cfg:={ y:=tys,n:=9,h:=0,tab:=[(186,Zc4)] }
theorem Zjs:Zn Tryz.prog 125 ZcK:=by
 refine Zq (C:=Zjb) Tryz.f125 (Zk ZkM Zr) fun _ a b k he=>?_
 unfold ZcK at he;split at he;rotate_left;exact he.elim
 rename_i s_
 refine Zs he fun he=>?_
 refine Zi he fun r1_ he=>?_
 exact Zbf
def ZeM:Con:=fun
  |[.agg [.imm (.int .i64) m_0,.imm (.pair (.int .i64) (.pair (.sl (.int .i64)) (.pair (.sl (.int .i64)) (.pair (.int .i64) (.sl (.sl (.int .i64))))))) m_1],.c (.imm (.int .i64) coefs)],[]=>.opt _ (Zd7 (m_0,m_1) coefs) (fun r=>.ret (.c (.bool r)) [])
  |_,_=>.fail
def Zz1:Cfg:={ y:=tys,n:=16,h:=0,tab:=[(125,ZcK)] }
theorem Zjr:Zn Tryz.prog 56 ZeM:=by
 refine Zq (C:=Zz1) Tryz.f56 (Zk Zjs Zr) fun _ a b k he=>?_
 unfold ZeM at he;split at he;rotate_left;exact he.elim
 rename_i m_0 m_1 coefs
 refine Zs he fun he=>?_
 refine Zg he (fun he=>?_) fun he=>?_
 ·exact ZFV
 ·exact Z3
def ZkA:Con:=fun
  |[.c (.imm (.int .i64) coefs),.c (.imm (.int .i64) cells)],[]=>.opt _ (Zfc coefs cells) (fun r=>.ret (.c (.int .i64 r)) [])
  |_,_=>.fail
def ZEW:Cfg:={ y:=tys,n:=25,h:=0,tab:=[] }
theorem ZrO:Zn Tryz.prog 60 ZkA:=by
 refine Zq (C:=ZEW) Tryz.f60 Zr fun _ a b k he=>?_
 unfold ZkA at he;split at he;rotate_left;exact he.elim
 rename_i coefs cells
 refine Zs he fun he=>?_
 refine Zt (Zq1 coefs cells) (fun (sum,i)=>(Zm [(0,.c (.imm y0_ coefs)),(5,.c (.int .i64 sum)),(8,.c (.imm y0_ cells)),(9,.c (.int .i64 (cells.length:Int))),(10,.c (.int .i64 i))],[])) he (Za []) ?_
 rintro⟨sum,i⟩ _ he
 refine Zg he (fun he=>?_) fun he=>?_
 ·exact ZBs
 ·exact Zbf
def ZiQ:Con:=fun
  |[.agg [.imm (.int .i64) m_0,.imm (.pair (.int .i64) (.pair (.sl (.int .i64)) (.pair (.sl (.int .i64)) (.pair (.int .i64) (.sl (.sl (.int .i64))))))) m_1],.c (.imm (.int .i64) coefs),.c (.int .i64 most)],[]=>.opt _ (ZdY (m_0,m_1) coefs most) (fun r=>.ret (.tup [.agg [.own 901 false,.int .i64 r.2.1],.c (.bool r.1)]) [(900,.rc [.own 901 false,.int .i64 r.2.1]),(901,.sl 155 y6_ r.2.2 .shallow)])
  |_,_=>.fail
def ZvA:Cfg:={ y:=tys,n:=63,h:=0,tab:=[(56,ZeM),(71,Zfn),(127,Zb9),(128,Zee),(129,Zmg)],cut:=[13],sched:=[(10,(Zy [0,1,2,3,4,5,6,7,9,10] (.alt 8 (.alt 11 (.alt 12 (.alt 13 (.alt 14 (.first 15 .done) .stop) .stop) .stop) .stop) .stop)))] }
theorem ZvQ:Zn Tryz.prog 59 ZiQ:=by
 refine Zq (C:=ZvA) Tryz.f59 (Zk Zjr (Zk Zj9 (Zk ZcH (Zk Zhm (Zk Zts Zr))))) fun _ a b k he=>?_
 unfold ZiQ at he;split at he;rotate_left;exact he.elim
 rename_i m_0 m_1 coefs most
 refine Zs he fun he=>?_
 refine Zi he fun r1_ he=>?_
 refine ZC he (fun he=>?_) fun he=>?_
 ·refine Zi he fun r2_ he=>?_
  refine ZC he (fun he=>?_) fun he=>?_
  ·refine Zi he fun r3_ he=>?_
   refine Zg he (fun he=>?_) fun he=>?_
   ·exact Zx7
   ·refine ZK (ZhX most) (fun terms3=>(Zm [(2,.c (.int .i64 most)),(6,.c (.ptr 10003000 0)),(8,.c (.own 10003001 false))],[(10003000,.rc [.nil,.int .i64 (0:Int)]),(10003001,.sl 155 y6_ terms3 .shallow)])) he ?_ ?_
    ·rintro terms3 he
     refine Zh he fun he=>?_
     refine Zi he fun r9_ he=>?_
     exact Zv [(6,[900]),(7,[])] (Zj he :) (Za [(900,10003000),(901,61901)])
    ·skip
     refine Zt (Ze3 (m_0,m_1) coefs most) (fun (i,terms1)=>(Zm [(1,.c (.imm y0_ coefs)),(2,.c (.int .i64 most)),(3,.c (.ptr 10000000 0)),(6,.c (.ptr 10000001 0)),(8,.c (.own 10000002 false)),(28,.c (.imm y0_ (m_0,m_1).1)),(29,.c (.int .i64 ((m_0,m_1).1.length:Int))),(30,.c (.int .i64 i))],[(10000000,.rc [.imm y0_ (m_0,m_1).1,.imm y5_ (m_0,m_1).2]),(10000001,.rc [.nil,.int .i64 (0:Int)]),(10000002,.sl 155 y6_ terms1 .shallow)])) he (Za [(10000000,3),(10000001,6)]) ?_
     rintro⟨i,terms1⟩ _ he
     refine Zg he (fun he=>?_) fun he=>?_
     ·refine Zh he fun he=>?_
      refine Zh he fun he=>?_
      refine Zt (Ze4 (m_0,m_1) coefs i) (fun (i2,terms2)=>(Zm [(1,.c (.imm y0_ coefs)),(2,.c (.int .i64 most)),(3,.c (.ptr 10002000 0)),(6,.c (.ptr 10002001 0)),(8,.c (.own 10002002 false)),(9,.c (.int .i64 i)),(28,.c (.imm y0_ (m_0,m_1).1)),(29,.c (.int .i64 ((m_0,m_1).1.length:Int))),(30,.c (.int .i64 i)),(36,.c (.int .i64 (((m_0,m_1).1.getD i.toNat 0)+(1:Int)))),(37,.c (.int .i64 i2))],[(10002000,.rc [.imm y0_ (m_0,m_1).1,.imm y5_ (m_0,m_1).2]),(10002001,.rc [.nil,.int .i64 (0:Int)]),(10002002,.sl 155 y6_ terms2 .shallow)])) he (Za [(10002000,10000000),(10002001,10000001),(10002002,10000002)]) ?_
      rintro⟨i2,terms2⟩ _ he
      refine Zg he (fun he=>?_) fun he=>?_
      ·refine And.intro (by kernel_rfl) ?_
       refine Zh he fun he=>?_
       refine Zh he fun he=>?_
       refine Zh he fun he=>?_
       refine Y4 ?_
       refine Y4 ?_
       refine Zi he fun r8_ he=>?_
       refine Y4 ?_
       refine Y4 ?_
       refine Y4 ?_
       refine Zh he fun he=>?_
       exact ZLo
      ·refine Zh he fun he=>?_
       exact⟨_,(Zj he :),(Za [(10000000,10002000),(10000001,10002001),(10000002,10002002)])⟩
     ·exact⟨_,(Zbn he :),(Za [(10003000,10000001),(10003001,10000002)])⟩
  ·exact Zx7
 ·exact Zx7
def ZcJ:Con:=fun
  |[.c (.imm (.pair (.sl (.pair (.int .i64) (.int .i64))) (.int .i64)) s_)],[]=>.opt _ (Zbg s_) (fun r=>.ret (.c (.own 900 false)) [(900,.sl 89 y7_ r .shallow)])
  |_,_=>.fail
def Zqu:Cfg:={ y:=tys,n:=8,h:=0,tab:=[] }
theorem Zfd:Zn Tryz.prog 61 ZcJ:=by
 refine Zq (C:=Zqu) Tryz.f61 Zr fun _ a b k he=>?_
 unfold ZcJ at he;split at he;rotate_left;exact he.elim
 rename_i s_
 refine Zs he fun he=>?_
 refine fun b1_ hb1_=>?_
 have he:=ZMw he hb1_
 refine And.intro (fun hb=>?_) (fun hb=>?_)
 ·have he:=ZI5 he hb
  exact ZM
 ·have he:=ZI4 he hb
  refine Zh he fun he=>?_
  exact Zv [(2,[])] (Zj he :) (Za [(900,7)])
def ZoD:Con:=fun
  |[.agg [.imm (.pair (.int .i64) (.int .i64)) c__0,.int .i64 c__1]],[]=>.opt _ (ZqZ (c__0,c__1)) (fun r=>.ret (.c (.bool r)) [])
  |_,_=>.fail
def ZB6:Cfg:={ y:=tys,n:=6,h:=0,tab:=[(223,Zbc)] }
theorem ZCe:Zn Tryz.prog 222 ZoD:=by
 refine Zq (C:=ZB6) Tryz.f222 (Zk ZbC Zr) fun _ a b k he=>?_
 unfold ZoD at he;split at he;rotate_left;exact he.elim
 rename_i c__0 c__1
 refine Zs he fun he=>?_
 refine Zi he fun r1_ he=>?_
 exact ZM
def Zcd:Con:=fun
  |[.c (.imm (.pair (.sl (.pair (.int .i64) (.int .i64))) (.int .i64)) s_),.c (.fn 222 [])],[]=>.opt _ (Zcv s_) (fun r=>.ret (.c (.int .i64 r)) [])
  |_,_=>.fail
def ZgV:Cfg:={ y:=tys,n:=19,h:=0,tab:=[(222,ZoD)] }
theorem Zg3:Zn Tryz.prog 225 Zcd:=by
 refine Zq (C:=ZgV) Tryz.f225 (Zk ZCe Zr) fun _ a b k he=>?_
 unfold Zcd at he;split at he;rotate_left;exact he.elim
 rename_i s_
 refine Zs he fun he=>?_
 refine Zt (Z2 s_) (fun i=>(Zm [(0,.c (.imm y7_ s_)),(1,.c (.fn 222 [])),(7,.c (.int .i64 (s_.length:Int))),(8,.c (.int .i64 i))],[])) he (Za []) ?_
 exact ZBu
def ZbY:Con:=fun
  |[.c (.imm (.pair (.sl (.pair (.int .i64) (.int .i64))) (.int .i64)) s_),.c (.fn 222 [])],[]=>.opt _ (Zcb s_) (fun r=>.ret (.c (.bool r)) [])
  |_,_=>.fail
def Zgc:Cfg:={ y:=tys,n:=9,h:=0,tab:=[(225,Zcd)] }
theorem Zgs:Zn Tryz.prog 161 ZbY:=by
 refine Zq (C:=Zgc) Tryz.f161 (Zk Zg3 Zr) fun _ a b k he=>?_
 unfold ZbY at he;split at he;rotate_left;exact he.elim
 rename_i s_
 refine Zs he fun he=>?_
 refine Zi he fun r1_ he=>?_
 exact Zbf
def ZqG:Con:=fun
  |[.c (.imm (.pair (.sl (.pair (.int .i64) (.int .i64))) (.int .i64)) list_)],[]=>.opt _ (Zto list_) (fun r=>.ret (.c (.bool r)) [])
  |_,_=>.fail
def ZDu:Cfg:={ y:=tys,n:=6,h:=0,tab:=[(161,ZbY)] }
theorem ZDV:Zn Tryz.prog 159 ZqG:=by
 refine Zq (C:=ZDu) Tryz.f159 (Zk Zgs Zr) fun _ a b k he=>?_
 unfold ZqG at he;split at he;rotate_left;exact he.elim
 rename_i list_
 refine Zs he fun he=>?_
 refine Zi he fun r1_ he=>?_
 exact Zbf
def Zmv:Con:=fun
  |[.c (.imm (.pair (.sl (.pair (.int .i64) (.int .i64))) (.int .i64)) list_)],[]=>.opt _ (Zg0 list_) (fun r=>.ret (.c (.bool r)) [])
  |_,_=>.fail
def Zzx:Cfg:={ y:=tys,n:=10,h:=0,tab:=[(159,ZqG)] }
theorem ZzN:Zn Tryz.prog 98 Zmv:=by
 refine Zq (C:=Zzx) Tryz.f98 (Zk ZDV Zr) fun _ a b k he=>?_
 unfold Zmv at he;split at he;rotate_left;exact he.elim
 rename_i list_
 refine Zs he fun he=>?_
 refine Zg he (fun he=>?_) fun he=>?_
 ·exact ZJU
 ·exact Zbf
def Zpk:Con:=fun
  |[.c (.int .i64 kind)],[]=>.opt _ (Zpd kind) (fun r=>.ret (.tup [.c (.int .i64 r.1),.c (.bool r.2)]) [])
  |_,_=>.fail
def ZG0:Cfg:={ y:=tys,n:=17,h:=0,tab:=[] }
theorem Zzk:Zn Tryz.prog 155 Zpk:=by
 refine Zq (C:=ZG0) Tryz.f155 Zr fun _ a b k he=>?_
 unfold Zpk at he;split at he;rotate_left;exact he.elim
 rename_i kind
 refine Zs he fun he=>?_
 refine Zg he (fun he=>?_) fun he=>?_
 ·exact Zbf
 ·refine Zg he (fun he=>?_) fun he=>?_
  ·exact Zbf
  ·refine Zg he (fun he=>?_) fun he=>?_
   ·exact Zbf
   ·refine Zg he (fun he=>?_) fun he=>?_
    ·exact Zbf
    ·refine Zg he (fun he=>?_) fun he=>?_
     ·exact Zbf
     ·refine Zg he (fun he=>?_) fun he=>?_
      ·exact Zbf
      ·refine Zg he (fun he=>?_) fun he=>?_
       ·exact Zbf
       ·exact ZJJ
def ZhS:Con:=fun
  |[.c (.imm (.pair (.int .i64) (.int .i64)) s1_),.c (.imm (.pair (.int .i64) (.int .i64)) s2_)],[]=>.opt _ (Zf7 s1_ s2_) (fun r=>.ret (.c (.bool r)) [])
  |_,_=>.fail
def ZuA:Cfg:={ y:=tys,n:=26,h:=0,tab:=[] }
theorem Zu9:Zn Tryz.prog 137 ZhS:=by
 refine Zq (C:=ZuA) Tryz.f137 Zr fun _ a b k he=>?_
 unfold ZhS at he;split at he;rotate_left;exact he.elim
 rename_i s1_ s2_
 refine Zs he fun he=>?_
 refine Zg he (fun he=>?_) fun he=>?_
 ·exact Zbf
 ·refine Zt (Zhr s1_ s2_) (fun i=>(Zm [(0,.c (.imm y6_ s1_)),(1,.c (.imm y6_ s2_)),(12,.c (.int .i64 (s1_.length:Int))),(13,.c (.int .i64 i))],[])) he (Za []) ?_
  exact ZJP
def Zkx:Con:=fun
  |[.agg [.imm (.pair (.int .i64) (.int .i64)) a_0,.int .i64 a_1],.agg [.imm (.pair (.int .i64) (.int .i64)) b_0,.int .i64 b_1]],[]=>.opt _ (Zbz (a_0,a_1) (b_0,b_1)) (fun r=>.ret (.c (.bool r)) [])
  |_,_=>.fail
def Zxf:Cfg:={ y:=tys,n:=17,h:=0,tab:=[(137,ZhS)] }
theorem Zxw:Zn Tryz.prog 70 Zkx:=by
 refine Zq (C:=Zxf) Tryz.f70 (Zk Zu9 Zr) fun _ a b k he=>?_
 unfold Zkx at he;split at he;rotate_left;exact he.elim
 rename_i a_0 a_1 b_0 b_1
 refine Zs he fun he=>?_
 refine Zg he (fun he=>?_) fun he=>?_
 ·exact ZFV
 ·exact Z3
def Zno:Con:=fun
  |[.agg [.int .i64 s__0,.int .i64 s__1,.int .i64 s__2,.imm (.pair (.int .i64) (.int .i64)) s__3,.int .i64 s__4]],[]=>.opt _ (Zlq (s__0,(s__1,(s__2,(s__3,s__4))))) (fun r=>.ret (.c (.bool r)) [])
  |_,_=>.fail
def Zz0:Cfg:={ y:=tys,n:=50,h:=0,tab:=[(70,Zkx),(155,Zpk)] }
theorem ZAy:Zn Tryz.prog 259 Zno:=by
 refine Zq (C:=Zz0) Tryz.f259 (Zk Zxw (Zk Zzk Zr)) fun _ a b k he=>?_
 unfold Zno at he;split at he;rotate_left;exact he.elim
 rename_i s__0 s__1 s__2 s__3 s__4
 refine Zs he fun he=>?_
 refine Zi he fun r1_ he=>?_
 refine Zg he (fun he=>?_) fun he=>?_
 ·refine ZC he (fun he=>?_) fun he=>?_
  ·refine ZC he (fun he=>?_) fun he=>?_
   ·refine Zg he (fun he=>?_) fun he=>?_
    ·refine ZC he (fun he=>?_) fun he=>?_
     ·refine ZC he (fun he=>?_) fun he=>?_
      ·refine Zg he (fun he=>?_) fun he=>?_
       ·refine ZC he (fun he=>?_) fun he=>?_
        ·refine Zi he fun r2_ he=>?_
         exact ZM
        ·exact ZM
       ·exact ZM
      ·refine ZC he (fun he=>?_) fun he=>?_
       ·refine Zi he fun r3_ he=>?_
        exact ZM
       ·exact ZM
     ·refine ZC he (fun he=>?_) fun he=>?_
      ·refine Zi he fun r4_ he=>?_
       exact ZM
      ·exact ZM
    ·exact ZM
   ·refine ZC he (fun he=>?_) fun he=>?_
    ·refine ZC he (fun he=>?_) fun he=>?_
     ·refine Zg he (fun he=>?_) fun he=>?_
      ·refine ZC he (fun he=>?_) fun he=>?_
       ·refine Zi he fun r5_ he=>?_
        exact ZM
       ·exact ZM
      ·exact ZM
     ·refine ZC he (fun he=>?_) fun he=>?_
      ·refine Zi he fun r6_ he=>?_
       exact ZM
      ·exact ZM
    ·refine ZC he (fun he=>?_) fun he=>?_
     ·refine Zi he fun r7_ he=>?_
      exact ZM
     ·exact ZM
  ·refine ZC he (fun he=>?_) fun he=>?_
   ·refine ZC he (fun he=>?_) fun he=>?_
    ·refine Zg he (fun he=>?_) fun he=>?_
     ·refine ZC he (fun he=>?_) fun he=>?_
      ·refine Zi he fun r8_ he=>?_
       exact ZM
      ·exact ZM
     ·exact ZM
    ·refine ZC he (fun he=>?_) fun he=>?_
     ·refine Zi he fun r9_ he=>?_
      exact ZM
     ·exact ZM
   ·refine ZC he (fun he=>?_) fun he=>?_
    ·refine Zi he fun r10_ he=>?_
     exact ZM
    ·exact ZM
 ·exact ZM
def ZiU:Con:=fun
  |[.c (.ptr 0 0),.c (.int .i64 i)],[(0,.rc [.own 1 false,.own 2 false]),(1,.sl 89 (.pair (.sl (.pair (.int .i64) (.int .i64))) (.int .i64)) o1 .shallow),(2,.sl 4 .bool o2 .shallow)]=>.opt _ (ZdZ i o1 o2) (fun r=>.ret (.c (.bool r)) [(0,.rc [.own 1 false,.own 2 false]),(1,.sl 89 y7_ o1 .shallow),(2,.sl 4 .bool o2 .shallow)])
  |_,_=>.fail
def ZvH:Cfg:={ y:=tys,n:=23,h:=3,tab:=[(127,Zb9)] }
theorem ZLr {P:Prop} (h:P:=by
  refine Zg he (fun he=>?_) fun he=>?_
  ·exact ZMN
  ·exact Z3):P:=h
theorem ZvU:Zn Tryz.prog 260 ZiU:=by
 refine Zq (C:=ZvH) Tryz.f260 (Zk ZcH Zr) fun _ a b k he=>?_
 unfold ZiU at he;split at he;rotate_left;exact he.elim
 rename_i i o1 o2
 refine Zs he fun he=>?_
 refine Zh he fun he=>?_
 refine Zi he fun r1_ he=>?_
 exact ZLr
def ZiV:Con:=fun
  |[.c (.nil),.c (.int .i64 n)],[]=>.opt _ (ZgF n) (fun r=>.ret (.c (.own 900 false)) [(900,.sl 155 y6_ r .shallow)])
  |_,_=>.fail
def ZvI:Cfg:={ y:=tys,n:=27,h:=0,tab:=[] }
theorem ZvV:Zn Tryz.prog 304 ZiV:=by
 refine Zq (C:=ZvI) Tryz.f304 Zr fun _ a b k he=>?_
 unfold ZiV at he;split at he;rotate_left;exact he.elim
 rename_i n
 refine Zs he fun he=>?_
 refine Zg he (fun he=>?_) fun he=>?_
 ·exact(ZFw he).elim
 ·refine Zh he fun he=>?_
  refine Zh he fun he=>?_
  refine Zg he (fun he=>?_) fun he=>?_
  ·refine Zh he fun he=>?_
   refine Zh he fun he=>?_
   refine Zh he fun he=>?_
   exact Zv [(4,[])] (Zj he :) (Za [(900,25)])
  ·exact Z3
def Zhf:Con:=fun
  |[.c (.imm (.sl (.pair (.int .i64) (.int .i64))) slices)],[]=>.opt _ (ZfC slices) (fun r=>.ret (.c (.own 900 false)) [(900,.sl 155 y6_ r .shallow)])
  |_,_=>.fail
def ZtX:Cfg:={ y:=tys,n:=36,h:=0,tab:=[(304,ZiV)],hand:=[(304,[0])],nils:=[304] }
theorem Zua:Zn Tryz.prog 290 Zhf:=by
 refine Zq (C:=ZtX) Tryz.f290 (Zk ZvV Zr) fun _ a b k he=>?_
 unfold Zhf at he;split at he;rotate_left;exact he.elim
 rename_i slices
 refine Zs he fun he=>?_
 refine Zt (ZbM slices) (fun (size,i)=>(Zm [(0,.c (.imm (.sl y6_) slices)),(3,.c (.int .i64 size)),(9,.c (.imm (.sl y6_) slices)),(10,.c (.int .i64 (slices.length:Int))),(11,.c (.int .i64 i))],[])) he (Za []) ?_
 rintro⟨size,i⟩ _ he
 refine Zg he (fun he=>?_) fun he=>?_
 ·refine Zh he fun he=>?_
  refine Zh he fun he=>?_
  refine Zg he (fun he=>?_) fun he=>?_
  ·exact(ZFw he).elim
  ·exact ZdC
 ·refine Zi he fun r1_ he=>?_
  refine Zt (ZbN slices) (fun (i1,newslice)=>(Zm [(6,.c (.own 10001000 false)),(25,.c (.imm (.sl y6_) slices)),(26,.c (.int .i64 (slices.length:Int))),(27,.c (.int .i64 i1))],[(10001000,.sl 155 y6_ newslice .shallow)])) he (Za [(10001000,25900)]) ?_
  rintro⟨i1,newslice⟩ _ he
  refine Zg he (fun he=>?_) fun he=>?_
  ·refine Zh he fun he=>?_
   refine Zh he fun he=>?_
   refine Zh he fun he=>?_
   exact⟨_,(Zj he :),(Za [(10001000,33)])⟩
  ·exact Zv [(2,[])] (Zj he :) (Za [(900,10001000)])
def Zkw:Con:=fun
  |[.agg [.imm (.pair (.int .i64) (.int .i64)) a_0,.int .i64 a_1],.agg [.imm (.pair (.int .i64) (.int .i64)) b_0,.int .i64 b_1]],[]=>.opt _ (Zio (a_0,a_1) (b_0,b_1)) (fun r=>.ret (.tup [.agg [.own 901 false,.int .i64 r.2.1],.c (.bool r.1)]) [(900,.rc [.own 901 false,.int .i64 r.2.1]),(901,.sl 155 y6_ r.2.2 .shallow)])
  |_,_=>.fail
def Zxe:Cfg:={ y:=tys,n:=29,h:=0,tab:=[(129,Zmg),(223,Zbc),(290,Zhf)],cut:=[1],sched:=[(3,(Zy [0,1,2,3,6,7,8,9,10] (.alt 4 (.alt 5 (.alt 11 (Zy [12,13] (.alt 14 (.first 15 .done) .stop)) .stop) .stop) .stop)))] }
theorem ZrX {P:Prop} (h:P:=by
  exact Zv [(4,[900]),(5,[])] (Zj he :) (Za [(900,10000000)])):P:=h
theorem Zxv:Zn Tryz.prog 261 Zkw:=by
 refine Zq (C:=Zxe) Tryz.f261 (Zk Zts (Zk ZbC (Zk Zua Zr))) fun _ a b k he=>?_
 unfold Zkw at he;split at he;rotate_left;exact he.elim
 rename_i a_0 a_1 b_0 b_1
 refine Zs he fun he=>?_
 refine ZK (ZjQ (a_0,a_1) (b_0,b_1)) (fun _=>(Zm [(2,.c (.iptr y7_ (a_0,a_1) 0)),(3,.c (.iptr y7_ (b_0,b_1) 0)),(4,.c (.ptr 10000000 0))],[(10000000,.rc [.nil,.int .i64 (0:Int)])])) he ?_ ?_
 ·rintro⟨⟩ he
  refine Zi he fun r1_ he=>?_
  refine ZC he (fun he=>?_) fun he=>?_
  ·refine Zi he fun r2_ he=>?_
   refine Zg he (fun he=>?_) fun he=>?_
   ·exact ZrX
   ·refine And.intro (by kernel_rfl) ?_
    refine Zh he fun he=>?_
    refine Y4 ?_
    refine Y4 ?_
    refine Zi he fun r5_ he=>?_
    refine Y4 ?_
    refine Zi he fun r6_ he=>?_
    refine Y4 ?_
    exact Zv [(4,[900]),(5,[])] (Zj he :) (Za [(900,10000000),(901,27901)])
  ·exact ZrX
 ·skip
  exact⟨_,he,(ZcA [(10000000,4)] rfl rfl ⟨⟨rfl,rfl,Y1⟩,Y1⟩ ⟨.inr ⟨2,rfl,⟨rfl,by repeat (first|exact trivial|refine And.intro trivial ?_)⟩,rfl⟩,.inr ⟨3,rfl,⟨rfl,by repeat (first|exact trivial|refine And.intro trivial ?_)⟩,rfl⟩,⟨Y2,rfl⟩,Y1⟩)⟩
def ZhR:Con:=fun
  |[.c (.imm (.pair (.int .i64) (.int .i64)) s_)],[]=>.opt _ (Zf6 s_) (fun r=>.ret (.c (.own 900 false)) [(900,.sl 155 y6_ r .shallow)])
  |_,_=>.fail
def Zuz:Cfg:={ y:=tys,n:=8,h:=0,tab:=[] }
theorem Zu8:Zn Tryz.prog 224 ZhR:=by
 refine Zq (C:=Zuz) Tryz.f224 Zr fun _ a b k he=>?_
 unfold ZhR at he;split at he;rotate_left;exact he.elim
 rename_i s_
 refine Zs he fun he=>?_
 refine fun b1_ hb1_=>?_
 have he:=ZMw he hb1_
 refine And.intro (fun hb=>?_) (fun hb=>?_)
 ·have he:=ZI5 he hb
  exact ZM
 ·have he:=ZI4 he hb
  refine Zh he fun he=>?_
  exact Zv [(2,[])] (Zj he :) (Za [(900,7)])
def Zgx:Con:=fun
  |[.agg [.imm (.pair (.int .i64) (.int .i64)) c__0,.int .i64 c__1]],[]=>.opt _ (Zex (c__0,c__1)) (fun r=>.ret (.agg [.own 901 false,.int .i64 r.1]) [(900,.rc [.own 901 false,.int .i64 r.1]),(901,.sl 155 y6_ r.2 .shallow)])
  |_,_=>.fail
def Zxg:Cfg:={ y:=tys,n:=8,h:=0,tab:=[(224,ZhR)] }
theorem Zqk:Zn Tryz.prog 160 Zgx:=by
 refine Zq (C:=Zxg) Tryz.f160 (Zk Zu8 Zr) fun _ a b k he=>?_
 unfold Zgx at he;split at he;rotate_left;exact he.elim
 rename_i c__0 c__1
 refine Zs he fun he=>?_
 refine Zi he fun r1_ he=>?_
 exact Zv [(2,[900])] (Zj he :) (Za [(900,2),(901,6900)])
end
end Go.AE.Y
