/-
  Walks: each function keeps the contract that its model gives. No conditions.
-/
import Derived.Test.YtaeeiddjpigemaaGreatR8Tab
import Derived.Test.YtaeeiddjpigemaaGreatR8W7
import Derived.Test.YtaeeiddjpigemaaGreatR8S
namespace Go.AE.Y
open Go Go.AE Go.Proofs
set_option linter.unusedVariables false
set_option maxHeartbeats 2000000
set_option maxRecDepth 100000
noncomputable section
def ZjM:Con:=fun
  |[.agg [.imm (.pair (.int .i64) (.int .i64)) c__0,.int .i64 c__1]],[]=>.opt _ (Ze5 (c__0,c__1)) (fun r=>.ret (.c (.bool r)) [])
  |_,_=>.fail
def ZmP:Sched:=Zy [7,8,9] .done
def ZmQ:Sched:=.alt 6 ZmP .stop
def ZwP:Cfg:={ y:=tys,n:=12,h:=0,tab:=[(223,Zbc),(236,Zfw)],sched:=[(1,(.alt 0 (.alt 1 (Zy [2,3] (.alt 4 (.alt 5 ZmQ .stop) (.alt 5 (.alt 4 ZmQ (.alt 6 (.alt 4 ZmP .stop) .stop)) .stop))) .stop) .stop))] }
theorem ZLB {P:Prop} (h:P:=by
  skip
  refine Y4 ?_
  refine Y4 ?_
  refine⟨r4_,hq1,?_⟩
  exact ZM):P:=h
theorem ZLC {P:Prop} (h:P:=by
  skip
  refine Y4 ?_
  refine⟨r4_,hq1,?_⟩
  exact ZM):P:=h
theorem ZLD {P:Prop} (h:P:=by
  skip
  refine Y5 ?_ ?_
  ·skip
   exact Zx6
  ·skip
   exact Zx6):P:=h
theorem Zw2:Zn Tryz.prog 175 ZjM:=by
 refine Zq (C:=ZwP) Tryz.f175 (Zk ZbC (Zk Zoz Zr)) fun _ a b k he=>?_
 unfold ZjM at he;split at he;rotate_left;exact he.elim
 rename_i c__0 c__1
 refine Zs he fun he=>?_
 refine And.intro (by kernel_rfl) ?_
 refine Y4 ?_
 refine Y4 ?_
 refine Zi he fun r3_ he=>?_
 refine Zg he (fun he=>?_) fun he=>?_
 ·obtain⟨r4_,hq1,he⟩:=ZS he
  refine Y5 ?_ ?_
  ·exact ZLB
  ·skip
   refine Y5 ?_ ?_
   ·exact ZLC
   ·skip
    refine⟨r4_,hq1,?_⟩
    exact Zx6
 ·refine Y5 ?_ ?_
  ·exact ZEL
  ·exact ZLD
def ZqH:Con:=fun
  |[.c (.imm (.pair (.sl (.pair (.int .i64) (.int .i64))) (.int .i64)) list_),.c (.imm (.pair (.int .i64) (.pair (.int .i64) (.pair (.int .i64) (.pair (.sl (.pair (.int .i64) (.int .i64))) (.int .i64))))) steps)],[]=>.opt _ (Zpq list_ steps) (fun r=>.ite r.1 (.ret (.tup [.c (.ptr 900 0),.c (.int .i64 r.2.1)]) [(900,.rc [.own 901 false,.own 902 false]),(901,.sl 89 y7_ r.2.2.1 .shallow),(902,.sl 4 .bool r.2.2.2.1 .shallow)]) (.ret (.tup [.c (.undef),.c (.int .i64 r.2.2.2.2)]) []))
  |_,_=>.fail
def ZDv:Cfg:={ y:=tys,n:=44,h:=0,tab:=[(174,Zyl),(175,ZjM)] }
theorem ZDW:Zn Tryz.prog 115 ZqH:=by
 refine Zq (C:=ZDv) Tryz.f115 (Zk ZMl (Zk Zw2 Zr)) fun _ a b k he=>?_
 unfold ZqH at he;split at he;rotate_left;exact he.elim
 rename_i list_ steps
 refine ZPm he fun he=>?_
 refine Zi he fun r1_ he=>?_
 refine Zg he (fun he=>?_) fun he=>?_
 ·refine Zg he (fun he=>?_) fun he=>?_
  ·have he:=Zj he
   have he:=he.2 rfl
   exact⟨rfl,_,_,(Za [] (l:=[(4,.c (.undef)),(5,.c (.int .i64 (-1:Int)))]) (st':=[])),he⟩
  ·refine Zt (Zh0 r1_) (fun i=>(Zm [(6,.c (.ptr 10000000 0)),(21,.c (.own 10000001 false)),(22,.c (.int .i64 (r1_.2.2.1.length:Int))),(23,.c (.int .i64 i))],[(10000000,.rc [.own 10000001 false,.own 10000002 false]),(10000001,.sl 89 y7_ r1_.2.2.1 .shallow),(10000002,.sl 4 .bool r1_.2.2.2.1 .shallow)])) he (Za [(10000000,14900),(10000001,14901),(10000002,14902)]) ?_
   rintro i _ he
   refine Zg he (fun he=>?_) fun he=>?_
   ·refine Zh he fun he=>?_
    refine Zh he fun he=>?_
    refine Zg he (fun he=>?_) fun he=>?_
    ·refine Zi he fun r2_ he=>?_
     refine Zg he (fun he=>?_) fun he=>?_
     ·have he:=Zj he
      have he:=he.1 rfl
      exact⟨rfl,_,_,(Za [(900,10000000),(901,10000001),(902,10000002)] (l:=[(4,.c (.ptr 900 0)),(5,.c (.int .i64 i))]) (st':=[(900,.rc [.own 901 false,.own 902 false]),(901,.sl 89 y7_ r1_.2.2.1 .shallow),(902,.sl 4 .bool r1_.2.2.2.1 .shallow)])),he⟩
     ·exact ZdC
    ·exact ZdC
   ·have he:=Zj he
    have he:=he.1 rfl
    exact⟨rfl,_,_,(Za [(900,10000000),(901,10000001),(902,10000002)] (l:=[(4,.c (.ptr 900 0)),(5,.c (.int .i64 (-1:Int)))]) (st':=[(900,.rc [.own 901 false,.own 902 false]),(901,.sl 89 y7_ r1_.2.2.1 .shallow),(902,.sl 4 .bool r1_.2.2.2.1 .shallow)])),he⟩
 ·refine Zg he (fun he=>?_) fun he=>?_
  ·exact ZF2
  ·exact(ZFw he).elim
def ZjL:Con:=fun
  |[.c (.imm (.pair (.sl (.pair (.int .i64) (.int .i64))) (.int .i64)) list_),.c (.imm (.pair (.int .i64) (.pair (.int .i64) (.pair (.int .i64) (.pair (.sl (.pair (.int .i64) (.int .i64))) (.int .i64))))) steps)],[]=>.opt _ (Zhi list_ steps) (fun r=>.ret (.c (.bool r)) [])
  |_,_=>.fail
def ZwO:Cfg:={ y:=tys,n:=15,h:=0,tab:=[(115,ZqH)] }
theorem Zw1:Zn Tryz.prog 45 ZjL:=by
 refine Zq (C:=ZwO) Tryz.f45 (Zk ZDW Zr) fun _ a b k he=>?_
 unfold ZjL at he;split at he;rotate_left;exact he.elim
 rename_i list_ steps
 refine Zs he fun he=>?_
 refine Zi he fun r1_ he=>?_
 refine Zg he (fun he=>?_) fun he=>?_
 ·exact Z3
 ·exact Zbf
def Zmr:Con:=fun
  |[.agg [.imm (.int .i64) m_0,.imm (.pair (.int .i64) (.pair (.sl (.int .i64)) (.pair (.sl (.int .i64)) (.pair (.int .i64) (.sl (.sl (.int .i64))))))) m_1],.c (.imm (.int .i64) coefs),.c (.imm (.int .i64) cells),.c (.imm (.pair (.int .i64) (.pair (.int .i64) (.pair (.int .i64) (.pair (.sl (.pair (.int .i64) (.int .i64))) (.int .i64))))) steps)],[]=>.opt _ (ZgX (m_0,m_1) coefs cells steps) (fun r=>.ret (.c (.bool r)) [])
  |_,_=>.fail
def ZoK:Sched:=.alt 11 (.first 12 .done) .stop
def ZjG:Sched:=.alt 6 (Zy [7,8,9] ZoK) .stop
def ZoL:Sched:=.alt 6 (Zy [7,8,9] (.alt 10 ZoK .stop)) (.alt 10 ZjG .stop)
def ZoM:Sched:=.alt 4 (.first 5 ZjG) .stop
def ZoN:Sched:=.alt 0 ZjG .stop
def ZoO:Sched:=.alt 6 (.alt 8 (Zy [9,10] .done) .stop) .stop
def ZoP:Sched:=.alt 5 ZoO .stop
def Zzs:Cfg:={ y:=tys,n:=51,h:=0,tab:=[(45,ZjL),(55,ZrD),(56,ZeM),(59,ZiQ),(60,ZkA),(61,ZcJ),(77,Znn)],cut:=[5],good:=[61],sched:=[(4,(Zy [1,2,3] (.alt 0 (.alt 4 (.first 5 ZoL) (.alt 10 ZoM .stop)) (.alt 4 (.first 5 (.alt 0 ZoL (.alt 10 ZoN .stop))) (.alt 10 (.alt 0 ZoM (.alt 4 (.first 5 ZoN) .stop)) .stop))))),(5,(Zy [0,1,2,7] (.alt 3 (.alt 4 ZoP .stop) (.alt 4 (.alt 3 ZoP (.alt 5 (.alt 3 ZoO .stop) .stop)) .stop))))] }
theorem Zmo {P:Prop} (h:P:=by
  exact Zv [(8,[])] (Zj he :) (Za [])):P:=h
theorem ZF3 {P:Prop} (h:P:=by
  refine Y4 ?_
  refine And.intro hq2 ?_
  refine Y4 ?_
  refine⟨r11_,hq3,?_⟩
  exact Zmo):P:=h
theorem ZF4 {P:Prop} (h:P:=by
  refine Y4 ?_
  refine Y4 ?_
  refine Y4 ?_
  exact Zmo):P:=h
theorem ZLE {P:Prop} (h:P:=by
  refine Y4 ?_
  exact⟨_,he,(Za [(10000000,15900),(10000001,11),(10000002,39901)])⟩):P:=h
theorem ZBS {P:Prop} (h:P:=by
  refine Y4 ?_
  refine⟨r7_,hq3,?_⟩
  exact ZLE):P:=h
theorem ZLF {P:Prop} (h:P:=by
  refine Y5 ?_ ?_
  ·skip
   refine⟨r7_,hq3,?_⟩
   refine Y4 ?_
   exact ZLE
  ·skip
   exact ZBS):P:=h
theorem ZLG {P:Prop} (h:P:=by
  skip
  refine Y4 ?_
  refine⟨r6_,hq1,?_⟩
  refine And.intro hq2 ?_
  exact ZBS):P:=h
theorem ZzJ:Zn Tryz.prog 18 Zmr:=by
 refine Zq (C:=Zzs) Tryz.f18 (Zk Zw1 (Zk ZFm (Zk Zjr (Zk ZvQ (Zk ZrO (Zk Zfd (Zk ZAx Zr))))))) fun _ a b k he=>?_
 unfold Zmr at he;split at he;rotate_left;exact he.elim
 rename_i m_0 m_1 coefs cells steps
 refine Zs he fun he=>?_
 refine Zi he fun r1_ he=>?_
 refine ZC he (fun he=>?_) fun he=>?_
 ·refine Zi he fun r2_ he=>?_
  refine ZC he (fun he=>?_) fun he=>?_
  ·refine Zi he fun r3_ he=>?_
   refine Zg he (fun he=>?_) fun he=>?_
   ·exact Zmo
   ·refine ZK (Zli steps r1_) (fun (ok,c_1,c_0)=>(Zm [(3,.c (.imm Zdg steps)),(9,.c (.own 10000000 false)),(10,.c (.bool ok)),(11,.c (.ptr 10000001 0))],[(10000000,.sl 89 y7_ r1_.2 (.deep true .no)),(10000001,.rc [.own 10000002 false,.int .i64 c_1]),(10000002,.sl 155 y6_ c_0 .shallow)])) he ?_ ?_
    ·rintro⟨ok,c_1,c_0⟩ he
     refine And.intro (by kernel_rfl) ?_
     refine Zg he (fun he=>?_) fun he=>?_
     ·obtain⟨r10_,hq1,he⟩:=ZS he
      obtain⟨hq2,he⟩:=ZD he
      obtain⟨r11_,hq3,he⟩:=ZS he
      refine Y5 ?_ ?_
      ·skip
       refine⟨r10_,hq1,?_⟩
       refine Y4 ?_
       refine Y4 ?_
       exact ZF3
      ·skip
       refine Y5 ?_ ?_
       ·skip
        refine⟨r10_,hq1,?_⟩
        refine Y4 ?_
        exact ZF3
       ·skip
        refine Y4 ?_
        refine⟨r10_,hq1,?_⟩
        exact ZF3
     ·refine Y5 ?_ ?_
      ·skip
       refine Y4 ?_
       exact ZF4
      ·skip
       refine Y5 ?_ ?_
       ·skip
        exact ZF4
       ·skip
        exact ZF4
    ·skip
     refine And.intro (by kernel_rfl) ?_
     obtain⟨r6_,hq1,he⟩:=ZS he
     obtain⟨hq2,he⟩:=ZD he
     obtain⟨r7_,hq3,he⟩:=ZS he
     refine And.intro ?_ (And.intro ?_ (And.intro ?_ (Y1)))
     ·skip
      refine Y5 ?_ ?_
      ·skip
       refine⟨r6_,hq1,?_⟩
       refine And.intro hq2 ?_
       exact ZLF
      ·exact ZLG
     ·skip
      refine⟨r6_,hq1,?_⟩
      refine And.intro hq2 ?_
      refine Y5 ?_ ?_
      ·skip
       exact ZLF
      ·skip
       refine Y4 ?_
       exact ZBS
     ·skip
      refine Y5 ?_ ?_
      ·exact ZLG
      ·skip
       refine⟨r6_,hq1,?_⟩
       refine And.intro hq2 ?_
       refine Y4 ?_
       exact ZBS
  ·exact Zmo
 ·exact Zmo
def ZrH:Con:=fun
  |[.agg [.imm (.int .i64) m_0,.imm (.pair (.int .i64) (.pair (.sl (.int .i64)) (.pair (.sl (.int .i64)) (.pair (.int .i64) (.sl (.sl (.int .i64))))))) m_1],.c (.imm (.int .i64) cells)],[]=>.opt _ (Zrf (m_0,m_1) cells) (fun r=>.ret (.c (.bool r)) [])
  |_,_=>.fail
def ZE3:Cfg:={ y:=tys,n:=35,h:=0,tab:=[] }
theorem ZFq:Zn Tryz.prog 204 ZrH:=by
 refine Zq (C:=ZE3) Tryz.f204 Zr fun _ a b k he=>?_
 unfold ZrH at he;split at he;rotate_left;exact he.elim
 rename_i m_0 m_1 cells
 refine Zs he fun he=>?_
 refine Zg he (fun he=>?_) fun he=>?_
 ·exact Z3
 ·refine Zt (Zm6 (m_0,m_1) cells) (fun i=>(Zm [(1,.c (.imm y0_ cells)),(2,.c (.ptr 10000000 0)),(5,.c (.int .i64 i))],[(10000000,.rc [.imm y0_ (m_0,m_1).1,.imm y5_ (m_0,m_1).2])])) he (Za [(10000000,2)]) ?_
  rintro i _ he
  refine Zg he (fun he=>?_) fun he=>?_
  ·refine And.intro (by kernel_rfl) ?_
   refine Zh he fun he=>?_
   refine ZC he (fun he=>?_) fun he=>?_
   ·exact ZJI
   ·exact Z3
  ·exact Z3
def ZoE:Con:=fun
  |[.agg [.imm (.int .i64) m_0,.imm (.pair (.int .i64) (.pair (.sl (.int .i64)) (.pair (.sl (.int .i64)) (.pair (.int .i64) (.sl (.sl (.int .i64))))))) m_1],.c (.imm (.int .i64) cells)],[]=>.opt _ (Zra (m_0,m_1) cells) (fun r=>.ret (.c (.bool r)) [])
  |_,_=>.fail
def ZB8:Cfg:={ y:=tys,n:=12,h:=0,tab:=[(130,Zfo),(204,ZrH)] }
theorem ZCg:Zn Tryz.prog 144 ZoE:=by
 refine Zq (C:=ZB8) Tryz.f144 (Zk Zka (Zk ZFq Zr)) fun _ a b k he=>?_
 unfold ZoE at he;split at he;rotate_left;exact he.elim
 rename_i m_0 m_1 cells
 refine Zs he fun he=>?_
 refine Zi he fun r1_ he=>?_
 refine Zg he (fun he=>?_) fun he=>?_
 ·exact Zx5
 ·exact Z3
def ZqM:Con:=fun
  |[.agg [.imm (.int .i64) m_0,.imm (.pair (.int .i64) (.pair (.sl (.int .i64)) (.pair (.sl (.int .i64)) (.pair (.int .i64) (.sl (.sl (.int .i64))))))) m_1],.c (.imm (.int .i64) cells)],[]=>.opt _ (Zpy (m_0,m_1) cells) (fun r=>.ret (.c (.bool r)) [])
  |_,_=>.fail
def ZDC:Cfg:={ y:=tys,n:=21,h:=0,tab:=[(205,Zn6)] }
theorem ZD0:Zn Tryz.prog 145 ZqM:=by
 refine Zq (C:=ZDC) Tryz.f145 (Zk ZxE Zr) fun _ a b k he=>?_
 unfold ZqM at he;split at he;rotate_left;exact he.elim
 rename_i m_0 m_1 cells
 refine Zs he fun he=>?_
 refine Zt (ZlN (m_0,m_1) cells) (fun i=>(Zm [(1,.c (.imm y0_ cells)),(2,.c (.ptr 10000000 0)),(5,.c (.int .i64 i))],[(10000000,.rc [.imm y0_ (m_0,m_1).1,.imm y5_ (m_0,m_1).2])])) he (Za [(10000000,2)]) ?_
 exact ZxZ
def Znt:Con:=fun
  |[.agg [.imm (.int .i64) m_0,.imm (.pair (.int .i64) (.pair (.sl (.int .i64)) (.pair (.sl (.int .i64)) (.pair (.int .i64) (.sl (.sl (.int .i64))))))) m_1],.c (.imm (.int .i64) cells)],[]=>.opt _ (Zic (m_0,m_1) cells) (fun r=>.ret (.c (.bool r)) [])
  |_,_=>.fail
def Zz8:Cfg:={ y:=tys,n:=13,h:=0,tab:=[(144,ZoE),(145,ZqM)] }
theorem ZAE:Zn Tryz.prog 81 Znt:=by
 refine Zq (C:=Zz8) Tryz.f81 (Zk ZCg (Zk ZD0 Zr)) fun _ a b k he=>?_
 unfold Znt at he;split at he;rotate_left;exact he.elim
 rename_i m_0 m_1 cells
 refine Zs he fun he=>?_
 refine Zi he fun r1_ he=>?_
 refine Zg he (fun he=>?_) fun he=>?_
 ·exact Zx5
 ·exact Z3
def Ztd:Con:=fun
  |[.c (.imm (.pair (.sl (.pair (.int .i64) (.int .i64))) (.int .i64)) list_),.c (.imm (.pair (.int .i64) (.pair (.int .i64) (.pair (.int .i64) (.pair (.sl (.pair (.int .i64) (.int .i64))) (.int .i64))))) steps)],[]=>.opt _ (Zxb list_ steps) (fun r=>.ret (.c (.bool r)) [])
  |_,_=>.fail
def ZG3:Cfg:={ y:=tys,n:=12,h:=0,tab:=[(109,Zin)] }
theorem ZHj:Zn Tryz.prog 146 Ztd:=by
 refine Zq (C:=ZG3) Tryz.f146 (Zk Zrt Zr) fun _ a b k he=>?_
 unfold Ztd at he;split at he;rotate_left;exact he.elim
 rename_i list_ steps
 refine Zs he fun he=>?_
 refine Zi he fun r1_ he=>?_
 exact ZJJ
def ZrG:Con:=fun
  |[.agg [.int .i64 s__0,.int .i64 s__1,.int .i64 s__2,.imm (.pair (.int .i64) (.int .i64)) s__3,.int .i64 s__4]],[]=>.opt _ (ZnY (s__0,(s__1,(s__2,(s__3,s__4))))) (fun r=>.ret (.c (.bool r)) [])
  |_,_=>.fail
def ZE2:Cfg:={ y:=tys,n:=43,h:=0,tab:=[] }
theorem ZFp:Zn Tryz.prog 150 ZrG:=by
 refine Zq (C:=ZE2) Tryz.f150 Zr fun _ a b k he=>?_
 unfold ZrG at he;split at he;rotate_left;exact he.elim
 rename_i s__0 s__1 s__2 s__3 s__4
 refine Zs he fun he=>?_
 refine Zg he (fun he=>?_) fun he=>?_
 ·refine Zg he (fun he=>?_) fun he=>?_
  ·exact ZM
  ·refine Zg he (fun he=>?_) fun he=>?_
   ·exact ZM
   ·refine Zg he (fun he=>?_) fun he=>?_
    ·exact ZM
    ·refine Zg he (fun he=>?_) fun he=>?_
     ·exact ZM
     ·refine Zg he (fun he=>?_) fun he=>?_
      ·exact ZBp
      ·refine Zg he (fun he=>?_) fun he=>?_
       ·exact ZBp
       ·refine Zg he (fun he=>?_) fun he=>?_
        ·exact ZBp
        ·exact ZEI
 ·refine Zg he (fun he=>?_) fun he=>?_
  ·exact ZM
  ·refine Zg he (fun he=>?_) fun he=>?_
   ·exact ZM
   ·refine Zg he (fun he=>?_) fun he=>?_
    ·exact ZM
    ·refine Zg he (fun he=>?_) fun he=>?_
     ·exact ZM
     ·refine Zg he (fun he=>?_) fun he=>?_
      ·exact ZM
      ·refine Zg he (fun he=>?_) fun he=>?_
       ·exact ZM
       ·refine Zg he (fun he=>?_) fun he=>?_
        ·exact ZM
        ·exact ZEI
def Zpm:Con:=fun
  |[.agg [.imm (.pair (.sl (.pair (.int .i64) (.int .i64))) (.int .i64)) d_0,.imm .bool d_1],.c (.int .i64 k_)],[]=>.opt _ (ZjT (d_0,d_1) k_) (fun r=>.ret (.c (.bool r)) [])
  |_,_=>.fail
def ZG5:Cfg:={ y:=tys,n:=22,h:=0,tab:=[] }
theorem Zzm:Zn Tryz.prog 151 Zpm:=by
 refine Zq (C:=ZG5) Tryz.f151 Zr fun _ a b k he=>?_
 unfold Zpm at he;split at he;rotate_left;exact he.elim
 rename_i d_0 d_1 k_
 refine Zs he fun he=>?_
 refine Zg he (fun he=>?_) fun he=>?_
 ·exact ZLr
 ·exact Z3
def ZmA:Con:=fun
  |[.c (.int .i64 lit)],[]=>.opt _ (Zkd lit) (fun r=>.ret (.tup [.agg [.own 901 false,.int .i64 r.2.1],.c (.bool r.1)]) [(900,.rc [.own 901 false,.int .i64 r.2.1]),(901,.sl 155 y6_ r.2.2 .shallow)])
  |_,_=>.fail
def ZzC:Cfg:={ y:=tys,n:=12,h:=0,tab:=[(228,Znv)] }
theorem ZzS:Zn Tryz.prog 208 ZmA:=by
 refine Zq (C:=ZzC) Tryz.f208 (Zk Zvb Zr) fun _ a b k he=>?_
 unfold ZmA at he;split at he;rotate_left;exact he.elim
 rename_i lit
 refine Zs he fun he=>?_
 refine Zi he fun r1_ he=>?_
 refine Zg he (fun he=>?_) fun he=>?_
 ·exact Zro
 ·exact Zv [(2,[900]),(3,[])] (Zj he :) (Za [(900,2),(901,10)])
def Zte:Con:=fun
  |[.agg [.imm (.pair (.sl (.pair (.int .i64) (.int .i64))) (.int .i64)) d_0,.imm .bool d_1]],[]=>.opt _ (Zr7 (d_0,d_1)) (fun r=>.ret (.c (.own 900 false)) [(900,.sl 89 y7_ r .shallow)])
  |_,_=>.fail
def ZG4:Cfg:={ y:=tys,n:=28,h:=0,tab:=[] }
theorem ZHk:Zn Tryz.prog 210 Zte:=by
 refine Zq (C:=ZG4) Tryz.f210 Zr fun _ a b k he=>?_
 unfold Zte at he;split at he;rotate_left;exact he.elim
 rename_i d_0 d_1
 refine Zs he fun he=>?_
 refine Zt (Zom (d_0,d_1)) (fun (i,out)=>(Zm [(1,.c (.ptr 10000000 0)),(3,.c (.own 10000001 false)),(4,.c (.int .i64 i))],[(10000000,.rc [.imm y7_ (d_0,d_1).1,.imm .bool (d_0,d_1).2]),(10000001,.sl 89 y7_ out .shallow)])) he (Za [(10000000,1),(10000001,5)]) ?_
 rintro⟨i,out⟩ _ he
 refine Zg he (fun he=>?_) fun he=>?_
 ·refine Zh he fun he=>?_
  refine Zg he (fun he=>?_) fun he=>?_
  ·refine Zh he fun he=>?_
   exact ZPo
  ·exact ZdC
 ·exact Zv [(2,[])] (Zj he :) (Za [(900,10000001)])
def Zn3:Con:=fun
  |[.agg [.imm (.pair (.int .i64) (.int .i64)) c__0,.int .i64 c__1]],[]=>.opt _ (ZnV (c__0,c__1)) (fun r=>.ret (.c (.int .i64 r)) [])
  |_,_=>.fail
def ZEY:Cfg:={ y:=tys,n:=21,h:=0,tab:=[] }
theorem ZxB:Zn Tryz.prog 216 Zn3:=by
 refine Zq (C:=ZEY) Tryz.f216 Zr fun _ a b k he=>?_
 unfold Zn3 at he;split at he;rotate_left;exact he.elim
 rename_i c__0 c__1
 refine Zs he fun he=>?_
 refine Zt (Zm2 (c__0,c__1)) (fun (n,i)=>(Zm [(1,.c (.ptr 10000000 0)),(3,.c (.int .i64 n)),(4,.c (.int .i64 i))],[(10000000,.rc [.imm y6_ (c__0,c__1).1,.int .i64 (c__0,c__1).2])])) he (Za [(10000000,1)]) ?_
 rintro⟨n,i⟩ _ he
 refine Zg he (fun he=>?_) fun he=>?_
 ·exact Zvu
 ·exact ZM
def ZiY:Con:=fun
  |[.agg [.imm (.pair (.int .i64) (.int .i64)) c__0,.int .i64 c__1]],[]=>.opt _ (ZgI (c__0,c__1)) (fun r=>.ret (.tup [.agg [.own 901 false,.int .i64 r.2.1],.c (.bool r.1)]) [(900,.rc [.own 901 false,.int .i64 r.2.1]),(901,.sl 155 y6_ r.2.2 .shallow)])
  |_,_=>.fail
def Zl8:Sched:=.alt 8 .done .stop
def Zl9:Sched:=.alt 6 Zl8 .stop
def Zma:Sched:=.alt 17 (.first 18 (.alt 19 .done .stop)) .stop
def Zmb:Sched:=.alt 16 Zma .stop
def ZvM:Cfg:={ y:=tys,n:=48,h:=0,tab:=[(168,Zbd),(216,Zn3)],cut:=[1,4,8],sched:=[(3,(Zy [0,2,3] (.alt 1 (Zy [4,5] (.alt 6 (.alt 7 Zl8 .stop) (.alt 7 Zl9 .stop))) (.alt 7 (.alt 1 (Zy [4,5] Zl9) .stop) .stop)))),(7,(Zy [0,2,3,4,5,6,7,8,9,10,11,12,13,14] (.alt 1 (.alt 15 Zmb .stop) (.alt 15 (.alt 1 Zmb (.alt 16 (.alt 1 Zma .stop) .stop)) .stop))))] }
theorem ZLH {P:Prop} (h:P:=by
  exact Zv [(2,[900]),(3,[])] (Zj he :) (Za [(900,10003000),(901,10003002)])):P:=h
theorem ZF5 {P:Prop} (h:P:=by
  refine Y4 ?_
  refine Y4 ?_
  refine And.intro hq1 ?_
  refine Y4 ?_
  refine Zh he fun he=>?_
  exact⟨_,(Zj he :),(Za [(10002002,41)])⟩):P:=h
theorem ZF6 {P:Prop} (h:P:=by
  refine Y4 ?_
  refine Y4 ?_
  exact⟨_,he,(Za [(10001000,10000000),(10001001,4)])⟩):P:=h
theorem ZvY:Zn Tryz.prog 252 ZiY:=by
 refine Zq (C:=ZvM) Tryz.f252 (Zk ZbD (Zk ZxB Zr)) fun _ a b k he=>?_
 unfold ZiY at he;split at he;rotate_left;exact he.elim
 rename_i c__0 c__1
 refine Zs he fun he=>?_
 refine ZK (Zh9 (c__0,c__1)) (fun _=>(Zm [(1,.c (.iptr y7_ (c__0,c__1) 0)),(2,.c (.ptr 10000000 0))],[(10000000,.rc [.nil,.int .i64 (0:Int)])])) he ?_ ?_
 ·rintro⟨⟩ he
  refine Zi he fun r1_ he=>?_
  refine Zg he (fun he=>?_) fun he=>?_
  ·exact ZBq
  ·refine ZK (Zia (c__0,c__1)) (fun out_1=>(Zm [(1,.c (.iptr y7_ (c__0,c__1) 0)),(2,.c (.ptr 10001000 0)),(4,.c (.ptr 10001001 0))],[(10001000,.rc [.nil,.int .i64 (0:Int)]),(10001001,.rc [.nil,.int .i64 out_1])])) he ?_ ?_
   ·rintro out_1 he
    refine ZK (Zib out_1) (fun out_01=>(Zm [(2,.c (.ptr 10003000 0)),(4,.c (.ptr 10003001 0))],[(10003000,.rc [.nil,.int .i64 (0:Int)]),(10003001,.rc [.own 10003002 false,.int .i64 out_1]),(10003002,.sl 155 y6_ out_01 .shallow)])) he ?_ ?_
    ·rintro out_01 he
     refine Zg he (fun he=>?_) fun he=>?_
     ·exact ZLH
     ·exact ZLH
    ·skip
     refine Zt (Zec (c__0,c__1) out_1) (fun (i,out_0)=>(Zm [(1,.c (.iptr y7_ (c__0,c__1) 0)),(2,.c (.ptr 10002000 0)),(4,.c (.ptr 10002001 0)),(5,.c (.int .i64 i))],[(10002000,.rc [.nil,.int .i64 (0:Int)]),(10002001,.rc [.own 10002002 false,.int .i64 out_1]),(10002002,.sl 155 y6_ out_0 .shallow)])) he (Za [(10002000,10001000),(10002001,10001001)]) ?_
     rintro⟨i,out_0⟩ _ he
     refine Zg he (fun he=>?_) fun he=>?_
     ·refine And.intro (by kernel_rfl) ?_
      refine Zh he fun he=>?_
      refine Zh he fun he=>?_
      refine Zh he fun he=>?_
      obtain⟨hq1,he⟩:=ZD he
      refine Y5 ?_ ?_
      ·skip
       refine Y4 ?_
       exact ZF5
      ·skip
       refine Y5 ?_ ?_
       ·skip
        exact ZF5
       ·skip
        exact ZF5
     ·exact⟨_,(Zbn he :),(Za [(10003000,10002000),(10003001,10002001),(10003002,10002002)])⟩
   ·skip
    refine And.intro (by kernel_rfl) ?_
    obtain⟨r3_,hq1,he⟩:=ZS he
    obtain⟨hq2,he⟩:=ZD he
    obtain⟨hq3,he⟩:=ZD he
    refine Y5 ?_ ?_
    ·skip
     refine⟨r3_,hq1,?_⟩
     refine And.intro hq2 ?_
     refine And.intro hq3 ?_
     refine Y5 ?_ ?_
     ·skip
      exact ZF6
     ·skip
      exact ZF6
    ·skip
     refine Y4 ?_
     refine⟨r3_,hq1,?_⟩
     refine And.intro hq2 ?_
     refine And.intro hq3 ?_
     exact ZF6
 ·skip
  exact⟨_,he,(ZcA [(10000000,2)] rfl rfl ⟨⟨rfl,rfl,Y1⟩,Y1⟩ ⟨.inr ⟨1,rfl,⟨rfl,by repeat (first|exact trivial|refine And.intro trivial ?_)⟩,rfl⟩,⟨Y2,rfl⟩,Y1⟩)⟩
def Zu0:Con:=fun
  |[.c (.imm (.pair (.sl (.pair (.int .i64) (.int .i64))) (.int .i64)) list_),.agg [.imm (.pair (.int .i64) (.int .i64)) c__0,.int .i64 c__1]],[]=>.opt _ (Zuj list_ (c__0,c__1)) (fun r=>.ret (.c (.bool r)) [])
  |_,_=>.fail
def Zwa:Sched:=.alt 5 (.first 6 .done) .stop
def Zwb:Sched:=.alt 4 Zwa .stop
def Zwc:Sched:=.alt 2 Zwa .stop
def Zwd:Sched:=.alt 2 Zwb (.alt 4 Zwc .stop)
def ZHV:Cfg:={ y:=tys,n:=23,h:=0,tab:=[(195,Zgf),(252,ZiY)],cut:=[3],hand:=[(195,[1])],sched:=[(2,(.first 1 (.alt 0 (.alt 2 (.alt 3 Zwb .stop) (.alt 3 Zwd .stop)) (.alt 3 (.alt 0 Zwd (.alt 4 (.alt 0 Zwc .stop) .stop)) .stop))))] }
theorem ZBT {P:Prop} (h:P:=by
  refine Y4 ?_
  refine And.intro hq2 ?_
  exact⟨_,he,(Za [(10000000,18)])⟩):P:=h
theorem ZLI {P:Prop} (h:P:=by
  skip
  refine Y5 ?_ ?_
  ·skip
   refine And.intro hq1 ?_
   refine Y4 ?_
   exact ZBT
  ·skip
   refine Y4 ?_
   refine And.intro hq1 ?_
   exact ZBT):P:=h
theorem ZIO:Zn Tryz.prog 209 Zu0:=by
 refine Zq (C:=ZHV) Tryz.f209 (Zk ZnL (Zk ZvY Zr)) fun _ a b k he=>?_
 unfold Zu0 at he;split at he;rotate_left;exact he.elim
 rename_i list_ c__0 c__1
 refine Zs he fun he=>?_
 refine Zi he fun r1_ he=>?_
 refine ZK (Ztz list_ r1_) (fun _=>(Zm [(7,.c (.own 10000000 false))],[(10000000,.sl 89 y7_ ((([]:List D7_)++list_)++[(r1_.2.2,r1_.2.1)]) .shallow)])) he ?_ ?_
 ·rintro⟨⟩ he
  refine Zh he fun he=>?_
  exact Zx5
 ·skip
  refine And.intro (by kernel_rfl) ?_
  obtain⟨hq1,he⟩:=ZD he
  obtain⟨hq2,he⟩:=ZD he
  refine Y5 ?_ ?_
  ·skip
   refine Y5 ?_ ?_
   ·skip
    refine And.intro hq1 ?_
    refine Y4 ?_
    refine Y4 ?_
    exact ZBT
   ·exact ZLI
  ·skip
   refine Y5 ?_ ?_
   ·exact ZLI
   ·skip
    refine Y4 ?_
    refine Y4 ?_
    refine And.intro hq1 ?_
    exact ZBT
def ZuZ:Con:=fun
  |[.c (.imm (.pair (.int .i64) (.int .i64)) terms),.c (.int .i64 bound_)],[]=>.opt _ (Zui terms bound_) (fun r=>.ret (.tup [.c (.own 900 false),.c (.int .i64 r.1)]) [(900,.sl 3 y0_ r.2 .shallow)])
  |_,_=>.fail
def Zv2:Sched:=.first 11 (.alt 12 .done .stop)
def Zv3:Sched:=.first 10 Zv2
def Zv4:Sched:=.alt 9 Zv3 .stop
def Zqw:Sched:=.alt 7 Zv3 .stop
def Zv5:Sched:=.alt 7 Zv4 (.alt 9 Zqw .stop)
def Zv6:Sched:=.alt 5 (.first 6 Zqw) .stop
def Zv7:Sched:=.first 10 (.alt 2 Zv2 .stop)
def Zv8:Sched:=.alt 2 Zqw (.alt 7 Zv7 .stop)
def Zv9:Sched:=.first 13 (.alt 14 .done .stop)
def ZuF:Sched:=.first 12 Zv9
def ZuG:Sched:=.alt 11 ZuF .stop
def ZpG:Sched:=.alt 9 ZuF .stop
def ZuH:Sched:=.alt 9 ZuG (.alt 11 ZpG .stop)
def ZuI:Sched:=.alt 6 (Zy [7,8] ZpG) .stop
def ZuJ:Sched:=.first 12 (.alt 2 (.first 3 Zv9) .stop)
def ZuK:Sched:=.alt 2 (.first 3 ZpG) (.alt 9 ZuJ .stop)
def ZHU:Cfg:={ y:=tys,n:=55,h:=0,tab:=[],cut:=[9,10],sched:=[(7,(Zy [0,1,3,4,8] (.alt 2 (.alt 5 (.first 6 Zv5) (.alt 9 Zv6 .stop)) (.alt 5 (.first 6 (.alt 2 Zv5 (.alt 7 (.alt 2 Zv4 (.alt 9 Zv7 .stop)) (.alt 9 Zv8 .stop)))) (.alt 9 (.alt 2 Zv6 (.alt 5 (.first 6 Zv8) .stop)) .stop))))),(8,(Zy [0,1,4,5,10] (.alt 2 (.first 3 (.alt 6 (Zy [7,8] ZuH) (.alt 11 ZuI .stop))) (.alt 6 (Zy [7,8] (.alt 2 (.first 3 ZuH) (.alt 9 (.alt 2 (.first 3 ZuG) (.alt 11 ZuJ .stop)) (.alt 11 ZuK .stop)))) (.alt 11 (.alt 2 (.first 3 ZuI) (.alt 6 (Zy [7,8] ZuK) .stop)) .stop)))))] }
theorem ZF7 {P:Prop} (h:P:=by
  refine Y5 ?_ ?_
  ·skip
   exact ZBM
  ·skip
   refine And.intro hq2 ?_
   refine Y4 ?_
   refine And.intro hq1 ?_
   exact Zk0):P:=h
theorem ZLJ {P:Prop} (h:P:=by
  refine And.intro hq3 ?_
  refine Y4 ?_
  exact⟨_,he,(Za [(10002000,10000000),(10002001,8)])⟩):P:=h
theorem ZBU {P:Prop} (h:P:=by
  refine Y4 ?_
  refine And.intro hq4 ?_
  exact ZLJ):P:=h
theorem ZLK {P:Prop} (h:P:=by
  refine Y5 ?_ ?_
  ·skip
   exact ZBU
  ·skip
   exact ZBU):P:=h
theorem ZLL {P:Prop} (h:P:=by
  refine Y4 ?_
  refine And.intro hq1 ?_
  refine And.intro hq3 ?_
  exact ZBU):P:=h
theorem ZF8 {P:Prop} (h:P:=by
  refine Y5 ?_ ?_
  ·skip
   refine And.intro hq1 ?_
   exact ZBU
  ·skip
   refine And.intro hq4 ?_
   refine Y4 ?_
   refine And.intro hq1 ?_
   exact ZLJ):P:=h
theorem ZIN:Zn Tryz.prog 253 ZuZ:=by
 refine Zq (C:=ZHU) Tryz.f253 Zr fun _ a b k he=>?_
 unfold ZuZ at he;split at he;rotate_left;exact he.elim
 rename_i terms bound_
 refine Zs he fun he=>?_
 refine Zh he fun he=>?_
 refine ZK (Ztx) (fun (bound_2,net2)=>(Zm [(1,.c (.int .i64 bound_2)),(6,.c (.own 10003000 false))],[(10003000,.sl 3 y0_ net2 .shallow)])) he ?_ ?_
 ·rintro⟨bound_2,net2⟩ he
  exact Zv [(4,[]),(5,[])] (Zj he :) (Za [(900,10003000)])
 ·skip
  refine Zt (Zpu terms) (fun (bound_1,i,net1)=>(Zm [(0,.c (.imm y6_ terms)),(1,.c (.int .i64 bound_1)),(6,.c (.own 10000000 false)),(7,.c (.int .i64 i))],[(10000000,.sl 3 y0_ net1 .shallow)])) he (Za [(10000000,9)]) ?_
  rintro⟨bound_1,i,net1⟩ _ he
  refine Zg he (fun he=>?_) fun he=>?_
  ·refine Zh he fun he=>?_
   refine Zg he (fun he=>?_) fun he=>?_
   ·refine And.intro (by kernel_rfl) ?_
    obtain⟨hq1,he⟩:=ZD he
    obtain⟨hq2,he⟩:=ZD he
    obtain⟨hq3,he⟩:=ZD he
    refine And.intro ?_ (And.intro ?_ (And.intro ?_ (Y1)))
    ·skip
     exact ZLl
    ·skip
     refine And.intro hq1 ?_
     refine And.intro ?_ (And.intro ?_ (And.intro ?_ (Y1)))
     ·skip
      exact ZLj
     ·skip
      exact ZF7
     ·skip
      exact ZF7
    ·skip
     refine Y5 ?_ ?_
     ·exact ZLk
     ·skip
      refine And.intro hq1 ?_
      exact ZF7
   ·refine ZK (Zty terms bound_1 i net1) (fun _=>(Zm [(0,.c (.imm y6_ terms)),(1,.c (.int .i64 bound_1)),(6,.c (.own 10002000 false)),(7,.c (.int .i64 i)),(8,.c (.ptr 10002001 0))],[(10002000,.sl 3 y0_ (net1.set (0 - (terms.getD i.toNat (0,0)).2).toNat ((net1.getD (0 - (terms.getD i.toNat (0,0)).2).toNat 0) - (terms.getD i.toNat (0,0)).1)) .shallow),(10002001,.rc [.int .i64 (terms.getD i.toNat (0,0)).1,.int .i64 (terms.getD i.toNat (0,0)).2])])) he ?_ ?_
    ·rintro⟨⟩ he
     refine Zh he fun he=>?_
     exact ZJO
    ·skip
     refine And.intro (by kernel_rfl) ?_
     obtain⟨hq1,he⟩:=ZD he
     obtain⟨hq2,he⟩:=ZD he
     obtain⟨hq3,he⟩:=ZD he
     obtain⟨hq4,he⟩:=ZD he
     obtain⟨hq5,he⟩:=ZD he
     refine And.intro ?_ (And.intro ?_ (And.intro ?_ (Y1)))
     ·skip
      refine And.intro hq1 ?_
      refine Y5 ?_ ?_
      ·skip
       refine And.intro hq1 ?_
       refine And.intro hq3 ?_
       exact ZLK
      ·skip
       exact ZLL
     ·skip
      refine And.intro hq1 ?_
      refine And.intro hq3 ?_
      refine And.intro ?_ (And.intro ?_ (And.intro ?_ (Y1)))
      ·skip
       refine And.intro hq1 ?_
       exact ZLK
      ·skip
       exact ZF8
      ·skip
       exact ZF8
     ·skip
      refine Y5 ?_ ?_
      ·skip
       refine And.intro hq1 ?_
       exact ZLL
      ·skip
       refine And.intro hq1 ?_
       refine And.intro hq3 ?_
       exact ZF8
  ·exact⟨_,(Zbn he :),(Za [(10003000,10000000)])⟩
def ZkC:Con:=fun
  |[.agg [.imm (.pair (.int .i64) (.int .i64)) a_0,.int .i64 a_1],.agg [.imm (.pair (.int .i64) (.int .i64)) b_0,.int .i64 b_1]],[]=>.opt _ (Ziw (a_0,a_1) (b_0,b_1)) (fun r=>.ret (.tup [.agg [.own 901 false,.int .i64 r.2.1],.c (.bool r.1)]) [(900,.rc [.own 901 false,.int .i64 r.2.1]),(901,.sl 155 y6_ r.2.2 .shallow)])
  |_,_=>.fail
def Zxl:Cfg:={ y:=tys,n:=38,h:=0,tab:=[(134,Zji),(168,Zbd),(253,ZuZ)],cut:=[1],sched:=[(3,(Zy [1,2,4,5,7,8,9,10,11] (.alt 0 (.alt 3 (.alt 6 (.alt 12 (Zy [13,14,15,16,17] .done) .stop) .stop) .stop) .stop)))] }
theorem ZxA:Zn Tryz.prog 211 ZkC:=by
 refine Zq (C:=Zxl) Tryz.f211 (Zk Zq4 (Zk ZbD (Zk ZIN Zr))) fun _ a b k he=>?_
 unfold ZkC at he;split at he;rotate_left;exact he.elim
 rename_i a_0 a_1 b_0 b_1
 refine Zs he fun he=>?_
 refine ZK (ZjS (a_0,a_1) (b_0,b_1)) (fun _=>(Zm [(2,.c (.iptr y7_ (a_0,a_1) 0)),(3,.c (.iptr y7_ (b_0,b_1) 0)),(4,.c (.ptr 10000000 0))],[(10000000,.rc [.nil,.int .i64 (0:Int)])])) he ?_ ?_
 ·rintro⟨⟩ he
  refine Zi he fun r1_ he=>?_
  refine ZC he (fun he=>?_) fun he=>?_
  ·refine Zi he fun r2_ he=>?_
   refine Zg he (fun he=>?_) fun he=>?_
   ·exact ZrX
   ·refine And.intro (by kernel_rfl) ?_
    refine Zh he fun he=>?_
    refine Y4 ?_
    refine Y4 ?_
    refine Zh he fun he=>?_
    refine Y4 ?_
    refine Zh he fun he=>?_
    refine Y4 ?_
    refine Zi he fun r4_ he=>?_
    refine Zi he fun r5_ he=>?_
    exact Zv [(4,[900]),(5,[])] (Zj he :) (Za [(900,10000000),(901,36901)])
  ·exact ZrX
 ·skip
  exact⟨_,he,(ZcA [(10000000,4)] rfl rfl ⟨⟨rfl,rfl,Y1⟩,Y1⟩ ⟨.inr ⟨2,rfl,⟨rfl,by repeat (first|exact trivial|refine And.intro trivial ?_)⟩,rfl⟩,.inr ⟨3,rfl,⟨rfl,by repeat (first|exact trivial|refine And.intro trivial ?_)⟩,rfl⟩,⟨Y2,rfl⟩,Y1⟩)⟩
def Zhg:Con:=fun
  |[.agg [.imm (.pair (.int .i64) (.int .i64)) c__0,.int .i64 c__1],.c (.int .i64 k_)],[]=>.opt _ (ZfE (c__0,c__1) k_) (fun r=>.ret (.tup [.agg [.own 901 false,.int .i64 r.2.1],.c (.bool r.1)]) [(900,.rc [.own 901 false,.int .i64 r.2.1]),(901,.sl 155 y6_ r.2.2 .shallow)])
  |_,_=>.fail
def Zkp:Sched:=.alt 18 (.first 19 (.alt 20 .done .stop)) .stop
def Zkq:Sched:=.alt 17 Zkp .stop
def ZfU:Sched:=.alt 16 Zkq .stop
def Zkr:Sched:=.alt 11 (Zy [13,14,15] ZfU) .stop
def Zks:Sched:=.alt 3 (Zy [5,6,7,9] ZfU) .stop
def Zkt:Sched:=.alt 1 ZfU (.alt 16 (.alt 1 Zkq (.alt 17 (.alt 1 Zkp .stop) .stop)) .stop)
def ZtY:Cfg:={ y:=tys,n:=57,h:=0,tab:=[(168,Zbd)],cut:=[8],sched:=[(7,(Zy [0,2,4,8,10,12] (.alt 1 (.alt 3 (Zy [5,6,7,9] Zkr) (.alt 11 (Zy [13,14,15] Zks) .stop)) (.alt 3 (Zy [5,6,7,9] (.alt 1 Zkr (.alt 11 (Zy [13,14,15] Zkt) .stop))) (.alt 11 (Zy [13,14,15] (.alt 1 Zks (.alt 3 (Zy [5,6,7,9] Zkt) .stop))) .stop)))))] }
theorem ZBV {P:Prop} (h:P:=by
  exact Zv [(4,[900]),(5,[])] (Zj he :) (Za [(900,10001000),(901,10001002)])):P:=h
theorem ZF9 {P:Prop} (h:P:=by
  refine Y4 ?_
  refine Y4 ?_
  refine And.intro hq4 ?_
  refine Y4 ?_
  refine Zh he fun he=>?_
  exact⟨_,(Zj he :),(Za [(10000003,50)])⟩):P:=h
theorem ZBW {P:Prop} (h:P:=by
  refine Y4 ?_
  exact ZF9):P:=h
theorem ZLM {P:Prop} (h:P:=by
  refine Y4 ?_
  refine And.intro hq1 ?_
  refine And.intro hq2 ?_
  exact ZBW):P:=h
theorem ZLN {P:Prop} (h:P:=by
  refine Y5 ?_ ?_
  ·skip
   exact ZBW
  ·skip
   refine Y5 ?_ ?_
   ·skip
    exact ZF9
   ·skip
    exact ZF9):P:=h
theorem Zub:Zn Tryz.prog 212 Zhg:=by
 refine Zq (C:=ZtY) Tryz.f212 (Zk ZbD Zr) fun _ a b k he=>?_
 unfold Zhg at he;split at he;rotate_left;exact he.elim
 rename_i c__0 c__1 k_
 refine Zs he fun he=>?_
 refine Zi he fun r1_ he=>?_
 refine ZC he (fun he=>?_) fun he=>?_
 ·refine ZC he (fun he=>?_) fun he=>?_
  ·refine Zg he (fun he=>?_) fun he=>?_
   ·exact Zja
   ·refine Zh he fun he=>?_
    refine ZK (ZgT (c__0,c__1) k_) (fun out_01=>(Zm [(4,.c (.ptr 10001000 0)),(6,.c (.ptr 10001001 0))],[(10001000,.rc [.nil,.int .i64 (0:Int)]),(10001001,.rc [.own 10001002 false,.int .i64 ((c__0,c__1).2*k_)]),(10001002,.sl 155 y6_ out_01 .shallow)])) he ?_ ?_
    ·rintro out_01 he
     refine Zi he fun r2_ he=>?_
     refine Zg he (fun he=>?_) fun he=>?_
     ·exact ZFW
     ·exact ZBV
    ·skip
     refine Zt (ZdK (c__0,c__1) k_) (fun (i,out_0)=>(Zm [(1,.c (.int .i64 k_)),(2,.c (.ptr 10000000 0)),(4,.c (.ptr 10000001 0)),(6,.c (.ptr 10000002 0)),(7,.c (.int .i64 i))],[(10000000,.rc [.imm y6_ (c__0,c__1).1,.int .i64 (c__0,c__1).2]),(10000001,.rc [.nil,.int .i64 (0:Int)]),(10000002,.rc [.own 10000003 false,.int .i64 ((c__0,c__1).2*k_)]),(10000003,.sl 155 y6_ out_0 .shallow)])) he (Za [(10000000,2),(10000001,4),(10000002,6)]) ?_
     rintro⟨i,out_0⟩ _ he
     refine Zg he (fun he=>?_) fun he=>?_
     ·refine And.intro (by kernel_rfl) ?_
      obtain⟨hq1,he⟩:=ZD he
      obtain⟨hq2,he⟩:=ZD he
      obtain⟨hq3,he⟩:=ZD he
      obtain⟨hq4,he⟩:=ZD he
      refine And.intro ?_ (And.intro ?_ (And.intro ?_ (Y1)))
      ·skip
       refine Y5 ?_ ?_
       ·skip
        refine And.intro hq1 ?_
        refine And.intro hq2 ?_
        refine Y4 ?_
        refine And.intro hq1 ?_
        exact ZBW
       ·skip
        refine And.intro hq1 ?_
        exact ZLM
      ·skip
       refine And.intro hq1 ?_
       refine And.intro hq2 ?_
       refine Y5 ?_ ?_
       ·skip
        refine Y4 ?_
        refine And.intro hq1 ?_
        exact ZBW
       ·skip
        refine And.intro hq1 ?_
        exact ZLN
      ·skip
       refine And.intro hq1 ?_
       refine Y5 ?_ ?_
       ·skip
        exact ZLM
       ·skip
        refine And.intro hq1 ?_
        refine And.intro hq2 ?_
        exact ZLN
     ·exact⟨_,(Zbn he :),(Za [(10001000,10000001),(10001001,10000002),(10001002,10000003)])⟩
  ·exact Zja
 ·exact Zja
def ZwW:Con:=fun
  |[.c (.int .i64 n),.c (.int .i64 k_)],[]=>.opt _ (Zs7 n k_) (fun r=>.ret (.c (.int .i64 r)) [])
  |_,_=>.fail
def ZJX:Cfg:={ y:=tys,n:=11,h:=0,tab:=[] }
theorem ZKf:Zn Tryz.prog 254 ZwW:=by
 refine Zq (C:=ZJX) Tryz.f254 Zr fun _ a b k he=>?_
 unfold ZwW at he;split at he;rotate_left;exact he.elim
 rename_i n k_
 refine Zs he fun he=>?_
 refine Zh he fun he=>?_
 exact ZEP
end
end Go.AE.Y
