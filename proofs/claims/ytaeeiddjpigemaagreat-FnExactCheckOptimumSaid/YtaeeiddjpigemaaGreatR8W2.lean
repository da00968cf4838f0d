/-
  Walks: each function keeps the contract that its model gives. No conditions.
-/
import Derived.Test.YtaeeiddjpigemaaGreatR8Tab
import Derived.Test.YtaeeiddjpigemaaGreatR8W1
import Derived.Test.YtaeeiddjpigemaaGreatR8S
namespace Go.AE.Y
open Go Go.AE Go.Proofs
set_option linter.unusedVariables false
set_option maxHeartbeats 2000000
set_option maxRecDepth 100000
noncomputable section
def ZnA:Con:=fun
  |[.agg [.int .i64 r__0,.imm (.int .i64) r__1,.imm (.int .i64) r__2,.int .i64 r__3,.imm (.sl (.int .i64)) r__4]],[]=>.opt _ (ZmG (r__0,(r__1,(r__2,(r__3,r__4))))) (fun r=>.ret (.c (.bool r)) [])
  |_,_=>.fail
def Zzu:Cfg:={ y:=tys,n:=50,h:=0,tab:=[] }
theorem ZA {P:Prop} (h:P:=by
  exact Zy [(2,[])] (Zk he :) (Za [])):P:=h
theorem Zsj {P:Prop} (h:P:=by
  refine Zf he (fun he=>?_) fun he=>?_
  ·exact ZA
  ·exact Zdh):P:=h
theorem Zsk {P:Prop} (h:P:=by
  refine Zf he (fun he=>?_) fun he=>?_
  ·exact ZA
  ·exact ZA):P:=h
theorem ZzU:Zl Tryz.prog 244 ZnA:=by
 refine Zn (C:=Zzu) Tryz.f244 Zo fun _ a b k he=>?_
 unfold ZnA at he;split at he;rotate_left;exact he.elim
 rename_i r__0 r__1 r__2 r__3 r__4
 refine Zq he fun he=>?_
 refine Zr (Zjd (r__0,(r__1,(r__2,(r__3,r__4))))) (fun i=>(Zm [(1,.c (.ptr 10000000 0)),(3,.c (.int .i64 i))],[(10000000,.rc [.int .i64 (r__0,(r__1,(r__2,(r__3,r__4)))).1,.imm y0_ (r__0,(r__1,(r__2,(r__3,r__4)))).2.1,.imm y0_ (r__0,(r__1,(r__2,(r__3,r__4)))).2.2.1,.int .i64 (r__0,(r__1,(r__2,(r__3,r__4)))).2.2.2.1,.imm (.sl y0_) (r__0,(r__1,(r__2,(r__3,r__4)))).2.2.2.2])])) he (Za [(10000000,1)]) ?_
 rintro i _ he
 refine Zf he (fun he=>?_) fun he=>?_
 ·refine Zi he fun he=>?_
  refine ZC he (fun he=>?_) fun he=>?_
  ·refine Zi he fun he=>?_
   refine ZC he (fun he=>?_) fun he=>?_
   ·refine Zi he fun he=>?_
    exact Zsj
   ·exact ZA
  ·exact ZA
 ·refine Zf he (fun he=>?_) fun he=>?_
  ·exact Zsk
  ·exact ZA
def ZoO:Con:=fun
  |[.agg [.int .i64 r__0,.imm (.int .i64) r__1,.imm (.int .i64) r__2,.int .i64 r__3,.imm (.sl (.int .i64)) r__4]],[]=>.opt _ (Zoi (r__0,(r__1,(r__2,(r__3,r__4))))) (fun r=>.ret (.c (.bool r)) [])
  |_,_=>.fail
def ZA4:Cfg:={ y:=tys,n:=56,h:=0,tab:=[] }
theorem ZBF:Zl Tryz.prog 245 ZoO:=by
 refine Zn (C:=ZA4) Tryz.f245 Zo fun _ a b k he=>?_
 unfold ZoO at he;split at he;rotate_left;exact he.elim
 rename_i r__0 r__1 r__2 r__3 r__4
 refine Zq he fun he=>?_
 refine Zr (ZkD (r__0,(r__1,(r__2,(r__3,r__4))))) (fun i=>(Zm [(1,.c (.ptr 10000000 0)),(3,.c (.int .i64 i))],[(10000000,.rc [.int .i64 (r__0,(r__1,(r__2,(r__3,r__4)))).1,.imm y0_ (r__0,(r__1,(r__2,(r__3,r__4)))).2.1,.imm y0_ (r__0,(r__1,(r__2,(r__3,r__4)))).2.2.1,.int .i64 (r__0,(r__1,(r__2,(r__3,r__4)))).2.2.2.1,.imm (.sl y0_) (r__0,(r__1,(r__2,(r__3,r__4)))).2.2.2.2])])) he (Za [(10000000,1)]) ?_
 rintro i _ he
 refine Zf he (fun he=>?_) fun he=>?_
 ·refine And.intro (by kernel_rfl) ?_
  refine Zi he fun he=>?_
  refine Zf he (fun he=>?_) fun he=>?_
  ·exact ZA
  ·refine Zr (Zhr (r__0,(r__1,(r__2,(r__3,r__4)))) i) (fun k_=>(Zm [(1,.c (.ptr 10001000 0)),(3,.c (.int .i64 i)),(4,.c (.int .i64 k_))],[(10001000,.rc [.int .i64 (r__0,(r__1,(r__2,(r__3,r__4)))).1,.imm y0_ (r__0,(r__1,(r__2,(r__3,r__4)))).2.1,.imm y0_ (r__0,(r__1,(r__2,(r__3,r__4)))).2.2.1,.int .i64 (r__0,(r__1,(r__2,(r__3,r__4)))).2.2.2.1,.imm (.sl y0_) (r__0,(r__1,(r__2,(r__3,r__4)))).2.2.2.2])])) he (Za [(10001000,10000000)]) ?_
   rintro k_ _ he
   refine Zi he fun he=>?_
   refine Zf he (fun he=>?_) fun he=>?_
   ·refine Zi he fun he=>?_
    refine Zi he fun he=>?_
    refine ZC he (fun he=>?_) fun he=>?_
    ·refine Zi he fun he=>?_
     refine Zi he fun he=>?_
     exact Zsj
    ·exact ZA
   ·refine Zi he fun he=>?_
    exact⟨_,(Zk he :),(Za [(10000000,10001000)])⟩
 ·exact ZA
def Zqj:Con:=fun
  |[.agg [.imm (.int .i64) m_0,.imm (.pair (.int .i64) (.pair (.sl (.int .i64)) (.pair (.sl (.int .i64)) (.pair (.int .i64) (.sl (.sl (.int .i64))))))) m_1],.agg [.int .i64 r__0,.imm (.int .i64) r__1,.imm (.int .i64) r__2,.int .i64 r__3,.imm (.sl (.int .i64)) r__4]],[]=>.opt _ (Zpi (m_0,m_1) (r__0,(r__1,(r__2,(r__3,r__4))))) (fun r=>.ret (.c (.bool r)) [])
  |_,_=>.fail
def ZC9:Cfg:={ y:=tys,n:=55,h:=0,tab:=[(243,Zqk),(244,ZnA),(245,ZoO)],cut:=[3] }
theorem Zuz {P:Prop} (h:P:=by
  refine Zh he fun r2_ he=>?_
  exact ZK):P:=h
theorem ZJt {P:Prop} (h:P:=by
  refine Zf he (fun he=>?_) fun he=>?_
  ·refine Zf he (fun he=>?_) fun he=>?_
   ·exact ZK
   ·exact⟨_,he,(Za [(10000000,3)])⟩
  ·exact⟨_,he,(Za [(10000000,3)])⟩):P:=h
theorem ZDv:Zl Tryz.prog 188 Zqj:=by
 refine Zn (C:=ZC9) Tryz.f188 (Zj ZDw (Zj ZzU (Zj ZBF Zo))) fun _ a b k he=>?_
 unfold Zqj at he;split at he;rotate_left;exact he.elim
 rename_i m_0 m_1 r__0 r__1 r__2 r__3 r__4
 refine Zq he fun he=>?_
 refine ZT (Zet (r__0,(r__1,(r__2,(r__3,r__4))))) (fun _=>(Zm [(3,.c (.ptr 10000000 0))],[(10000000,.rc [.int .i64 (r__0,(r__1,(r__2,(r__3,r__4)))).1,.imm y0_ (r__0,(r__1,(r__2,(r__3,r__4)))).2.1,.imm y0_ (r__0,(r__1,(r__2,(r__3,r__4)))).2.2.1,.int .i64 (r__0,(r__1,(r__2,(r__3,r__4)))).2.2.2.1,.imm (.sl y0_) (r__0,(r__1,(r__2,(r__3,r__4)))).2.2.2.2])])) he ?_ ?_
 ·rintro⟨⟩ he
  refine Zf he (fun he=>?_) fun he=>?_
  ·exact Zuz
  ·refine Zf he (fun he=>?_) fun he=>?_
   ·exact ZK
   ·refine Zf he (fun he=>?_) fun he=>?_
    ·refine Zh he fun r3_ he=>?_
     exact ZK
    ·exact Zpn
 ·skip
  refine Zh he fun r1_ he=>?_
  refine ZC he (fun he=>?_) fun he=>?_
  ·refine Zf he (fun he=>?_) fun he=>?_
   ·refine ZC he (fun he=>?_) fun he=>?_
    ·refine ZC he (fun he=>?_) fun he=>?_
     ·exact ZJt
     ·exact ZK
    ·exact ZK
   ·exact ZJt
  ·exact ZK
def Zfn:Con:=fun
  |[.agg [.imm (.int .i64) a0_0,.imm (.pair (.int .i64) (.pair (.sl (.int .i64)) (.pair (.sl (.int .i64)) (.pair (.int .i64) (.sl (.sl (.int .i64))))))) a0_1]],[]=>.opt _ (Ze8 (a0_0,a0_1)) (fun r=>.ret (.c (.bool r)) [])
  |_,_=>.fail
def Zno:Sched:=.alt 6 (.first 7 .done) .stop
def Zyf:Cfg:={ y:=tys,n:=74,h:=0,tab:=[(188,Zqj)],cut:=[8],sched:=[(13,(Zv [1,3] (.alt 0 (.alt 2 (Zv [4,5] Zno) .stop) (.alt 2 (Zv [4,5] (.alt 0 Zno .stop)) .stop))))] }
theorem ZuA {P:Prop} (h:P:=by
  refine Zi he fun he=>?_
  exact Zp0):P:=h
theorem Zl2:Zl Tryz.prog 130 Zfn:=by
 refine Zn (C:=Zyf) Tryz.f130 (Zj ZDv Zo) fun _ a b k he=>?_
 unfold Zfn at he;split at he;rotate_left;exact he.elim
 rename_i a0_0 a0_1
 refine Zq he fun he=>?_
 refine ZT (ZeU (a0_0,a0_1)) (fun i2=>(Zm [(1,.c (.ptr 10001000 0)),(3,.c (.int .i64 i2))],[(10001000,.rc [.imm y0_ (a0_0,a0_1).1,.imm y4_ (a0_0,a0_1).2])])) he ?_ ?_
 ·rintro i2 he
  refine ZC he (fun he=>?_) fun he=>?_
  ·refine ZC he (fun he=>?_) fun he=>?_
   ·refine ZC he (fun he=>?_) fun he=>?_
    ·refine Zf he (fun he=>?_) fun he=>?_
     ·exact ZA
     ·refine Zr (Zhn (a0_0,a0_1)) (fun i3=>(Zm [(1,.c (.ptr 10002000 0)),(5,.c (.int .i64 i3))],[(10002000,.rc [.imm y0_ (a0_0,a0_1).1,.imm y4_ (a0_0,a0_1).2])])) he (Za [(10002000,10001000)]) ?_
      rintro i3 _ he
      refine Zf he (fun he=>?_) fun he=>?_
      ·refine And.intro (by kernel_rfl) ?_
       obtain⟨hq1,he⟩:=ZG he
       obtain⟨r2_,hq2,he⟩:=Z5 he
       refine Y5 ?_ ?_
       ·skip
        refine Y4 ?_
        refine And.intro hq1 ?_
        refine Y4 ?_
        refine⟨r2_,hq2,?_⟩
        exact Zsj
       ·skip
        refine And.intro hq1 ?_
        refine Y4 ?_
        refine Y4 ?_
        refine⟨r2_,hq2,?_⟩
        exact Zsj
      ·exact ZA
    ·exact ZA
   ·exact ZA
  ·exact ZA
 ·skip
  refine Zr (Zld (a0_0,a0_1)) (fun (i,i1)=>(Zm [(1,.c (.ptr 10000000 0)),(3,.c (.int .i64 i)),(4,.c (.int .i64 i1))],[(10000000,.rc [.imm y0_ (a0_0,a0_1).1,.imm y4_ (a0_0,a0_1).2])])) he (Za [(10000000,1)]) ?_
  rintro⟨i,i1⟩ _ he
  refine Zf he (fun he=>?_) fun he=>?_
  ·refine Zf he (fun he=>?_) fun he=>?_
   ·refine Zi he fun he=>?_
    refine ZC he (fun he=>?_) fun he=>?_
    ·refine Zi he fun he=>?_
     refine Zf he (fun he=>?_) fun he=>?_
     ·exact ZA
     ·exact ZuA
    ·exact ZA
   ·exact⟨_,(ZcJ he :),(Za [(10001000,10000000)])⟩
  ·exact⟨_,(ZcJ he :),(Za [(10001000,10000000)])⟩
def Zf5:Con:=fun
  |[.agg [.imm (.int .i64) m_0,.imm (.pair (.int .i64) (.pair (.sl (.int .i64)) (.pair (.sl (.int .i64)) (.pair (.int .i64) (.sl (.sl (.int .i64))))))) m_1],.c (.int .i64 cell),.c (.int .i64 value)],[]=>.opt _ (Zhs (m_0,m_1) cell value) (fun r=>.ret (.c (.int .i64 r)) [])
  |_,_=>.fail
def ZD2:Cfg:={ y:=tys,n:=25,h:=0,tab:=[] }
theorem Zk7:Zl Tryz.prog 133 Zf5:=by
 refine Zn (C:=ZD2) Tryz.f133 Zo fun _ a b k he=>?_
 unfold Zf5 at he;split at he;rotate_left;exact he.elim
 rename_i m_0 m_1 cell value
 refine Zq he fun he=>?_
 refine Zi he fun he=>?_
 refine Zr (ZqD (m_0,m_1) cell) (fun (n,i)=>(Zm [(1,.c (.int .i64 cell)),(3,.c (.ptr 10000000 0)),(7,.c (.int .i64 n)),(8,.c (.int .i64 i))],[(10000000,.rc [.imm y0_ (m_0,m_1).1,.imm y4_ (m_0,m_1).2])])) he (Za [(10000000,3)]) ?_
 rintro⟨n,i⟩ _ he
 refine Zf he (fun he=>?_) fun he=>?_
 ·exact ZuA
 ·exact Zy [(6,[])] (Zk he :) (Za [])
def ZkU:Con:=fun
  |[.c (.int .i64 n)],[]=>.opt _ (ZlG n) (fun r=>.ret (.c (.bool r)) [])
  |_,_=>.fail
def ZDY:Cfg:={ y:=tys,n:=13,h:=0,tab:=[] }
theorem ZrY:Zl Tryz.prog 228 ZkU:=by
 refine Zn (C:=ZDY) Tryz.f228 Zo fun _ a b k he=>?_
 unfold ZkU at he;split at he;rotate_left;exact he.elim
 rename_i n
 refine Zq he fun he=>?_
 refine Zf he (fun he=>?_) fun he=>?_
 ·exact ZAq
 ·exact Z6
def ZkT:Con:=fun
  |[.c (.int .i64 n)],[]=>.opt _ (Zja n) (fun r=>.ret (.c (.int .i64 r)) [])
  |_,_=>.fail
def ZDX:Cfg:={ y:=tys,n:=8,h:=0,tab:=[] }
theorem ZFH {P:Prop} (h:P:=by
  refine Zi he fun he=>?_
  exact Z6):P:=h
theorem ZrX:Zl Tryz.prog 229 ZkT:=by
 refine Zn (C:=ZDX) Tryz.f229 Zo fun _ a b k he=>?_
 unfold ZkT at he;split at he;rotate_left;exact he.elim
 rename_i n
 refine Zq he fun he=>?_
 refine Zf he (fun he=>?_) fun he=>?_
 ·exact ZFH
 ·exact Z6
def Zki:Con:=fun
  |[.c (.imm (.int .i64) a0)],[]=>.opt _ (ZjK a0) (fun r=>.ret (.tup [.agg [.own 901 false,.int .i64 r.2.1],.c (.bool r.1)]) [(900,.rc [.own 901 false,.int .i64 r.2.1]),(901,.sl 155 y5_ r.2.2 .shallow)])
  |_,_=>.fail
def Zpp:Sched:=.alt 8 (.first 9 (.alt 10 .done .stop)) .stop
def Zpq:Sched:=.alt 7 Zpp .stop
def Zpr:Sched:=.alt 6 Zpq .stop
def Zzq:Cfg:={ y:=tys,n:=71,h:=0,tab:=[(228,ZkU),(229,ZkT)],cut:=[13],sched:=[(18,(Zv [0,2,3,4] (.alt 1 (.alt 5 Zpr .stop) (.alt 5 (.alt 1 Zpr (.alt 6 (.alt 1 Zpq (.alt 7 (.alt 1 Zpp .stop) .stop)) .stop)) .stop))))] }
theorem Zon {P:Prop} (h:P:=by
  exact Zy [(2,[900]),(3,[])] (Zk he :) (Za [(900,2)])):P:=h
theorem ZAr {P:Prop} (h:P:=by
  refine Y4 ?_
  refine Y4 ?_
  refine And.intro hq1 ?_
  refine Y4 ?_
  refine Zi he fun he=>?_
  exact⟨_,(Zk he :),(Za [(10002003,68)])⟩):P:=h
theorem ZxA {P:Prop} (h:P:=by
  exact Zy [(2,[900]),(3,[])] (Zk he :) (Za [(900,10000000)])):P:=h
theorem Zth:Zl Tryz.prog 189 Zki:=by
 refine Zn (C:=Zzq) Tryz.f189 (Zj ZrY (Zj ZrX Zo)) fun _ a b k he=>?_
 unfold Zki at he;split at he;rotate_left;exact he.elim
 rename_i a0
 refine Zq he fun he=>?_
 refine Zi he fun he=>?_
 refine Zf he (fun he=>?_) fun he=>?_
 ·exact Zon
 ·refine ZT (Zm6) (fun i2=>(Zm [(2,.c (.ptr 10001000 0)),(4,.c (.own 10001001 false))],[(10001000,.rc [.nil,.int .i64 (0:Int)]),(10001001,.sl 3 y0_ i2 .shallow)])) he ?_ ?_
  ·rintro i2 he
   refine Zr (Zgj i2) (fun (i3,i_0)=>(Zm [(2,.c (.ptr 10002000 0)),(4,.c (.own 10002001 false)),(7,.c (.ptr 10002002 0)),(8,.c (.int .i64 i3))],[(10002000,.rc [.nil,.int .i64 (0:Int)]),(10002001,.sl 3 y0_ i2 .shallow),(10002002,.rc [.own 10002003 false,.int .i64 (1:Int)]),(10002003,.sl 155 y5_ i_0 .shallow)])) he (Za [(10002000,10001000),(10002001,10001001),(10002002,7)]) ?_
   rintro⟨i3,i_0⟩ _ he
   refine Zf he (fun he=>?_) fun he=>?_
   ·refine Zi he fun he=>?_
    refine Zf he (fun he=>?_) fun he=>?_
    ·refine And.intro (by kernel_rfl) ?_
     refine Zi he fun he=>?_
     obtain⟨hq1,he⟩:=ZG he
     refine Y5 ?_ ?_
     ·skip
      refine Y4 ?_
      refine Y4 ?_
      exact ZAr
     ·skip
      refine Y5 ?_ ?_
      ·skip
       refine Y4 ?_
       exact ZAr
      ·skip
       refine Y5 ?_ ?_
       ·skip
        exact ZAr
       ·skip
        exact ZAr
    ·exact Zdh
   ·exact Zy [(2,[900]),(3,[])] (Zk he :) (Za [(900,10002000),(901,10002003)])
  ·skip
   refine Zr (Zi8 a0) (fun (i,i1)=>(Zm [(0,.c (.imm y0_ a0)),(2,.c (.ptr 10000000 0)),(4,.c (.own 10000001 false)),(5,.c (.int .i64 i))],[(10000000,.rc [.nil,.int .i64 (0:Int)]),(10000001,.sl 3 y0_ i1 .shallow)])) he (Za [(10000000,2),(10000001,9)]) ?_
   rintro⟨i,i1⟩ _ he
   refine Zf he (fun he=>?_) fun he=>?_
   ·refine Zi he fun he=>?_
    refine Zh he fun r3_ he=>?_
    refine Zf he (fun he=>?_) fun he=>?_
    ·exact ZxA
    ·refine Zi he fun he=>?_
     refine Zh he fun r4_ he=>?_
     refine And.intro (by kernel_rfl) ?_
     refine Zi he fun he=>?_
     refine Zi he fun he=>?_
     refine Zi he fun he=>?_
     refine Zf he (fun he=>?_) fun he=>?_
     ·exact ZxA
     ·exact Zp0
   ·exact⟨_,(ZcJ he :),(Za [(10001000,10000000),(10001001,10000001)])⟩
def Zmy:Con:=fun
  |[.c (.imm (.int .i64) vars)],[]=>.opt _ (Zmt vars) (fun r=>.ret (.agg [.own 901 false,.int .i64 r.1]) [(900,.rc [.own 901 false,.int .i64 r.1]),(901,.sl 155 y5_ r.2 .shallow)])
  |_,_=>.fail
def ZrE:Sched:=.alt 9 (.first 10 (.alt 11 .done .stop)) .stop
def ZrF:Sched:=.alt 8 ZrE .stop
def ZDc:Cfg:={ y:=tys,n:=27,h:=0,tab:=[],sched:=[(5,(Zv [0,2,3,4,5,6] (.alt 1 (.alt 7 ZrF .stop) (.alt 7 (.alt 1 ZrF (.alt 8 (.alt 1 ZrE .stop) .stop)) .stop))))] }
theorem ZFI {P:Prop} (h:P:=by
  refine Y4 ?_
  refine Y4 ?_
  refine And.intro hq1 ?_
  refine Y4 ?_
  refine Zi he fun he=>?_
  exact⟨_,(Zk he :),(Za [(10000002,24)])⟩):P:=h
theorem ZvM:Zl Tryz.prog 190 Zmy:=by
 refine Zn (C:=ZDc) Tryz.f190 Zo fun _ a b k he=>?_
 unfold Zmy at he;split at he;rotate_left;exact he.elim
 rename_i vars
 refine Zq he fun he=>?_
 refine Zi he fun he=>?_
 refine Zr (ZiA vars) (fun (i,c_0)=>(Zm [(0,.c (.imm y0_ vars)),(2,.c (.ptr 10000000 0)),(3,.c (.ptr 10000001 0)),(4,.c (.int .i64 i))],[(10000000,.rc [.nil,.int .i64 (0:Int)]),(10000001,.rc [.own 10000002 false,.int .i64 ((vars.length:Int) - (1:Int))]),(10000002,.sl 155 y5_ c_0 .shallow)])) he (Za [(10000000,2),(10000001,3)]) ?_
 rintro⟨i,c_0⟩ _ he
 refine Zf he (fun he=>?_) fun he=>?_
 ·refine And.intro (by kernel_rfl) ?_
  refine Zi he fun he=>?_
  refine Zi he fun he=>?_
  obtain⟨hq1,he⟩:=ZG he
  refine Y5 ?_ ?_
  ·skip
   refine Y4 ?_
   exact ZFI
  ·skip
   refine Y5 ?_ ?_
   ·skip
    exact ZFI
   ·skip
    exact ZFI
 ·exact Zy [(2,[900])] (Zk he :) (Za [(900,10000000),(901,10000002)])
def Zql:Con:=fun
  |[.agg [.imm (.int .i64) m_0,.imm (.pair (.int .i64) (.pair (.sl (.int .i64)) (.pair (.sl (.int .i64)) (.pair (.int .i64) (.sl (.sl (.int .i64))))))) m_1],.c (.int .i64 cell)],[]=>.opt _ (Zpk (m_0,m_1) cell) (fun r=>.ret (.c (.own 900 false)) [(900,.sl 89 y6_ r (.deep true .no))])
  |_,_=>.fail
def ZrD:Sched:=.alt 3 (.first 4 .done) .stop
def ZDb:Cfg:={ y:=tys,n:=35,h:=0,tab:=[(133,Zf5),(189,Zki),(190,Zmy)],cut:=[6],deep:=[34],sched:=[(7,(.first 1 (.alt 0 (.alt 2 ZrD .stop) (.alt 2 (.alt 0 ZrD .stop) .stop))))] }
theorem ZJu {P:Prop} (h:P:=by
  refine Y4 ?_
  exact Zy [(4,[])] (Zk he :) (Za [(900,34)])):P:=h
theorem ZDx:Zl Tryz.prog 131 Zql:=by
 refine Zn (C:=ZDb) Tryz.f131 (Zj Zk7 (Zj Zth (Zj ZvM Zo))) fun _ a b k he=>?_
 unfold Zql at he;split at he;rotate_left;exact he.elim
 rename_i m_0 m_1 cell
 refine Zq he fun he=>?_
 refine ZT (Ziy) (fun vars1=>(Zm [(5,.c (.own 10001000 false))],[(10001000,.sl 3 y0_ vars1 .shallow)])) he ?_ ?_
 ·rintro vars1 he
  refine Zh he fun r3_ he=>?_
  refine And.intro (by kernel_rfl) ?_
  obtain⟨r5_,hq1,he⟩:=Z5 he
  refine Y5 ?_ ?_
  ·skip
   refine Y4 ?_
   refine⟨r5_,hq1,?_⟩
   exact ZJu
  ·skip
   refine⟨r5_,hq1,?_⟩
   refine Y4 ?_
   exact ZJu
 ·skip
  refine Zr (Ziz (m_0,m_1) cell) (fun (k_,vars)=>(Zm [(1,.c (.int .i64 cell)),(2,.c (.ptr 10000000 0)),(5,.c (.own 10000001 false)),(6,.c (.int .i64 k_))],[(10000000,.rc [.imm y0_ (m_0,m_1).1,.imm y4_ (m_0,m_1).2]),(10000001,.sl 3 y0_ vars .shallow)])) he (Za [(10000000,2),(10000001,9)]) ?_
  rintro⟨k_,vars⟩ _ he
  refine Zi he fun he=>?_
  refine Zf he (fun he=>?_) fun he=>?_
  ·refine Zh he fun r2_ he=>?_
   refine Zi he fun he=>?_
   refine Zi he fun he=>?_
   exact⟨_,(Zk he :),(Za [(10000001,25)])⟩
  ·exact⟨_,(ZcJ he :),(Za [(10001000,10000001)])⟩
def Z2:Con:=fun
  |[.agg [.imm (.pair (.int .i64) (.int .i64)) c__0,.int .i64 c__1]],[]=>.opt _ (ZM (c__0,c__1)) (fun r=>.ret (.c (.bool r)) [])
  |_,_=>.fail
def Zkf:Sched:=.alt 28 (Zv [29,30,31] .done) .stop
def Zkg:Sched:=.alt 25 Zkf .stop
def ZtC:Cfg:={ y:=tys,n:=57,h:=0,tab:=[(228,ZkU),(229,ZkT)],sched:=[(5,(.first 0 (.alt 1 (.alt 2 (Zv [3,4,5] (.alt 6 (Zv [7,8,9,10] (.alt 11 (Zv [12,13,14,15,16,17,18,20,21,26] (.alt 19 (Zv [22,23,24] (.alt 25 (.alt 27 Zkf .stop) (.alt 27 Zkg .stop))) (.alt 27 (.alt 19 (Zv [22,23,24] Zkg) .stop) .stop))) .stop)) .stop)) .stop) .stop)))] }
theorem ZJv {P:Prop} (h:P:=by
  refine Y4 ?_
  refine⟨r5_,hq2,?_⟩
  refine Y4 ?_
  refine⟨r6_,hq3,?_⟩
  exact Zsj):P:=h
theorem ZiB {P:Prop} (h:P:=by
  refine Y4 ?_
  exact Zdh):P:=h
theorem ZuB {P:Prop} (h:P:=by
  refine Y4 ?_
  exact ZA):P:=h
theorem ZAs {P:Prop} (h:P:=by
  skip
  refine Y4 ?_
  exact ZuB):P:=h
theorem ZFJ {P:Prop} (h:P:=by
  refine Y5 ?_ ?_
  ·skip
   refine Y5 ?_ ?_
   ·exact ZAs
   ·exact ZAs
  ·skip
   refine Y4 ?_
   refine Y4 ?_
   exact ZuB):P:=h
theorem Zbl:Zl Tryz.prog 168 Z2:=by
 refine Zn (C:=ZtC) Tryz.f168 (Zj ZrY (Zj ZrX Zo)) fun _ a b k he=>?_
 unfold Z2 at he;split at he;rotate_left;exact he.elim
 rename_i c__0 c__1
 refine Zq he fun he=>?_
 refine Zr (Zec (c__0,c__1)) (fun i=>(Zm [(1,.c (.ptr 10000000 0)),(3,.c (.int .i64 i))],[(10000000,.rc [.imm y5_ (c__0,c__1).1,.int .i64 (c__0,c__1).2])])) he (Za [(10000000,1)]) ?_
 rintro i _ he
 refine Zf he (fun he=>?_) fun he=>?_
 ·refine Zi he fun he=>?_
  refine And.intro (by kernel_rfl) ?_
  refine Y4 ?_
  refine Y4 ?_
  refine Zh he fun r4_ he=>?_
  refine ZC he (fun he=>?_) fun he=>?_
  ·refine Y4 ?_
   refine ZC he (fun he=>?_) fun he=>?_
   ·refine Y4 ?_
    refine ZC he (fun he=>?_) fun he=>?_
    ·refine Zf he (fun he=>?_) fun he=>?_
     ·refine Zi he fun he=>?_
      obtain⟨hq1,he⟩:=ZG he
      obtain⟨r5_,hq2,he⟩:=Z5 he
      obtain⟨r6_,hq3,he⟩:=Z5 he
      refine Y5 ?_ ?_
      ·skip
       refine And.intro hq1 ?_
       refine Y5 ?_ ?_
       ·skip
        refine⟨r5_,hq2,?_⟩
        refine Y4 ?_
        refine Y4 ?_
        refine⟨r6_,hq3,?_⟩
        exact Zsj
       ·skip
        exact ZJv
      ·skip
       refine Y4 ?_
       refine And.intro hq1 ?_
       exact ZJv
     ·refine Y5 ?_ ?_
      ·skip
       refine Y5 ?_ ?_
       ·skip
        refine Y4 ?_
        exact ZiB
       ·skip
        refine Y4 ?_
        exact ZiB
      ·skip
       refine Y4 ?_
       refine Y4 ?_
       exact ZiB
    ·exact ZFJ
   ·refine Y4 ?_
    exact ZFJ
  ·refine Y4 ?_
   refine Y4 ?_
   exact ZFJ
 ·exact Zsk
def Zhb:Con:=fun
  |[.c (.imm (.int .i64) net),.c (.int .i64 bound_)],[]=>.opt _ (Zd3 net bound_) (fun r=>.ret (.tup [.agg [.own 901 false,.int .i64 r.2.1],.c (.bool r.1)]) [(900,.rc [.own 901 false,.int .i64 r.2.1]),(901,.sl 155 y5_ r.2.2 .shallow)])
  |_,_=>.fail
def Zps:Sched:=.alt 9 (.first 10 (.alt 11 .done .stop)) .stop
def Zpt:Sched:=.alt 8 Zps .stop
def Zpu:Sched:=.alt 11 (.first 12 (.alt 13 .done .stop)) .stop
def Zpv:Sched:=.alt 10 Zpu .stop
def Zzr:Cfg:={ y:=tys,n:=62,h:=0,tab:=[(168,Z2)],cut:=[7,9,10,12],sched:=[(6,(Zv [0,2,3,4,5,6] (.alt 1 (.alt 7 Zpt .stop) (.alt 7 (.alt 1 Zpt (.alt 8 (.alt 1 Zps .stop) .stop)) .stop)))),(8,(Zv [0,2,3,4,5,6,7,8] (.alt 1 (.alt 9 Zpv .stop) (.alt 9 (.alt 1 Zpv (.alt 10 (.alt 1 Zpu .stop) .stop)) .stop))))] }
theorem ZJw {P:Prop} (h:P:=by
  exact⟨_,he,(Za [(10006000,10005000),(10006001,10005001),(10006002,10005002)])⟩):P:=h
theorem ZJx {P:Prop} (h:P:=by
  refine Zi he fun he=>?_
  exact⟨_,(Zk he :),(Za [(10000000,10004000),(10000001,10004001),(10000002,10004002)])⟩):P:=h
theorem ZFK {P:Prop} (h:P:=by
  refine Y4 ?_
  refine Y4 ?_
  refine And.intro hq1 ?_
  refine Y4 ?_
  exact⟨_,he,(Za [(10004000,10003000),(10004001,10003001),(10004002,45)])⟩):P:=h
theorem ZFL {P:Prop} (h:P:=by
  refine Y4 ?_
  refine Y4 ?_
  refine And.intro hq1 ?_
  refine Y4 ?_
  exact⟨_,he,(Za [(10003000,10000000),(10003001,10000001),(10003002,27)])⟩):P:=h
theorem ZnQ:Zl Tryz.prog 134 Zhb:=by
 refine Zn (C:=Zzr) Tryz.f134 (Zj Zbl Zo) fun _ a b k he=>?_
 unfold Zhb at he;split at he;rotate_left;exact he.elim
 rename_i net bound_
 refine Zq he fun he=>?_
 refine ZT (Zjb) (fun (bound_2,c_03)=>(Zm [(1,.c (.int .i64 bound_2)),(4,.c (.ptr 10005000 0)),(6,.c (.ptr 10005001 0))],[(10005000,.rc [.nil,.int .i64 (0:Int)]),(10005001,.rc [.own 10005002 false,.int .i64 (0:Int)]),(10005002,.sl 155 y5_ c_03 .shallow)])) he ?_ ?_
 ·rintro⟨bound_2,c_03⟩ he
  refine ZT (Zdx c_03) (fun bound_3=>(Zm [(1,.c (.int .i64 bound_3)),(4,.c (.ptr 10006000 0)),(6,.c (.ptr 10006001 0))],[(10006000,.rc [.nil,.int .i64 (0:Int)]),(10006001,.rc [.own 10006002 false,.int .i64 (0:Int)]),(10006002,.sl 155 y5_ c_03 .shallow)])) he ?_ ?_
  ·rintro bound_3 he
   refine Zh he fun r1_ he=>?_
   refine Zf he (fun he=>?_) fun he=>?_
   ·exact Zy [(4,[900]),(5,[])] (Zk he :) (Za [(900,10006000)])
   ·exact Zy [(4,[900]),(5,[])] (Zk he :) (Za [(900,10006000),(901,10006002)])
  ·skip
   refine Zf he (fun he=>?_) fun he=>?_
   ·exact ZJw
   ·exact ZJw
 ·skip
  refine Zr (Zes net) (fun (bound_1,v,c_01)=>(Zm [(0,.c (.imm y0_ net)),(1,.c (.int .i64 bound_1)),(4,.c (.ptr 10000000 0)),(6,.c (.ptr 10000001 0)),(7,.c (.int .i64 v))],[(10000000,.rc [.nil,.int .i64 (0:Int)]),(10000001,.rc [.own 10000002 false,.int .i64 (0:Int)]),(10000002,.sl 155 y5_ c_01 .shallow)])) he (Za [(10000000,4),(10000001,6)]) ?_
  rintro⟨bound_1,v,c_01⟩ _ he
  refine Zf he (fun he=>?_) fun he=>?_
  ·refine ZT (Zgq net bound_1 v) (fun c_02=>(Zm [(0,.c (.imm y0_ net)),(1,.c (.int .i64 bound_1)),(4,.c (.ptr 10003000 0)),(6,.c (.ptr 10003001 0)),(7,.c (.int .i64 v))],[(10003000,.rc [.nil,.int .i64 (0:Int)]),(10003001,.rc [.own 10003002 false,.int .i64 (0:Int)]),(10003002,.sl 155 y5_ c_02 .shallow)])) he ?_ ?_
   ·rintro c_02 he
    refine Zi he fun he=>?_
    refine Zf he (fun he=>?_) fun he=>?_
    ·refine ZT (Zjc net bound_1 v c_02) (fun _=>(Zm [(0,.c (.imm y0_ net)),(1,.c (.int .i64 bound_1)),(4,.c (.ptr 10004000 0)),(6,.c (.ptr 10004001 0)),(7,.c (.int .i64 v))],[(10004000,.rc [.nil,.int .i64 (0:Int)]),(10004001,.rc [.own 10004002 false,.int .i64 (0:Int)]),(10004002,.sl 155 y5_ (c_02++[((0 - (net.getD v.toNat 0)),(0 - v))]) .shallow)])) he ?_ ?_
     ·rintro⟨⟩ he
      refine Zi he fun he=>?_
      refine Zi he fun he=>?_
      exact ZJx
     ·skip
      refine And.intro (by kernel_rfl) ?_
      refine Zi he fun he=>?_
      refine Zi he fun he=>?_
      refine Zi he fun he=>?_
      obtain⟨hq1,he⟩:=ZG he
      refine Y5 ?_ ?_
      ·skip
       refine Y4 ?_
       exact ZFK
      ·skip
       refine Y5 ?_ ?_
       ·skip
        exact ZFK
       ·skip
        exact ZFK
    ·refine Zi he fun he=>?_
     exact⟨_,(Zk he :),(Za [(10000000,10003000),(10000001,10003001),(10000002,10003002)])⟩
   ·skip
    refine Zi he fun he=>?_
    refine Zf he (fun he=>?_) fun he=>?_
    ·refine And.intro (by kernel_rfl) ?_
     refine Zi he fun he=>?_
     obtain⟨hq1,he⟩:=ZG he
     refine Y5 ?_ ?_
     ·skip
      refine Y4 ?_
      exact ZFL
     ·skip
      refine Y5 ?_ ?_
      ·skip
       exact ZFL
      ·skip
       exact ZFL
    ·exact⟨_,he,(Za [(10003000,10000000),(10003001,10000001),(10003002,10000002)])⟩
  ·exact⟨_,(ZcJ he :),(Za [(10005000,10000000),(10005001,10000001),(10005002,10000002)])⟩
def ZnD:Con:=fun
  |[.agg [.imm (.int .i64) m_0,.imm (.pair (.int .i64) (.pair (.sl (.int .i64)) (.pair (.sl (.int .i64)) (.pair (.int .i64) (.sl (.sl (.int .i64))))))) m_1],.agg [.int .i64 r__0,.imm (.int .i64) r__1,.imm (.int .i64) r__2,.int .i64 r__3,.imm (.sl (.int .i64)) r__4]],[]=>.opt _ (ZmJ (m_0,m_1) (r__0,(r__1,(r__2,(r__3,r__4))))) (fun r=>.ret (.c (.own 900 false)) [(900,.sl 89 y6_ r (.deep true .no))])
  |_,_=>.fail
def ZpN:Sched:=.first 16 (.alt 17 .done .stop)
def ZkH:Sched:=.alt 8 ZpN .stop
def ZpO:Sched:=.alt 8 (.alt 10 (Zv [12,13,15] ZpN) .stop) (.alt 10 (Zv [12,13,15] ZkH) .stop)
def ZpP:Sched:=.alt 3 (Zv [5,6] ZkH) .stop
def ZpQ:Sched:=.alt 1 ZkH .stop
def Zzx:Cfg:={ y:=tys,n:=57,h:=0,tab:=[(133,Zf5),(134,Zhb)],cut:=[9],deep:=[56],sched:=[(8,(Zv [0,2,4,7,9,11,14] (.alt 1 (.alt 3 (Zv [5,6] ZpO) (.alt 10 (Zv [12,13,15] ZpP) .stop)) (.alt 3 (Zv [5,6] (.alt 1 ZpO (.alt 10 (Zv [12,13,15] ZpQ) .stop))) (.alt 10 (Zv [12,13,15] (.alt 1 ZpP (.alt 3 (Zv [5,6] ZpQ) .stop))) .stop)))))] }
theorem ZxB {P:Prop} (h:P:=by
  refine Y4 ?_
  refine⟨r5_,hq2,?_⟩
  refine And.intro hq5 ?_
  exact ZiB):P:=h
theorem ZJy {P:Prop} (h:P:=by
  refine Y5 ?_ ?_
  ·skip
   refine⟨r5_,hq2,?_⟩
   refine Y4 ?_
   refine And.intro hq3 ?_
   refine And.intro hq4 ?_
   refine And.intro hq5 ?_
   exact ZiB
  ·skip
   refine And.intro hq3 ?_
   refine And.intro hq4 ?_
   exact ZxB):P:=h
theorem ZzX:Zl Tryz.prog 191 ZnD:=by
 refine Zn (C:=Zzx) Tryz.f191 (Zj Zk7 (Zj ZnQ Zo)) fun _ a b k he=>?_
 unfold ZnD at he;split at he;rotate_left;exact he.elim
 rename_i m_0 m_1 r__0 r__1 r__2 r__3 r__4
 refine Zq he fun he=>?_
 refine Zi he fun he=>?_
 refine ZT (Zji (r__0,(r__1,(r__2,(r__3,r__4))))) (fun net3=>(Zm [(3,.c (.ptr 10003000 0)),(5,.c (.own 10003001 false))],[(10003000,.rc [.int .i64 (r__0,(r__1,(r__2,(r__3,r__4)))).1,.imm y0_ (r__0,(r__1,(r__2,(r__3,r__4)))).2.1,.imm y0_ (r__0,(r__1,(r__2,(r__3,r__4)))).2.2.1,.int .i64 (r__0,(r__1,(r__2,(r__3,r__4)))).2.2.2.1,.imm (.sl y0_) (r__0,(r__1,(r__2,(r__3,r__4)))).2.2.2.2]),(10003001,.sl 3 y0_ net3 .shallow)])) he ?_ ?_
 ·rintro net3 he
  refine Zh he fun r6_ he=>?_
  exact Zy [(4,[])] (Zk he :) (Za [(900,56)])
 ·skip
  refine Zr (Zm8 (m_0,m_1) (r__0,(r__1,(r__2,(r__3,r__4))))) (fun (i,net1)=>(Zm [(2,.c (.ptr 10000000 0)),(3,.c (.ptr 10000001 0)),(5,.c (.own 10000002 false)),(6,.c (.int .i64 i))],[(10000000,.rc [.imm y0_ (m_0,m_1).1,.imm y4_ (m_0,m_1).2]),(10000001,.rc [.int .i64 (r__0,(r__1,(r__2,(r__3,r__4)))).1,.imm y0_ (r__0,(r__1,(r__2,(r__3,r__4)))).2.1,.imm y0_ (r__0,(r__1,(r__2,(r__3,r__4)))).2.2.1,.int .i64 (r__0,(r__1,(r__2,(r__3,r__4)))).2.2.2.1,.imm (.sl y0_) (r__0,(r__1,(r__2,(r__3,r__4)))).2.2.2.2]),(10000002,.sl 3 y0_ net1 .shallow)])) he (Za [(10000000,2),(10000001,3),(10000002,10)]) ?_
  rintro⟨i,net1⟩ _ he
  refine Zf he (fun he=>?_) fun he=>?_
  ·refine Zr (Zjj (m_0,m_1) (r__0,(r__1,(r__2,(r__3,r__4)))) i) (fun (k_1,net2)=>(Zm [(2,.c (.ptr 10002000 0)),(3,.c (.ptr 10002001 0)),(5,.c (.own 10002002 false)),(6,.c (.int .i64 i)),(7,.c (.int .i64 k_1))],[(10002000,.rc [.imm y0_ (m_0,m_1).1,.imm y4_ (m_0,m_1).2]),(10002001,.rc [.int .i64 (r__0,(r__1,(r__2,(r__3,r__4)))).1,.imm y0_ (r__0,(r__1,(r__2,(r__3,r__4)))).2.1,.imm y0_ (r__0,(r__1,(r__2,(r__3,r__4)))).2.2.1,.int .i64 (r__0,(r__1,(r__2,(r__3,r__4)))).2.2.2.1,.imm (.sl y0_) (r__0,(r__1,(r__2,(r__3,r__4)))).2.2.2.2]),(10002002,.sl 3 y0_ net2 .shallow)])) he (Za [(10002000,10000000),(10002001,10000001),(10002002,10000002)]) ?_
   rintro⟨k_1,net2⟩ _ he
   refine And.intro (by kernel_rfl) ?_
   refine Zi he fun he=>?_
   refine Zi he fun he=>?_
   refine Zf he (fun he=>?_) fun he=>?_
   ·refine And.intro (by kernel_rfl) ?_
    obtain⟨hq1,he⟩:=ZG he
    obtain⟨r5_,hq2,he⟩:=Z5 he
    obtain⟨hq3,he⟩:=ZG he
    obtain⟨hq4,he⟩:=ZG he
    obtain⟨hq5,he⟩:=ZG he
    refine And.intro ?_ (And.intro ?_ (And.intro ?_ (Y1)))
    ·skip
     refine Y5 ?_ ?_
     ·skip
      refine And.intro hq1 ?_
      exact ZJy
     ·skip
      refine And.intro hq3 ?_
      refine And.intro hq4 ?_
      refine Y4 ?_
      refine And.intro hq1 ?_
      exact ZxB
    ·skip
     refine And.intro hq1 ?_
     refine Y5 ?_ ?_
     ·skip
      exact ZJy
     ·skip
      refine And.intro hq3 ?_
      refine And.intro hq4 ?_
      refine Y4 ?_
      exact ZxB
    ·skip
     refine And.intro hq3 ?_
     refine And.intro hq4 ?_
     refine Y5 ?_ ?_
     ·skip
      refine Y4 ?_
      refine And.intro hq1 ?_
      exact ZxB
     ·skip
      refine And.intro hq1 ?_
      refine Y4 ?_
      exact ZxB
   ·refine Zi he fun he=>?_
    exact⟨_,(Zk he :),(Za [(10000000,10002000),(10000001,10002001),(10000002,10002002)])⟩
  ·exact⟨_,(ZcJ he :),(Za [(10003000,10000001),(10003001,10000002)])⟩
def ZnE:Con:=fun
  |[.c (.imm (.int .i64) list_)],[]=>.opt _ (ZmK list_) (fun r=>.ret (.c (.own 900 false)) [(900,.sl 3 y0_ r .shallow)])
  |_,_=>.fail
def Zzy:Cfg:={ y:=tys,n:=51,h:=0,tab:=[] }
theorem ZxC {P:Prop} (h:P:=by
  refine Zi he fun he=>?_
  exact ZuA):P:=h
theorem ZFM {P:Prop} (h:P:=by
  refine Zi he fun he=>?_
  exact⟨_,(Zk he :),(Za [(10000000,10002000)])⟩):P:=h
theorem ZzY:Zl Tryz.prog 246 ZnE:=by
 refine Zn (C:=Zzy) Tryz.f246 Zo fun _ a b k he=>?_
 unfold ZnE at he;split at he;rotate_left;exact he.elim
 rename_i list_
 refine Zq he fun he=>?_
 refine Zi he fun he=>?_
 refine Zr (Zjk) (fun (i,out1)=>(Zm [(3,.c (.own 10000000 false)),(4,.c (.int .i64 i))],[(10000000,.sl 3 y0_ out1 .shallow)])) he (Za [(10000000,9)]) ?_
 rintro⟨i,out1⟩ _ he
 refine Zf he (fun he=>?_) fun he=>?_
 ·refine Zr (Zjl i) (fun (k_1,out2)=>(Zm [(3,.c (.own 10002000 false)),(4,.c (.int .i64 i)),(5,.c (.int .i64 k_1))],[(10002000,.sl 3 y0_ out2 .shallow)])) he (Za [(10002000,10000000)]) ?_
  rintro⟨k_1,out2⟩ _ he
  refine And.intro (by kernel_rfl) ?_
  refine Zf he (fun he=>?_) fun he=>?_
  ·refine Zi he fun he=>?_
   refine Zi he fun he=>?_
   refine Zi he fun he=>?_
   refine Zf he (fun he=>?_) fun he=>?_
   ·refine Zi he fun he=>?_
    refine Zi he fun he=>?_
    exact ZxC
   ·exact ZFM
  ·exact ZFM
 ·exact Zy [(2,[])] (Zk he :) (Za [(900,10000000)])
def ZkW:Con:=fun
  |[.agg [.imm (.int .i64) m_0,.imm (.pair (.int .i64) (.pair (.sl (.int .i64)) (.pair (.sl (.int .i64)) (.pair (.int .i64) (.sl (.sl (.int .i64))))))) m_1],.agg [.int .i64 r__0,.imm (.int .i64) r__1,.imm (.int .i64) r__2,.int .i64 r__3,.imm (.sl (.int .i64)) r__4]],[]=>.opt _ (Zjf (m_0,m_1) (r__0,(r__1,(r__2,(r__3,r__4))))) (fun r=>.ret (.c (.own 900 false)) [(900,.sl 89 y6_ r (.deep true .no))])
  |_,_=>.fail
def Znc:Sched:=.alt 8 (.alt 9 (.alt 10 (.first 11 .done) .stop) .stop) .stop
def ZwA:Cfg:={ y:=tys,n:=54,h:=0,tab:=[(133,Zf5),(190,Zmy),(246,ZnE)],cut:=[11],deep:=[9,51],sched:=[(10,(Zv [0,2,4,7] (.alt 1 (.alt 3 (Zv [5,6] Znc) .stop) (.alt 3 (Zv [5,6] (.alt 1 Znc .stop)) .stop))))] }
theorem ZJz {P:Prop} (h:P:=by
  refine Y4 ?_
  refine⟨r7_,hq2,?_⟩
  refine Y4 ?_
  refine Y4 ?_
  refine And.intro hq3 ?_
  refine Zi he fun he=>?_
  exact⟨_,(Zk he :),(Za [(10003003,43)])⟩):P:=h
theorem Zw2:Zl Tryz.prog 192 ZkW:=by
 refine Zn (C:=ZwA) Tryz.f192 (Zj Zk7 (Zj ZvM (Zj ZzY Zo))) fun _ a b k he=>?_
 unfold ZkW at he;split at he;rotate_left;exact he.elim
 rename_i m_0 m_1 r__0 r__1 r__2 r__3 r__4
 refine Zq he fun he=>?_
 refine Zr (Zka (m_0,m_1) (r__0,(r__1,(r__2,(r__3,r__4))))) (fun (k_,out)=>(Zm [(2,.c (.ptr 10000000 0)),(3,.c (.ptr 10000001 0)),(5,.c (.own 10000002 false)),(6,.c (.int .i64 k_))],[(10000000,.rc [.imm y0_ (m_0,m_1).1,.imm y4_ (m_0,m_1).2]),(10000001,.rc [.int .i64 (r__0,(r__1,(r__2,(r__3,r__4)))).1,.imm y0_ (r__0,(r__1,(r__2,(r__3,r__4)))).2.1,.imm y0_ (r__0,(r__1,(r__2,(r__3,r__4)))).2.2.1,.int .i64 (r__0,(r__1,(r__2,(r__3,r__4)))).2.2.2.1,.imm (.sl y0_) (r__0,(r__1,(r__2,(r__3,r__4)))).2.2.2.2]),(10000002,.sl 89 y6_ out (.deep true .no))])) he (Za [(10000000,2),(10000001,3),(10000002,9)]) ?_
 rintro⟨k_,out⟩ _ he
 refine Zf he (fun he=>?_) fun he=>?_
 ·refine ZT (Zei k_ out) (fun vars3=>(Zm [(2,.c (.ptr 10004000 0)),(3,.c (.ptr 10004001 0)),(5,.c (.own 10004002 false)),(6,.c (.int .i64 k_)),(7,.c (.own 10004003 false))],[(10004000,.rc [.imm y0_ (m_0,m_1).1,.imm y4_ (m_0,m_1).2]),(10004001,.rc [.int .i64 (r__0,(r__1,(r__2,(r__3,r__4)))).1,.imm y0_ (r__0,(r__1,(r__2,(r__3,r__4)))).2.1,.imm y0_ (r__0,(r__1,(r__2,(r__3,r__4)))).2.2.1,.int .i64 (r__0,(r__1,(r__2,(r__3,r__4)))).2.2.2.1,.imm (.sl y0_) (r__0,(r__1,(r__2,(r__3,r__4)))).2.2.2.2]),(10004002,.sl 89 y6_ out (.deep true .no)),(10004003,.sl 3 y0_ vars3 .shallow)])) he ?_ ?_
  ·rintro vars3 he
   refine Zf he (fun he=>?_) fun he=>?_
   ·refine Zh he fun r8_ he=>?_
    refine Zh he fun r9_ he=>?_
    refine Zi he fun he=>?_
    refine Zi he fun he=>?_
    exact⟨_,(Zk he :),(Za [(10000000,10004000),(10000001,10004001),(10000002,52)])⟩
   ·exact ZJx
  ·skip
   refine Zr (Zej (m_0,m_1) (r__0,(r__1,(r__2,(r__3,r__4)))) k_ out) (fun (i1,vars2)=>(Zm [(2,.c (.ptr 10003000 0)),(3,.c (.ptr 10003001 0)),(5,.c (.own 10003002 false)),(6,.c (.int .i64 k_)),(7,.c (.own 10003003 false)),(8,.c (.int .i64 i1))],[(10003000,.rc [.imm y0_ (m_0,m_1).1,.imm y4_ (m_0,m_1).2]),(10003001,.rc [.int .i64 (r__0,(r__1,(r__2,(r__3,r__4)))).1,.imm y0_ (r__0,(r__1,(r__2,(r__3,r__4)))).2.1,.imm y0_ (r__0,(r__1,(r__2,(r__3,r__4)))).2.2.1,.int .i64 (r__0,(r__1,(r__2,(r__3,r__4)))).2.2.2.1,.imm (.sl y0_) (r__0,(r__1,(r__2,(r__3,r__4)))).2.2.2.2]),(10003002,.sl 89 y6_ out (.deep true .no)),(10003003,.sl 3 y0_ vars2 .shallow)])) he (Za [(10003000,10000000),(10003001,10000001),(10003002,10000002),(10003003,14)]) ?_
   rintro⟨i1,vars2⟩ _ he
   refine Zf he (fun he=>?_) fun he=>?_
   ·refine And.intro (by kernel_rfl) ?_
    refine Zi he fun he=>?_
    refine Zi he fun he=>?_
    refine Zf he (fun he=>?_) fun he=>?_
    ·refine And.intro (by kernel_rfl) ?_
     obtain⟨hq1,he⟩:=ZG he
     obtain⟨r7_,hq2,he⟩:=Z5 he
     obtain⟨hq3,he⟩:=ZG he
     refine Y5 ?_ ?_
     ·skip
      refine Y4 ?_
      refine And.intro hq1 ?_
      exact ZJz
     ·skip
      refine And.intro hq1 ?_
      refine Y4 ?_
      exact ZJz
    ·exact Zdh
   ·exact⟨_,(ZcJ he :),(Za [(10004000,10003000),(10004001,10003001),(10004002,10003002),(10004003,10003003)])⟩
 ·exact Zy [(4,[])] (Zk he :) (Za [(900,10000002)])
def Zqh:Con:=fun
  |[.c (.imm (.int .i64) a),.c (.imm (.int .i64) b)],[]=>.opt _ (Zph a b) (fun r=>.ret (.c (.bool r)) [])
  |_,_=>.fail
def ZC7:Cfg:={ y:=tys,n:=26,h:=0,tab:=[] }
theorem ZAu {P:Prop} (h:P:=by
  rintro i _ he
  refine Zf he (fun he=>?_) fun he=>?_
  ·refine And.intro (by kernel_rfl) ?_
   refine Zi he fun he=>?_
   refine Zi he fun he=>?_
   exact ZAt
  ·exact Z6):P:=h
theorem ZDt:Zl Tryz.prog 251 Zqh:=by
 refine Zn (C:=ZC7) Tryz.f251 Zo fun _ a b k he=>?_
 unfold Zqh at he;split at he;rotate_left;exact he.elim
 rename_i a b
 refine Zq he fun he=>?_
 refine Zf he (fun he=>?_) fun he=>?_
 ·exact Z6
 ·refine Zr (ZlJ a b) (fun i=>(Zm [(0,.c (.imm y0_ a)),(1,.c (.imm y0_ b)),(5,.c (.int .i64 i))],[])) he (Za []) ?_
  exact ZAu
def Zlq:Con:=fun
  |[.agg [.int .i64 a0_0,.imm (.int .i64) a0_1,.imm (.int .i64) a0_2,.int .i64 a0_3,.imm (.sl (.int .i64)) a0_4],.c (.imm (.int .i64) a1)],[]=>.opt _ (Zli (a0_0,(a0_1,(a0_2,(a0_3,a0_4)))) a1) (fun r=>.ret (.c (.bool r)) [])
  |_,_=>.fail
def ZA3:Cfg:={ y:=tys,n:=102,h:=0,tab:=[(251,Zqh)],cut:=[6] }
theorem ZJA {P:Prop} (h:P:=by
  refine And.intro (by kernel_rfl) ?_
  refine Zi he fun he=>?_
  refine Zi he fun he=>?_
  exact ZK):P:=h
theorem ZJB {P:Prop} (h:P:=by
  refine Zi he fun he=>?_
  refine Zh he fun r1_ he=>?_
  exact ZFF):P:=h
theorem ZJC {P:Prop} (h:P:=by
  refine Zf he (fun he=>?_) fun he=>?_
  ·exact ZJB
  ·exact ZK):P:=h
theorem Zuk:Zl Tryz.prog 205 Zlq:=by
 refine Zn (C:=ZA3) Tryz.f205 (Zj ZDt Zo) fun _ a b k he=>?_
 unfold Zlq at he;split at he;rotate_left;exact he.elim
 rename_i a0_0 a0_1 a0_2 a0_3 a0_4 a1
 refine Zq he fun he=>?_
 refine ZT (ZkA (a0_0,(a0_1,(a0_2,(a0_3,a0_4))))) (fun i2=>(Zm [(2,.c (.ptr 10001000 0)),(5,.c (.own 10001001 false))],[(10001000,.rc [.int .i64 (a0_0,(a0_1,(a0_2,(a0_3,a0_4)))).1,.imm y0_ (a0_0,(a0_1,(a0_2,(a0_3,a0_4)))).2.1,.imm y0_ (a0_0,(a0_1,(a0_2,(a0_3,a0_4)))).2.2.1,.int .i64 (a0_0,(a0_1,(a0_2,(a0_3,a0_4)))).2.2.2.1,.imm (.sl y0_) (a0_0,(a0_1,(a0_2,(a0_3,a0_4)))).2.2.2.2]),(10001001,.sl 3 y0_ i2 .shallow)])) he ?_ ?_
 ·rintro i2 he
  refine Zf he (fun he=>?_) fun he=>?_
  ·refine Zr (Zoh (a0_0,(a0_1,(a0_2,(a0_3,a0_4)))) i2) (fun (i3,i4)=>(Zm [(2,.c (.ptr 10002000 0)),(5,.c (.own 10002001 false)),(7,.c (.int .i64 i3)),(8,.c (.int .i64 i4))],[(10002000,.rc [.int .i64 (a0_0,(a0_1,(a0_2,(a0_3,a0_4)))).1,.imm y0_ (a0_0,(a0_1,(a0_2,(a0_3,a0_4)))).2.1,.imm y0_ (a0_0,(a0_1,(a0_2,(a0_3,a0_4)))).2.2.1,.int .i64 (a0_0,(a0_1,(a0_2,(a0_3,a0_4)))).2.2.2.1,.imm (.sl y0_) (a0_0,(a0_1,(a0_2,(a0_3,a0_4)))).2.2.2.2]),(10002001,.sl 3 y0_ i2 .shallow)])) he (Za [(10002000,10001000),(10002001,10001001)]) ?_
   rintro⟨i3,i4⟩ _ he
   refine Zf he (fun he=>?_) fun he=>?_
   ·refine And.intro (by kernel_rfl) ?_
    exact ZxC
   ·exact ZK
  ·refine Zf he (fun he=>?_) fun he=>?_
   ·refine Zr (Zhp i2) (fun i5=>(Zm [(5,.c (.own 10003000 false)),(9,.c (.int .i64 i5))],[(10003000,.sl 3 y0_ i2 .shallow)])) he (Za [(10003000,10001001)]) ?_
    rintro i5 _ he
    refine Zf he (fun he=>?_) fun he=>?_
    ·refine Zr (Zhq i2 i5) (fun i6=>(Zm [(5,.c (.own 10004000 false)),(9,.c (.int .i64 i5)),(10,.c (.int .i64 i6))],[(10004000,.sl 3 y0_ i2 .shallow)])) he (Za [(10004000,10003000)]) ?_
     rintro i6 _ he
     refine Zf he (fun he=>?_) fun he=>?_
     ·refine And.intro (by kernel_rfl) ?_
      exact ZFG
     ·refine Zi he fun he=>?_
      exact⟨_,(Zk he :),(Za [(10003000,10004000)])⟩
    ·exact ZK
   ·refine Zf he (fun he=>?_) fun he=>?_
    ·exact ZJA
    ·refine Zr (ZkB (a0_0,(a0_1,(a0_2,(a0_3,a0_4)))) i2) (fun i7=>(Zm [(2,.c (.ptr 10005000 0)),(5,.c (.own 10005001 false)),(11,.c (.int .i64 i7))],[(10005000,.rc [.int .i64 (a0_0,(a0_1,(a0_2,(a0_3,a0_4)))).1,.imm y0_ (a0_0,(a0_1,(a0_2,(a0_3,a0_4)))).2.1,.imm y0_ (a0_0,(a0_1,(a0_2,(a0_3,a0_4)))).2.2.1,.int .i64 (a0_0,(a0_1,(a0_2,(a0_3,a0_4)))).2.2.2.1,.imm (.sl y0_) (a0_0,(a0_1,(a0_2,(a0_3,a0_4)))).2.2.2.2]),(10005001,.sl 3 y0_ i2 .shallow)])) he (Za [(10005000,10001000),(10005001,10001001)]) ?_
     rintro i7 _ he
     exact ZJC
 ·skip
  refine Zr (ZkC (a0_0,(a0_1,(a0_2,(a0_3,a0_4)))) a1) (fun (i,i1)=>(Zm [(1,.c (.imm y0_ a1)),(2,.c (.ptr 10000000 0)),(5,.c (.own 10000001 false)),(6,.c (.int .i64 i))],[(10000000,.rc [.int .i64 (a0_0,(a0_1,(a0_2,(a0_3,a0_4)))).1,.imm y0_ (a0_0,(a0_1,(a0_2,(a0_3,a0_4)))).2.1,.imm y0_ (a0_0,(a0_1,(a0_2,(a0_3,a0_4)))).2.2.1,.int .i64 (a0_0,(a0_1,(a0_2,(a0_3,a0_4)))).2.2.2.1,.imm (.sl y0_) (a0_0,(a0_1,(a0_2,(a0_3,a0_4)))).2.2.2.2]),(10000001,.sl 3 y0_ i1 .shallow)])) he (Za [(10000000,2),(10000001,12)]) ?_
  rintro⟨i,i1⟩ _ he
  refine Zf he (fun he=>?_) fun he=>?_
  ·refine Zi he fun he=>?_
   refine Zi he fun he=>?_
   refine Zi he fun he=>?_
   refine Zi he fun he=>?_
   exact⟨_,(Zk he :),(Za [(10000001,30)])⟩
  ·exact⟨_,(ZcJ he :),(Za [(10001000,10000000),(10001001,10000001)])⟩
def Zqi:Con:=fun
  |[.agg [.imm (.int .i64) m_0,.imm (.pair (.int .i64) (.pair (.sl (.int .i64)) (.pair (.sl (.int .i64)) (.pair (.int .i64) (.sl (.sl (.int .i64))))))) m_1],.c (.imm (.int .i64) cells)],[]=>.opt _ (Zms (m_0,m_1) cells) (fun r=>.ret (.tup [.c (.own 900 false),.c (.bool r.1)]) [(900,.sl 3 y0_ r.2 .shallow)])
  |_,_=>.fail
def ZC8:Cfg:={ y:=tys,n:=41,h:=0,tab:=[] }
theorem ZJD {P:Prop} (h:P:=by
  exact Zy [(4,[]),(5,[])] (Zk he :) (Za [(900,10000001)])):P:=h
theorem ZDu:Zl Tryz.prog 247 Zqi:=by
 refine Zn (C:=ZC8) Tryz.f247 Zo fun _ a b k he=>?_
 unfold Zqi at he;split at he;rotate_left;exact he.elim
 rename_i m_0 m_1 cells
 refine Zq he fun he=>?_
 refine Zi he fun he=>?_
 refine Zi he fun he=>?_
 refine Zr (ZlK (m_0,m_1)) (fun (i,out)=>(Zm [(2,.c (.ptr 10000000 0)),(6,.c (.own 10000001 false)),(7,.c (.int .i64 i))],[(10000000,.rc [.imm y0_ (m_0,m_1).1,.imm y4_ (m_0,m_1).2]),(10000001,.sl 3 y0_ out .shallow)])) he (Za [(10000000,2),(10000001,10)]) ?_
 rintro⟨i,out⟩ _ he
 refine Zf he (fun he=>?_) fun he=>?_
 ·refine And.intro (by kernel_rfl) ?_
  refine Zi he fun he=>?_
  refine Zi he fun he=>?_
  refine Zf he (fun he=>?_) fun he=>?_
  ·refine Zi he fun he=>?_
   refine Zi he fun he=>?_
   refine Zi he fun he=>?_
   exact ZJD
  ·exact Zx7
 ·exact ZJD
def ZnC:Con:=fun
  |[.agg [.imm (.int .i64) a0_0,.imm (.pair (.int .i64) (.pair (.sl (.int .i64)) (.pair (.sl (.int .i64)) (.pair (.int .i64) (.sl (.sl (.int .i64))))))) a0_1],.agg [.int .i64 a1_0,.imm (.int .i64) a1_1,.imm (.int .i64) a1_2,.int .i64 a1_3,.imm (.sl (.int .i64)) a1_4]],[]=>.opt _ (ZmI (a0_0,a0_1) (a1_0,(a1_1,(a1_2,(a1_3,a1_4))))) (fun r=>.ret (.c (.own 900 false)) [(900,.sl 89 y6_ r (.deep true .no))])
  |_,_=>.fail
def ZpF:Sched:=.alt 12 (.first 13 (.alt 14 .done .stop)) .stop
def ZpG:Sched:=.alt 11 ZpF .stop
def ZpH:Sched:=Zv [9,10] ZpG
def ZpI:Sched:=.alt 5 (Zv [7,8] ZpH) .stop
def ZpJ:Sched:=.alt 3 ZpH .stop
def ZpK:Sched:=Zv [9,10] (.alt 1 ZpG (.alt 11 (.alt 1 ZpF .stop) .stop))
def ZpL:Sched:=.first 10 (.alt 11 .done .stop)
def ZkG:Sched:=.alt 11 (.first 12 (.alt 13 (.alt 14 (.first 15 .done) .stop) .stop)) .stop
def ZpM:Sched:=.alt 10 ZkG .stop
def Zop:Sched:=.alt 3 (Zv [5,6] ZkG) .stop
def Zoq:Sched:=.alt 1 ZkG .stop
def Zzw:Cfg:={ y:=tys,n:=100,h:=0,tab:=[(133,Zf5),(189,Zki),(205,Zlq),(247,Zqi)],cut:=[6,16,17,20],deep:=[37,91],sched:=[(5,(Zv [0,2,4,6] (.alt 1 (.alt 3 ZpI (.alt 5 (Zv [7,8] ZpJ) .stop)) (.alt 3 (.alt 1 ZpI (.alt 5 (Zv [7,8] ZpK) .stop)) (.alt 5 (Zv [7,8] (.alt 1 ZpJ (.alt 3 ZpK .stop))) .stop))))),(15,(Zv [0,1,3,6,7,8] (.alt 2 (Zv [4,5] (.alt 9 ZpL .stop)) (.alt 9 (.alt 2 (Zv [4,5] ZpL) .stop) .stop)))),(16,(Zv [0,2,4,7,8,9] (.alt 1 (.alt 3 (Zv [5,6] ZpM) (.alt 10 Zop .stop)) (.alt 3 (Zv [5,6] (.alt 1 ZpM (.alt 10 Zoq .stop))) (.alt 10 (.alt 1 Zop (.alt 3 (Zv [5,6] Zoq) .stop)) .stop)))))] }
theorem ZAv {P:Prop} (h:P:=by
  refine Y4 ?_
  refine⟨r8_,hq2,?_⟩
  refine And.intro hq3 ?_
  refine Y4 ?_
  refine Y4 ?_
  refine And.intro hq4 ?_
  refine Zi he fun he=>?_
  exact⟨_,(Zk he :),(Za [(10008000,10010000),(10008001,10010001),(10008002,10010002),(10008003,10010003),(10008004,10010004),(10008005,10010005),(10008006,79),(10008007,10010007)])⟩):P:=h
theorem ZJE {P:Prop} (h:P:=by
  skip
  refine And.intro hq1 ?_
  refine Y4 ?_
  exact ZAv):P:=h
theorem ZJF {P:Prop} (h:P:=by
  skip
  refine Y4 ?_
  refine And.intro hq1 ?_
  exact ZAv):P:=h
theorem ZJG {P:Prop} (h:P:=by
  refine And.intro hq2 ?_
  refine Y4 ?_
  exact⟨_,he,(Za [(10010000,10008000),(10010001,10008001),(10010002,10008002),(10010003,10008003),(10010004,10008004),(10010005,10008005),(10010006,10008006),(10010007,10008007)])⟩):P:=h
theorem ZJH {P:Prop} (h:P:=by
  refine Zi he fun he=>?_
  exact⟨_,(Zk he :),(Za [(10000003,35)])⟩):P:=h
theorem ZxD {P:Prop} (h:P:=by
  refine Y4 ?_
  refine Y4 ?_
  refine And.intro hq3 ?_
  refine Y4 ?_
  exact ZJH):P:=h
theorem ZJI {P:Prop} (h:P:=by
  skip
  refine Y4 ?_
  refine And.intro hq1 ?_
  refine And.intro hq2 ?_
  exact ZxD):P:=h
theorem ZJJ {P:Prop} (h:P:=by
  refine And.intro hq2 ?_
  refine Y5 ?_ ?_
  ·skip
   exact ZxD
  ·skip
   exact ZxD):P:=h
theorem ZzW:Zl Tryz.prog 193 ZnC:=by
 refine Zn (C:=Zzw) Tryz.f193 (Zj Zk7 (Zj Zth (Zj Zuk (Zj ZDu Zo)))) fun _ a b k he=>?_
 unfold ZnC at he;split at he;rotate_left;exact he.elim
 rename_i a0_0 a0_1 a1_0 a1_1 a1_2 a1_3 a1_4
 refine Zq he fun he=>?_
 refine ZT (Zgs (a0_0,a0_1) (a1_0,(a1_1,(a1_2,(a1_3,a1_4))))) (fun i_01=>(Zm [(2,.c (.ptr 10001000 0)),(3,.c (.ptr 10001001 0)),(5,.c (.ptr 10001002 0))],[(10001000,.rc [.imm y0_ (a0_0,a0_1).1,.imm y4_ (a0_0,a0_1).2]),(10001001,.rc [.int .i64 (a1_0,(a1_1,(a1_2,(a1_3,a1_4)))).1,.imm y0_ (a1_0,(a1_1,(a1_2,(a1_3,a1_4)))).2.1,.imm y0_ (a1_0,(a1_1,(a1_2,(a1_3,a1_4)))).2.2.1,.int .i64 (a1_0,(a1_1,(a1_2,(a1_3,a1_4)))).2.2.2.1,.imm (.sl y0_) (a1_0,(a1_1,(a1_2,(a1_3,a1_4)))).2.2.2.2]),(10001002,.rc [.own 10001003 false,.nil]),(10001003,.sl 3 y0_ i_01 .shallow)])) he ?_ ?_
 ·rintro i_01 he
  refine Zi he fun he=>?_
  refine Zr (Zjg (a0_0,a0_1) (a1_0,(a1_1,(a1_2,(a1_3,a1_4)))) i_01) (fun (i1,i8,i9)=>(Zm [(2,.c (.ptr 10002000 0)),(3,.c (.ptr 10002001 0)),(5,.c (.ptr 10002002 0)),(7,.c (.own 10002003 false)),(8,.c (.own 10002004 false)),(9,.c (.bool i1))],[(10002000,.rc [.imm y0_ (a0_0,a0_1).1,.imm y4_ (a0_0,a0_1).2]),(10002001,.rc [.int .i64 (a1_0,(a1_1,(a1_2,(a1_3,a1_4)))).1,.imm y0_ (a1_0,(a1_1,(a1_2,(a1_3,a1_4)))).2.1,.imm y0_ (a1_0,(a1_1,(a1_2,(a1_3,a1_4)))).2.2.1,.int .i64 (a1_0,(a1_1,(a1_2,(a1_3,a1_4)))).2.2.2.1,.imm (.sl y0_) (a1_0,(a1_1,(a1_2,(a1_3,a1_4)))).2.2.2.2]),(10002002,.rc [.own 10002005 false,.nil]),(10002003,.sl 89 y6_ i8 (.deep true .no)),(10002004,.sl 3 y0_ i9 .shallow),(10002005,.sl 3 y0_ i_01 .shallow)])) he (Za [(10002000,10001000),(10002001,10001001),(10002002,10001002),(10002003,37),(10002004,41),(10002005,10001003)]) ?_
  rintro⟨i1,i8,i9⟩ _ he
  refine Zf he (fun he=>?_) fun he=>?_
  ·refine Zi he fun he=>?_
   refine ZT (Zgt (a1_0,(a1_1,(a1_2,(a1_3,a1_4)))) i_01 i8 i9) (fun (i13,i14)=>(Zm [(2,.c (.ptr 10011000 0)),(3,.c (.ptr 10011001 0)),(5,.c (.ptr 10011002 0)),(7,.c (.own 10011003 false)),(8,.c (.own 10011004 false)),(10,.c (.own 10011005 false)),(11,.c (.own 10011006 false))],[(10011000,.rc [.imm y0_ (a0_0,a0_1).1,.imm y4_ (a0_0,a0_1).2]),(10011001,.rc [.int .i64 (a1_0,(a1_1,(a1_2,(a1_3,a1_4)))).1,.imm y0_ (a1_0,(a1_1,(a1_2,(a1_3,a1_4)))).2.1,.imm y0_ (a1_0,(a1_1,(a1_2,(a1_3,a1_4)))).2.2.1,.int .i64 (a1_0,(a1_1,(a1_2,(a1_3,a1_4)))).2.2.2.1,.imm (.sl y0_) (a1_0,(a1_1,(a1_2,(a1_3,a1_4)))).2.2.2.2]),(10011002,.rc [.own 10011007 false,.nil]),(10011003,.sl 89 y6_ i8 (.deep true .no)),(10011004,.sl 3 y0_ i9 .shallow),(10011005,.sl 3 y0_ i13 .shallow),(10011006,.sl 3 y0_ i14 .shallow),(10011007,.sl 3 y0_ i_01 .shallow)])) he ?_ ?_
   ·rintro⟨i13,i14⟩ he
    refine ZT (Zgu i_01 i9) (fun i15=>(Zm [(2,.c (.ptr 10012000 0)),(3,.c (.ptr 10012001 0)),(5,.c (.ptr 10012002 0)),(7,.c (.own 10012003 false)),(8,.c (.own 10012004 false))],[(10012000,.rc [.imm y0_ (a0_0,a0_1).1,.imm y4_ (a0_0,a0_1).2]),(10012001,.rc [.int .i64 (a1_0,(a1_1,(a1_2,(a1_3,a1_4)))).1,.imm y0_ (a1_0,(a1_1,(a1_2,(a1_3,a1_4)))).2.1,.imm y0_ (a1_0,(a1_1,(a1_2,(a1_3,a1_4)))).2.2.1,.int .i64 (a1_0,(a1_1,(a1_2,(a1_3,a1_4)))).2.2.2.1,.imm (.sl y0_) (a1_0,(a1_1,(a1_2,(a1_3,a1_4)))).2.2.2.2]),(10012002,.rc [.own 10012005 false,.nil]),(10012003,.sl 89 y6_ i15 (.deep true .no)),(10012004,.sl 3 y0_ i9 .shallow),(10012005,.sl 3 y0_ i_01 .shallow)])) he ?_ ?_
    ·rintro i15 he
     refine Zh he fun r11_ he=>?_
     exact⟨_,(Zk he :),(Za [(10002000,10012000),(10002001,10012001),(10002002,10012002),(10002003,10012003),(10002004,97900),(10002005,10012005)])⟩
    ·skip
     refine Zh he fun r9_ he=>?_
     refine Zf he (fun he=>?_) fun he=>?_
     ·refine Zh he fun r10_ he=>?_
      refine Zi he fun he=>?_
      exact⟨_,he,(Za [(10012000,10011000),(10012001,10011001),(10012002,10011002),(10012003,92),(10012004,10011004),(10012005,10011007)])⟩
     ·exact⟨_,he,(Za [(10012000,10011000),(10012001,10011001),(10012002,10011002),(10012003,10011003),(10012004,10011004),(10012005,10011007)])⟩
   ·skip
    refine Zr (Zjh (a0_0,a0_1) (a1_0,(a1_1,(a1_2,(a1_3,a1_4)))) i_01 i8 i9) (fun (i10,i11,i12)=>(Zm [(2,.c (.ptr 10008000 0)),(3,.c (.ptr 10008001 0)),(5,.c (.ptr 10008002 0)),(7,.c (.own 10008003 false)),(8,.c (.own 10008004 false)),(10,.c (.own 10008005 false)),(11,.c (.own 10008006 false)),(12,.c (.int .i64 i10))],[(10008000,.rc [.imm y0_ (a0_0,a0_1).1,.imm y4_ (a0_0,a0_1).2]),(10008001,.rc [.int .i64 (a1_0,(a1_1,(a1_2,(a1_3,a1_4)))).1,.imm y0_ (a1_0,(a1_1,(a1_2,(a1_3,a1_4)))).2.1,.imm y0_ (a1_0,(a1_1,(a1_2,(a1_3,a1_4)))).2.2.1,.int .i64 (a1_0,(a1_1,(a1_2,(a1_3,a1_4)))).2.2.2.1,.imm (.sl y0_) (a1_0,(a1_1,(a1_2,(a1_3,a1_4)))).2.2.2.2]),(10008002,.rc [.own 10008007 false,.nil]),(10008003,.sl 89 y6_ i8 (.deep true .no)),(10008004,.sl 3 y0_ i9 .shallow),(10008005,.sl 3 y0_ i11 .shallow),(10008006,.sl 3 y0_ i12 .shallow),(10008007,.sl 3 y0_ i_01 .shallow)])) he (Za [(10008000,10002000),(10008001,10002001),(10008002,10002002),(10008003,10002003),(10008004,10002004),(10008005,46),(10008006,47),(10008007,10002005)]) ?_
    rintro⟨i10,i11,i12⟩ _ he
    refine Zf he (fun he=>?_) fun he=>?_
    ·refine ZT (Zm7 (a0_0,a0_1) (a1_0,(a1_1,(a1_2,(a1_3,a1_4)))) i9 i10 i11 i12) (fun _=>(Zm [(2,.c (.ptr 10010000 0)),(3,.c (.ptr 10010001 0)),(5,.c (.ptr 10010002 0)),(7,.c (.own 10010003 false)),(8,.c (.own 10010004 false)),(10,.c (.own 10010005 false)),(11,.c (.own 10010006 false)),(12,.c (.int .i64 i10))],[(10010000,.rc [.imm y0_ (a0_0,a0_1).1,.imm y4_ (a0_0,a0_1).2]),(10010001,.rc [.int .i64 (a1_0,(a1_1,(a1_2,(a1_3,a1_4)))).1,.imm y0_ (a1_0,(a1_1,(a1_2,(a1_3,a1_4)))).2.1,.imm y0_ (a1_0,(a1_1,(a1_2,(a1_3,a1_4)))).2.2.1,.int .i64 (a1_0,(a1_1,(a1_2,(a1_3,a1_4)))).2.2.2.1,.imm (.sl y0_) (a1_0,(a1_1,(a1_2,(a1_3,a1_4)))).2.2.2.2]),(10010002,.rc [.own 10010007 false,.nil]),(10010003,.sl 89 y6_ i8 (.deep true .no)),(10010004,.sl 3 y0_ i9 .shallow),(10010005,.sl 3 y0_ (i11.set ((a1_0,(a1_1,(a1_2,(a1_3,a1_4)))).2.1.getD i10.toNat 0).toNat (i9.getD i10.toNat 0)) .shallow),(10010006,.sl 3 y0_ i12 .shallow),(10010007,.sl 3 y0_ i_01 .shallow)])) he ?_ ?_
     ·rintro⟨⟩ he
      refine And.intro (by kernel_rfl) ?_
      refine Zi he fun he=>?_
      obtain⟨hq1,he⟩:=ZG he
      obtain⟨r8_,hq2,he⟩:=Z5 he
      obtain⟨hq3,he⟩:=ZG he
      obtain⟨hq4,he⟩:=ZG he
      refine And.intro ?_ (And.intro ?_ (And.intro ?_ (Y1)))
      ·skip
       refine Y5 ?_ ?_
       ·exact ZJE
       ·exact ZJF
      ·skip
       refine And.intro hq1 ?_
       refine Y5 ?_ ?_
       ·skip
        refine Y4 ?_
        exact ZAv
       ·skip
        refine Y4 ?_
        exact ZAv
      ·skip
       refine Y5 ?_ ?_
       ·exact ZJF
       ·exact ZJE
     ·skip
      refine And.intro (by kernel_rfl) ?_
      refine Zi he fun he=>?_
      obtain⟨hq1,he⟩:=ZG he
      obtain⟨hq2,he⟩:=ZG he
      refine Y5 ?_ ?_
      ·skip
       refine And.intro hq1 ?_
       refine Y4 ?_
       exact ZJG
      ·skip
       refine Y4 ?_
       refine And.intro hq1 ?_
       exact ZJG
    ·exact⟨_,(ZcJ he :),(Za [(10011000,10008000),(10011001,10008001),(10011002,10008002),(10011003,10008003),(10011004,10008004),(10011005,10008005),(10011006,10008006),(10011007,10008007)])⟩
  ·exact Zy [(4,[])] (Zk he :) (Za [(900,10002003)])
 ·skip
  refine Zr (Zgv (a0_0,a0_1) (a1_0,(a1_1,(a1_2,(a1_3,a1_4))))) (fun (i,i_0)=>(Zm [(2,.c (.ptr 10000000 0)),(3,.c (.ptr 10000001 0)),(5,.c (.ptr 10000002 0)),(6,.c (.int .i64 i))],[(10000000,.rc [.imm y0_ (a0_0,a0_1).1,.imm y4_ (a0_0,a0_1).2]),(10000001,.rc [.int .i64 (a1_0,(a1_1,(a1_2,(a1_3,a1_4)))).1,.imm y0_ (a1_0,(a1_1,(a1_2,(a1_3,a1_4)))).2.1,.imm y0_ (a1_0,(a1_1,(a1_2,(a1_3,a1_4)))).2.2.1,.int .i64 (a1_0,(a1_1,(a1_2,(a1_3,a1_4)))).2.2.2.1,.imm (.sl y0_) (a1_0,(a1_1,(a1_2,(a1_3,a1_4)))).2.2.2.2]),(10000002,.rc [.own 10000003 false,.nil]),(10000003,.sl 3 y0_ i_0 .shallow)])) he (Za [(10000000,2),(10000001,3),(10000002,5)]) ?_
  rintro⟨i,i_0⟩ _ he
  refine Zf he (fun he=>?_) fun he=>?_
  ·refine And.intro (by kernel_rfl) ?_
   obtain⟨hq1,he⟩:=ZG he
   obtain⟨hq2,he⟩:=ZG he
   obtain⟨hq3,he⟩:=ZG he
   refine And.intro ?_ (And.intro ?_ (And.intro ?_ (Y1)))
   ·skip
    refine Y5 ?_ ?_
    ·exact ZJI
    ·skip
     refine And.intro hq1 ?_
     refine Y4 ?_
     refine And.intro hq2 ?_
     exact ZxD
   ·skip
    refine Y5 ?_ ?_
    ·exact ZJI
    ·skip
     refine And.intro hq1 ?_
     exact ZJJ
   ·skip
    refine And.intro hq1 ?_
    refine Y5 ?_ ?_
    ·skip
     refine Y4 ?_
     refine And.intro hq2 ?_
     exact ZxD
    ·skip
     exact ZJJ
  ·exact⟨_,(ZcJ he :),(Za [(10001000,10000000),(10001001,10000001),(10001002,10000002),(10001003,10000003)])⟩
def Zqm:Con:=fun
  |[.agg [.imm (.int .i64) m_0,.imm (.pair (.int .i64) (.pair (.sl (.int .i64)) (.pair (.sl (.int .i64)) (.pair (.int .i64) (.sl (.sl (.int .i64))))))) m_1],.agg [.int .i64 r__0,.imm (.int .i64) r__1,.imm (.int .i64) r__2,.int .i64 r__3,.imm (.sl (.int .i64)) r__4]],[]=>.opt _ (Zpl (m_0,m_1) (r__0,(r__1,(r__2,(r__3,r__4))))) (fun r=>.ret (.c (.own 900 false)) [(900,.sl 89 y6_ r (.deep true .no))])
  |_,_=>.fail
def ZDd:Cfg:={ y:=tys,n:=20,h:=0,tab:=[(191,ZnD),(192,ZkW),(193,ZnC)] }
theorem ZDy:Zl Tryz.prog 132 Zqm:=by
 refine Zn (C:=ZDd) Tryz.f132 (Zj ZzX (Zj Zw2 (Zj ZzW Zo))) fun _ a b k he=>?_
 unfold Zqm at he;split at he;rotate_left;exact he.elim
 rename_i m_0 m_1 r__0 r__1 r__2 r__3 r__4
 refine Zq he fun he=>?_
 refine Zf he (fun he=>?_) fun he=>?_
 ·refine Zh he fun r1_ he=>?_
  exact Zy [(4,[])] (Zk he :) (Za [(900,12900)])
 ·refine Zf he (fun he=>?_) fun he=>?_
  ·refine Zh he fun r2_ he=>?_
   exact Zy [(4,[])] (Zk he :) (Za [(900,17900)])
  ·refine Zh he fun r3_ he=>?_
   exact Zy [(4,[])] (Zk he :) (Za [(900,20900)])
end
end Go.AE.Y
