/-
  Walks: each function keeps the contract that its model gives. No conditions.
-/
import Derived.Test.YtaeeiddjpigemaaGreatR8Tab
import Derived.Test.YtaeeiddjpigemaaGreatR8W4
import Derived.Test.YtaeeiddjpigemaaGreatR8S
namespace Go.AE.Y
open Go Go.AE Go.Proofs
set_option linter.unusedVariables false
set_option maxHeartbeats 2000000
set_option maxRecDepth 100000
noncomputable section
def Zr4:Con:=fun
  |[.agg [.imm (.int .i64) m_0,.imm (.pair (.int .i64) (.pair (.sl (.int .i64)) (.pair (.sl (.int .i64)) (.pair (.int .i64) (.sl (.sl (.int .i64))))))) m_1],.agg [.int .i64 r__0,.imm (.int .i64) r__1,.imm (.int .i64) r__2,.int .i64 r__3,.imm (.sl (.int .i64)) r__4]],[]=>.opt _ (Zq7 (m_0,m_1) (r__0,(r__1,(r__2,(r__3,r__4))))) (fun r=>.ret (.c (.bool r)) [])
  |_,_=>.fail
def ZED:Cfg:={ y:=tys,n:=55,h:=0,tab:=[(243,Zr5),(244,ZpN),(245,ZqC)],cut:=[3] }
theorem ZLM {P:Prop} (h:P:=by
  refine Zh he (fun he=>?_) fun he=>?_
  ·refine Zh he (fun he=>?_) fun he=>?_
   ·exact Zbd
   ·exact⟨_,he,(Za [(10000000,3)])⟩
  ·exact⟨_,he,(Za [(10000000,3)])⟩):P:=h
theorem ZES:Zn Tryz.prog 188 Zr4:=by
 refine Zq (C:=ZED) Tryz.f188 (Zk ZET (Zk ZBE (Zk ZC5 Zr))) fun _ a b k he=>?_
 unfold Zr4 at he;split at he;rotate_left;exact he.elim
 rename_i m_0 m_1 r__0 r__1 r__2 r__3 r__4
 refine Zs he fun he=>?_
 refine ZN (ZfP (r__0,(r__1,(r__2,(r__3,r__4))))) (fun _=>(Zm [(3,.c (.ptr 10000000 0))],[(10000000,.rc [.int .i64 (r__0,(r__1,(r__2,(r__3,r__4)))).1,.imm y0_ (r__0,(r__1,(r__2,(r__3,r__4)))).2.1,.imm y0_ (r__0,(r__1,(r__2,(r__3,r__4)))).2.2.1,.int .i64 (r__0,(r__1,(r__2,(r__3,r__4)))).2.2.2.1,.imm (.sl y0_) (r__0,(r__1,(r__2,(r__3,r__4)))).2.2.2.2])])) he ?_ ?_
 ·rintro⟨⟩ he
  refine Zh he (fun he=>?_) fun he=>?_
  ·exact ZHf
  ·refine Zh he (fun he=>?_) fun he=>?_
   ·exact Zbd
   ·refine Zh he (fun he=>?_) fun he=>?_
    ·refine Zi he fun r3_ he=>?_
     exact Zbd
    ·refine Zh he (fun he=>?_) fun he=>?_
     ·exact Zbd
     ·exact Zbd
 ·skip
  refine Zi he fun r1_ he=>?_
  refine ZD he (fun he=>?_) fun he=>?_
  ·refine Zh he (fun he=>?_) fun he=>?_
   ·refine ZD he (fun he=>?_) fun he=>?_
    ·refine ZD he (fun he=>?_) fun he=>?_
     ·exact ZLM
     ·exact Zbd
    ·exact Zbd
   ·exact ZLM
  ·exact Zbd
def ZgJ:Con:=fun
  |[.agg [.imm (.int .i64) a0_0,.imm (.pair (.int .i64) (.pair (.sl (.int .i64)) (.pair (.sl (.int .i64)) (.pair (.int .i64) (.sl (.sl (.int .i64))))))) a0_1]],[]=>.opt _ (Zgw (a0_0,a0_1)) (fun r=>.ret (.c (.bool r)) [])
  |_,_=>.fail
def ZpC:Sched:=.alt 6 (.first 7 .done) .stop
def ZzS:Cfg:={ y:=tys,n:=74,h:=0,tab:=[(188,Zr4)],cut:=[8],sched:=[(13,(ZB [1,3] (.alt 0 (.alt 2 (ZB [4,5] ZpC) .stop) (.alt 2 (ZB [4,5] (.alt 0 ZpC .stop)) .stop))))] }
theorem ZnT:Zn Tryz.prog 130 ZgJ:=by
 refine Zq (C:=ZzS) Tryz.f130 (Zk ZES Zr) fun _ a b k he=>?_
 unfold ZgJ at he;split at he;rotate_left;exact he.elim
 rename_i a0_0 a0_1
 refine Zs he fun he=>?_
 refine ZN (Zgj (a0_0,a0_1)) (fun i2=>(Zm [(1,.c (.ptr 10001000 0)),(3,.c (.int .i64 i2))],[(10001000,.rc [.imm y0_ (a0_0,a0_1).1,.imm y5_ (a0_0,a0_1).2])])) he ?_ ?_
 ·rintro i2 he
  refine ZD he (fun he=>?_) fun he=>?_
  ·refine ZD he (fun he=>?_) fun he=>?_
   ·refine ZD he (fun he=>?_) fun he=>?_
    ·refine Zh he (fun he=>?_) fun he=>?_
     ·exact ZL
     ·refine Zp (Zjd (a0_0,a0_1)) (fun i3=>(Zm [(1,.c (.ptr 10002000 0)),(5,.c (.int .i64 i3))],[(10002000,.rc [.imm y0_ (a0_0,a0_1).1,.imm y5_ (a0_0,a0_1).2])])) he (Za [(10002000,10001000)]) ?_
      rintro i3 _ he
      refine Zh he (fun he=>?_) fun he=>?_
      ·refine And.intro (by kernel_rfl) ?_
       obtain⟨hq1,he⟩:=ZP he
       obtain⟨r2_,hq2,he⟩:=ZX he
       refine Y5 ?_ ?_
       ·skip
        refine Y4 ?_
        refine And.intro hq1 ?_
        refine Y4 ?_
        refine⟨r2_,hq2,?_⟩
        exact ZvQ
       ·skip
        refine And.intro hq1 ?_
        refine Y4 ?_
        refine Y4 ?_
        refine⟨r2_,hq2,?_⟩
        exact ZvQ
      ·exact ZL
    ·exact ZL
   ·exact ZL
  ·exact ZL
 ·skip
  refine Zp (Zm7 (a0_0,a0_1)) (fun (i,i1)=>(Zm [(1,.c (.ptr 10000000 0)),(3,.c (.int .i64 i)),(4,.c (.int .i64 i1))],[(10000000,.rc [.imm y0_ (a0_0,a0_1).1,.imm y5_ (a0_0,a0_1).2])])) he (Za [(10000000,1)]) ?_
  rintro⟨i,i1⟩ _ he
  refine Zh he (fun he=>?_) fun he=>?_
  ·refine Zh he (fun he=>?_) fun he=>?_
   ·refine Zg he fun he=>?_
    refine ZD he (fun he=>?_) fun he=>?_
    ·refine Zg he fun he=>?_
     refine Zh he (fun he=>?_) fun he=>?_
     ·exact ZL
     ·exact ZtN
    ·exact ZL
   ·exact⟨_,(Zbp he :),(Za [(10001000,10000000)])⟩
  ·exact⟨_,(Zbp he :),(Za [(10001000,10000000)])⟩
def Zf5:Con:=fun
  |[.agg [.imm (.int .i64) m_0,.imm (.pair (.int .i64) (.pair (.sl (.int .i64)) (.pair (.sl (.int .i64)) (.pair (.int .i64) (.sl (.sl (.int .i64))))))) m_1],.c (.int .i64 cell),.c (.int .i64 value)],[]=>.opt _ (Zhn (m_0,m_1) cell value) (fun r=>.ret (.c (.int .i64 r)) [])
  |_,_=>.fail
def ZFm:Cfg:={ y:=tys,n:=25,h:=0,tab:=[] }
theorem Zkg:Zn Tryz.prog 133 Zf5:=by
 refine Zq (C:=ZFm) Tryz.f133 Zr fun _ a b k he=>?_
 unfold Zf5 at he;split at he;rotate_left;exact he.elim
 rename_i m_0 m_1 cell value
 refine Zs he fun he=>?_
 refine Zg he fun he=>?_
 refine Zp (Zsg (m_0,m_1) cell) (fun (n,i)=>(Zm [(1,.c (.int .i64 cell)),(3,.c (.ptr 10000000 0)),(7,.c (.int .i64 n)),(8,.c (.int .i64 i))],[(10000000,.rc [.imm y0_ (m_0,m_1).1,.imm y5_ (m_0,m_1).2])])) he (Za [(10000000,3)]) ?_
 rintro⟨n,i⟩ _ he
 refine Zh he (fun he=>?_) fun he=>?_
 ·exact ZtN
 ·exact Zt [(6,[])] (Zj he :) (Za [])
def ZpM:Con:=fun
  |[.c (.int .i64 n)],[]=>.opt _ (Zqa n) (fun r=>.ret (.c (.bool r)) [])
  |_,_=>.fail
def ZFl:Cfg:={ y:=tys,n:=13,h:=0,tab:=[] }
theorem ZLN {P:Prop} (h:P:=by
  refine Zh he (fun he=>?_) fun he=>?_
  ·exact Z5
  ·exact Z5):P:=h
theorem Zyu:Zn Tryz.prog 228 ZpM:=by
 refine Zq (C:=ZFl) Tryz.f228 Zr fun _ a b k he=>?_
 unfold ZpM at he;split at he;rotate_left;exact he.elim
 rename_i n
 refine Zs he fun he=>?_
 refine Zh he (fun he=>?_) fun he=>?_
 ·exact ZLN
 ·exact Z5
def ZpL:Con:=fun
  |[.c (.int .i64 n)],[]=>.opt _ (Znw n) (fun r=>.ret (.c (.int .i64 r)) [])
  |_,_=>.fail
def ZFk:Cfg:={ y:=tys,n:=8,h:=0,tab:=[] }
theorem Zyt:Zn Tryz.prog 229 ZpL:=by
 refine Zq (C:=ZFk) Tryz.f229 Zr fun _ a b k he=>?_
 unfold ZpL at he;split at he;rotate_left;exact he.elim
 rename_i n
 refine Zs he fun he=>?_
 refine Zh he (fun he=>?_) fun he=>?_
 ·exact ZCr
 ·exact Z5
def ZiX:Con:=fun
  |[.c (.imm (.int .i64) a0)],[]=>.opt _ (ZiP a0) (fun r=>.ret (.tup [.agg [.own 901 false,.int .i64 r.2.1],.c (.bool r.1)]) [(900,.rc [.own 901 false,.int .i64 r.2.1]),(901,.sl 155 y6_ r.2.2 .shallow)])
  |_,_=>.fail
def Zrf:Sched:=.alt 8 (.first 9 (.alt 10 .done .stop)) .stop
def Zrg:Sched:=.alt 7 Zrf .stop
def Zrh:Sched:=.alt 6 Zrg .stop
def ZBb:Cfg:={ y:=tys,n:=71,h:=0,tab:=[(228,ZpM),(229,ZpL)],cut:=[13],sched:=[(18,(ZB [0,2,3,4] (.alt 1 (.alt 5 Zrh .stop) (.alt 5 (.alt 1 Zrh (.alt 6 (.alt 1 Zrg (.alt 7 (.alt 1 Zrf .stop) .stop)) .stop)) .stop))))] }
theorem ZCz {P:Prop} (h:P:=by
  refine Y4 ?_
  refine Y4 ?_
  refine And.intro hq1 ?_
  refine Y4 ?_
  refine Zg he fun he=>?_
  exact⟨_,(Zj he :),(Za [(10002003,68)])⟩):P:=h
theorem Zp3:Zn Tryz.prog 189 ZiX:=by
 refine Zq (C:=ZBb) Tryz.f189 (Zk Zyu (Zk Zyt Zr)) fun _ a b k he=>?_
 unfold ZiX at he;split at he;rotate_left;exact he.elim
 rename_i a0
 refine Zs he fun he=>?_
 refine Zg he fun he=>?_
 refine Zh he (fun he=>?_) fun he=>?_
 ·exact ZtR
 ·refine ZN (Zo5) (fun i2=>(Zm [(2,.c (.ptr 10001000 0)),(4,.c (.own 10001001 false))],[(10001000,.rc [.nil,.int .i64 (0:Int)]),(10001001,.sl 3 y0_ i2 .shallow)])) he ?_ ?_
  ·rintro i2 he
   refine Zp (ZhZ i2) (fun (i3,i_0)=>(Zm [(2,.c (.ptr 10002000 0)),(4,.c (.own 10002001 false)),(7,.c (.ptr 10002002 0)),(8,.c (.int .i64 i3))],[(10002000,.rc [.nil,.int .i64 (0:Int)]),(10002001,.sl 3 y0_ i2 .shallow),(10002002,.rc [.own 10002003 false,.int .i64 (1:Int)]),(10002003,.sl 155 y6_ i_0 .shallow)])) he (Za [(10002000,10001000),(10002001,10001001),(10002002,7)]) ?_
   rintro⟨i3,i_0⟩ _ he
   refine Zh he (fun he=>?_) fun he=>?_
   ·refine Zg he fun he=>?_
    refine Zh he (fun he=>?_) fun he=>?_
    ·refine And.intro (by kernel_rfl) ?_
     refine Zg he fun he=>?_
     obtain⟨hq1,he⟩:=ZP he
     refine Y5 ?_ ?_
     ·skip
      refine Y4 ?_
      refine Y4 ?_
      exact ZCz
     ·skip
      refine Y5 ?_ ?_
      ·skip
       refine Y4 ?_
       exact ZCz
      ·skip
       refine Y5 ?_ ?_
       ·skip
        exact ZCz
       ·skip
        exact ZCz
    ·exact ZdH
   ·exact Zt [(2,[900]),(3,[])] (Zj he :) (Za [(900,10002000),(901,10002003)])
  ·skip
   refine Zp (Zk7 a0) (fun (i,i1)=>(Zm [(0,.c (.imm y0_ a0)),(2,.c (.ptr 10000000 0)),(4,.c (.own 10000001 false)),(5,.c (.int .i64 i))],[(10000000,.rc [.nil,.int .i64 (0:Int)]),(10000001,.sl 3 y0_ i1 .shallow)])) he (Za [(10000000,2),(10000001,9)]) ?_
   rintro⟨i,i1⟩ _ he
   refine Zh he (fun he=>?_) fun he=>?_
   ·refine Zg he fun he=>?_
    refine Zi he fun r3_ he=>?_
    refine Zh he (fun he=>?_) fun he=>?_
    ·exact ZCs
    ·refine Zg he fun he=>?_
     refine Zi he fun r4_ he=>?_
     refine And.intro (by kernel_rfl) ?_
     refine Zg he fun he=>?_
     refine Zg he fun he=>?_
     refine Zg he fun he=>?_
     refine Zh he (fun he=>?_) fun he=>?_
     ·exact ZCs
     ·exact ZvF
   ·exact⟨_,(Zbp he :),(Za [(10001000,10000000),(10001001,10000001)])⟩
def Zox:Con:=fun
  |[.c (.imm (.int .i64) vars)],[]=>.opt _ (Zoq vars) (fun r=>.ret (.agg [.own 901 false,.int .i64 r.1]) [(900,.rc [.own 901 false,.int .i64 r.1]),(901,.sl 155 y6_ r.2 .shallow)])
  |_,_=>.fail
def Ztk:Sched:=.alt 9 (.first 10 (.alt 11 .done .stop)) .stop
def Ztl:Sched:=.alt 8 Ztk .stop
def ZEG:Cfg:={ y:=tys,n:=27,h:=0,tab:=[],sched:=[(5,(ZB [0,2,3,4,5,6] (.alt 1 (.alt 7 Ztl .stop) (.alt 7 (.alt 1 Ztl (.alt 8 (.alt 1 Ztk .stop) .stop)) .stop))))] }
theorem ZHo {P:Prop} (h:P:=by
  refine Y4 ?_
  refine Y4 ?_
  refine And.intro hq1 ?_
  refine Y4 ?_
  refine Zg he fun he=>?_
  exact⟨_,(Zj he :),(Za [(10000002,24)])⟩):P:=h
theorem Zw9:Zn Tryz.prog 190 Zox:=by
 refine Zq (C:=ZEG) Tryz.f190 Zr fun _ a b k he=>?_
 unfold Zox at he;split at he;rotate_left;exact he.elim
 rename_i vars
 refine Zs he fun he=>?_
 refine Zg he fun he=>?_
 refine Zp (Zkp vars) (fun (i,c_0)=>(Zm [(0,.c (.imm y0_ vars)),(2,.c (.ptr 10000000 0)),(3,.c (.ptr 10000001 0)),(4,.c (.int .i64 i))],[(10000000,.rc [.nil,.int .i64 (0:Int)]),(10000001,.rc [.own 10000002 false,.int .i64 ((vars.length:Int) - (1:Int))]),(10000002,.sl 155 y6_ c_0 .shallow)])) he (Za [(10000000,2),(10000001,3)]) ?_
 rintro⟨i,c_0⟩ _ he
 refine Zh he (fun he=>?_) fun he=>?_
 ·refine And.intro (by kernel_rfl) ?_
  refine Zg he fun he=>?_
  refine Zg he fun he=>?_
  obtain⟨hq1,he⟩:=ZP he
  refine Y5 ?_ ?_
  ·skip
   refine Y4 ?_
   exact ZHo
  ·skip
   refine Y5 ?_ ?_
   ·skip
    exact ZHo
   ·skip
    exact ZHo
 ·exact Zt [(2,[900])] (Zj he :) (Za [(900,10000000),(901,10000002)])
def Zr6:Con:=fun
  |[.agg [.imm (.int .i64) m_0,.imm (.pair (.int .i64) (.pair (.sl (.int .i64)) (.pair (.sl (.int .i64)) (.pair (.int .i64) (.sl (.sl (.int .i64))))))) m_1],.c (.int .i64 cell)],[]=>.opt _ (Zq9 (m_0,m_1) cell) (fun r=>.ret (.c (.own 900 false)) [(900,.sl 89 y7_ r (.deep true .no))])
  |_,_=>.fail
def Ztj:Sched:=.alt 3 (.first 4 .done) .stop
def ZEF:Cfg:={ y:=tys,n:=35,h:=0,tab:=[(133,Zf5),(189,ZiX),(190,Zox)],cut:=[6],deep:=[34],sched:=[(7,(.first 1 (.alt 0 (.alt 2 Ztj .stop) (.alt 2 (.alt 0 Ztj .stop) .stop))))] }
theorem ZLO {P:Prop} (h:P:=by
  refine Y4 ?_
  exact Zt [(4,[])] (Zj he :) (Za [(900,34)])):P:=h
theorem ZEU:Zn Tryz.prog 131 Zr6:=by
 refine Zq (C:=ZEF) Tryz.f131 (Zk Zkg (Zk Zp3 (Zk Zw9 Zr))) fun _ a b k he=>?_
 unfold Zr6 at he;split at he;rotate_left;exact he.elim
 rename_i m_0 m_1 cell
 refine Zs he fun he=>?_
 refine ZN (Zkn) (fun vars1=>(Zm [(5,.c (.own 10001000 false))],[(10001000,.sl 3 y0_ vars1 .shallow)])) he ?_ ?_
 ·rintro vars1 he
  refine Zi he fun r3_ he=>?_
  refine And.intro (by kernel_rfl) ?_
  obtain⟨r5_,hq1,he⟩:=ZX he
  refine Y5 ?_ ?_
  ·skip
   refine Y4 ?_
   refine⟨r5_,hq1,?_⟩
   exact ZLO
  ·skip
   refine⟨r5_,hq1,?_⟩
   refine Y4 ?_
   exact ZLO
 ·skip
  refine Zp (Zko (m_0,m_1) cell) (fun (k_,vars)=>(Zm [(1,.c (.int .i64 cell)),(2,.c (.ptr 10000000 0)),(5,.c (.own 10000001 false)),(6,.c (.int .i64 k_))],[(10000000,.rc [.imm y0_ (m_0,m_1).1,.imm y5_ (m_0,m_1).2]),(10000001,.sl 3 y0_ vars .shallow)])) he (Za [(10000000,2),(10000001,9)]) ?_
  rintro⟨k_,vars⟩ _ he
  refine Zg he fun he=>?_
  refine Zh he (fun he=>?_) fun he=>?_
  ·refine Zi he fun r2_ he=>?_
   refine Zg he fun he=>?_
   refine Zg he fun he=>?_
   exact⟨_,(Zj he :),(Za [(10000001,25)])⟩
  ·exact⟨_,(Zbp he :),(Za [(10001000,10000001)])⟩
def ZfS:Con:=fun
  |[.agg [.imm (.pair (.int .i64) (.int .i64)) c__0,.int .i64 c__1]],[]=>.opt _ (Zfl (c__0,c__1)) (fun r=>.ret (.c (.bool r)) [])
  |_,_=>.fail
def Zma:Sched:=.alt 28 (ZB [29,30,31] .done) .stop
def Zmb:Sched:=.alt 25 Zma .stop
def ZuH:Cfg:={ y:=tys,n:=57,h:=0,tab:=[(228,ZpM),(229,ZpL)],sched:=[(5,(.first 0 (.alt 1 (.alt 2 (ZB [3,4,5] (.alt 6 (ZB [7,8,9,10] (.alt 11 (ZB [12,13,14,15,16,17,18,20,21,26] (.alt 19 (ZB [22,23,24] (.alt 25 (.alt 27 Zma .stop) (.alt 27 Zmb .stop))) (.alt 27 (.alt 19 (ZB [22,23,24] Zmb) .stop) .stop))) .stop)) .stop)) .stop) .stop)))] }
theorem ZLP {P:Prop} (h:P:=by
  refine Y4 ?_
  refine⟨r5_,hq2,?_⟩
  refine Y4 ?_
  refine⟨r6_,hq3,?_⟩
  exact ZvQ):P:=h
theorem Zzk {P:Prop} (h:P:=by
  refine Y4 ?_
  exact ZL):P:=h
theorem ZHp {P:Prop} (h:P:=by
  skip
  refine Y4 ?_
  exact Zzk):P:=h
theorem ZHq {P:Prop} (h:P:=by
  refine Y5 ?_ ?_
  ·skip
   refine Y5 ?_ ?_
   ·exact ZHp
   ·exact ZHp
  ·skip
   refine Y4 ?_
   refine Y4 ?_
   exact Zzk):P:=h
theorem Zon:Zn Tryz.prog 168 ZfS:=by
 refine Zq (C:=ZuH) Tryz.f168 (Zk Zyu (Zk Zyt Zr)) fun _ a b k he=>?_
 unfold ZfS at he;split at he;rotate_left;exact he.elim
 rename_i c__0 c__1
 refine Zs he fun he=>?_
 refine Zp (Zfx (c__0,c__1)) (fun i=>(Zm [(1,.c (.ptr 10000000 0)),(3,.c (.int .i64 i))],[(10000000,.rc [.imm y6_ (c__0,c__1).1,.int .i64 (c__0,c__1).2])])) he (Za [(10000000,1)]) ?_
 rintro i _ he
 refine Zh he (fun he=>?_) fun he=>?_
 ·refine Zg he fun he=>?_
  refine And.intro (by kernel_rfl) ?_
  refine Y4 ?_
  refine Y4 ?_
  refine Zi he fun r4_ he=>?_
  refine ZD he (fun he=>?_) fun he=>?_
  ·refine Y4 ?_
   refine ZD he (fun he=>?_) fun he=>?_
   ·refine Y4 ?_
    refine ZD he (fun he=>?_) fun he=>?_
    ·refine Zh he (fun he=>?_) fun he=>?_
     ·refine Zg he fun he=>?_
      obtain⟨hq1,he⟩:=ZP he
      obtain⟨r5_,hq2,he⟩:=ZX he
      obtain⟨r6_,hq3,he⟩:=ZX he
      refine Y5 ?_ ?_
      ·skip
       refine And.intro hq1 ?_
       refine Y5 ?_ ?_
       ·skip
        refine⟨r5_,hq2,?_⟩
        refine Y4 ?_
        refine Y4 ?_
        refine⟨r6_,hq3,?_⟩
        exact ZvQ
       ·skip
        exact ZLP
      ·skip
       refine Y4 ?_
       refine And.intro hq1 ?_
       exact ZLP
     ·refine Y5 ?_ ?_
      ·skip
       refine Y5 ?_ ?_
       ·skip
        refine Y4 ?_
        exact Zos
       ·skip
        refine Y4 ?_
        exact Zos
      ·skip
       refine Y4 ?_
       refine Y4 ?_
       exact Zos
    ·exact ZHq
   ·refine Y4 ?_
    exact ZHq
  ·refine Y4 ?_
   refine Y4 ?_
   exact ZHq
 ·exact ZLL
def Zmd:Con:=fun
  |[.c (.imm (.int .i64) net),.c (.int .i64 bound_)],[]=>.opt _ (ZlG net bound_) (fun r=>.ret (.tup [.agg [.own 901 false,.int .i64 r.2.1],.c (.bool r.1)]) [(900,.rc [.own 901 false,.int .i64 r.2.1]),(901,.sl 155 y6_ r.2.2 .shallow)])
  |_,_=>.fail
def Zri:Sched:=.alt 9 (.first 10 (.alt 11 .done .stop)) .stop
def Zrj:Sched:=.alt 8 Zri .stop
def Zrk:Sched:=.alt 11 (.first 12 (.alt 13 .done .stop)) .stop
def Zrl:Sched:=.alt 10 Zrk .stop
def ZBc:Cfg:={ y:=tys,n:=62,h:=0,tab:=[(168,ZfS)],cut:=[7,9,10,12],sched:=[(6,(ZB [0,2,3,4,5,6] (.alt 1 (.alt 7 Zrj .stop) (.alt 7 (.alt 1 Zrj (.alt 8 (.alt 1 Zri .stop) .stop)) .stop)))),(8,(ZB [0,2,3,4,5,6,7,8] (.alt 1 (.alt 9 Zrl .stop) (.alt 9 (.alt 1 Zrl (.alt 10 (.alt 1 Zrk .stop) .stop)) .stop))))] }
theorem ZLQ {P:Prop} (h:P:=by
  exact⟨_,he,(Za [(10006000,10005000),(10006001,10005001),(10006002,10005002)])⟩):P:=h
theorem ZLR {P:Prop} (h:P:=by
  refine Zg he fun he=>?_
  exact⟨_,(Zj he :),(Za [(10000000,10004000),(10000001,10004001),(10000002,10004002)])⟩):P:=h
theorem ZDv {P:Prop} (h:P:=by
  refine Y4 ?_
  refine Y4 ?_
  refine And.intro hq1 ?_
  refine Y4 ?_
  exact⟨_,he,(Za [(10004000,10003000),(10004001,10003001),(10004002,45)])⟩):P:=h
theorem ZDw {P:Prop} (h:P:=by
  refine Y4 ?_
  refine Y4 ?_
  refine And.intro hq1 ?_
  refine Y4 ?_
  exact⟨_,he,(Za [(10003000,10000000),(10003001,10000001),(10003002,27)])⟩):P:=h
theorem Zut:Zn Tryz.prog 134 Zmd:=by
 refine Zq (C:=ZBc) Tryz.f134 (Zk Zon Zr) fun _ a b k he=>?_
 unfold Zmd at he;split at he;rotate_left;exact he.elim
 rename_i net bound_
 refine Zs he fun he=>?_
 refine ZN (Zo6) (fun (bound_2,c_03)=>(Zm [(1,.c (.int .i64 bound_2)),(4,.c (.ptr 10005000 0)),(6,.c (.ptr 10005001 0))],[(10005000,.rc [.nil,.int .i64 (0:Int)]),(10005001,.rc [.own 10005002 false,.int .i64 (0:Int)]),(10005002,.sl 155 y6_ c_03 .shallow)])) he ?_ ?_
 ·rintro⟨bound_2,c_03⟩ he
  refine ZN (Zh0 c_03) (fun bound_3=>(Zm [(1,.c (.int .i64 bound_3)),(4,.c (.ptr 10006000 0)),(6,.c (.ptr 10006001 0))],[(10006000,.rc [.nil,.int .i64 (0:Int)]),(10006001,.rc [.own 10006002 false,.int .i64 (0:Int)]),(10006002,.sl 155 y6_ c_03 .shallow)])) he ?_ ?_
  ·rintro bound_3 he
   refine Zi he fun r1_ he=>?_
   refine Zh he (fun he=>?_) fun he=>?_
   ·exact Zt [(4,[900]),(5,[])] (Zj he :) (Za [(900,10006000)])
   ·exact Zt [(4,[900]),(5,[])] (Zj he :) (Za [(900,10006000),(901,10006002)])
  ·skip
   refine Zh he (fun he=>?_) fun he=>?_
   ·exact ZLQ
   ·exact ZLQ
 ·skip
  refine Zp (Zlc net) (fun (bound_1,v,c_01)=>(Zm [(0,.c (.imm y0_ net)),(1,.c (.int .i64 bound_1)),(4,.c (.ptr 10000000 0)),(6,.c (.ptr 10000001 0)),(7,.c (.int .i64 v))],[(10000000,.rc [.nil,.int .i64 (0:Int)]),(10000001,.rc [.own 10000002 false,.int .i64 (0:Int)]),(10000002,.sl 155 y6_ c_01 .shallow)])) he (Za [(10000000,4),(10000001,6)]) ?_
  rintro⟨bound_1,v,c_01⟩ _ he
  refine Zh he (fun he=>?_) fun he=>?_
  ·refine ZN (Zlb net bound_1 v) (fun c_02=>(Zm [(0,.c (.imm y0_ net)),(1,.c (.int .i64 bound_1)),(4,.c (.ptr 10003000 0)),(6,.c (.ptr 10003001 0)),(7,.c (.int .i64 v))],[(10003000,.rc [.nil,.int .i64 (0:Int)]),(10003001,.rc [.own 10003002 false,.int .i64 (0:Int)]),(10003002,.sl 155 y6_ c_02 .shallow)])) he ?_ ?_
   ·rintro c_02 he
    refine Zg he fun he=>?_
    refine Zh he (fun he=>?_) fun he=>?_
    ·refine ZN (Zo7 net bound_1 v c_02) (fun _=>(Zm [(0,.c (.imm y0_ net)),(1,.c (.int .i64 bound_1)),(4,.c (.ptr 10004000 0)),(6,.c (.ptr 10004001 0)),(7,.c (.int .i64 v))],[(10004000,.rc [.nil,.int .i64 (0:Int)]),(10004001,.rc [.own 10004002 false,.int .i64 (0:Int)]),(10004002,.sl 155 y6_ (c_02++[((0 - (net.getD v.toNat 0)),(0 - v))]) .shallow)])) he ?_ ?_
     ·rintro⟨⟩ he
      refine Zg he fun he=>?_
      refine Zg he fun he=>?_
      exact ZLR
     ·skip
      refine And.intro (by kernel_rfl) ?_
      refine Zg he fun he=>?_
      refine Zg he fun he=>?_
      refine Zg he fun he=>?_
      obtain⟨hq1,he⟩:=ZP he
      refine Y5 ?_ ?_
      ·skip
       refine Y4 ?_
       exact ZDv
      ·skip
       refine Y5 ?_ ?_
       ·skip
        exact ZDv
       ·skip
        exact ZDv
    ·refine Zg he fun he=>?_
     exact⟨_,(Zj he :),(Za [(10000000,10003000),(10000001,10003001),(10000002,10003002)])⟩
   ·skip
    refine Zg he fun he=>?_
    refine Zh he (fun he=>?_) fun he=>?_
    ·refine And.intro (by kernel_rfl) ?_
     refine Zg he fun he=>?_
     obtain⟨hq1,he⟩:=ZP he
     refine Y5 ?_ ?_
     ·skip
      refine Y4 ?_
      exact ZDw
     ·skip
      refine Y5 ?_ ?_
      ·skip
       exact ZDw
      ·skip
       exact ZDw
    ·exact⟨_,he,(Za [(10003000,10000000),(10003001,10000001),(10003002,10000002)])⟩
  ·exact⟨_,(Zbp he :),(Za [(10005000,10000000),(10005001,10000001),(10005002,10000002)])⟩
def ZpQ:Con:=fun
  |[.agg [.imm (.int .i64) m_0,.imm (.pair (.int .i64) (.pair (.sl (.int .i64)) (.pair (.sl (.int .i64)) (.pair (.int .i64) (.sl (.sl (.int .i64))))))) m_1],.agg [.int .i64 r__0,.imm (.int .i64) r__1,.imm (.int .i64) r__2,.int .i64 r__3,.imm (.sl (.int .i64)) r__4]],[]=>.opt _ (ZoG (m_0,m_1) (r__0,(r__1,(r__2,(r__3,r__4))))) (fun r=>.ret (.c (.own 900 false)) [(900,.sl 89 y7_ r (.deep true .no))])
  |_,_=>.fail
def ZrD:Sched:=.first 16 (.alt 17 .done .stop)
def Zmx:Sched:=.alt 8 ZrD .stop
def ZrE:Sched:=.alt 8 (.alt 10 (ZB [12,13,15] ZrD) .stop) (.alt 10 (ZB [12,13,15] Zmx) .stop)
def ZrF:Sched:=.alt 3 (ZB [5,6] Zmx) .stop
def ZrG:Sched:=.alt 1 Zmx .stop
def ZBh:Cfg:={ y:=tys,n:=57,h:=0,tab:=[(133,Zf5),(134,Zmd)],cut:=[9],deep:=[56],sched:=[(8,(ZB [0,2,4,7,9,11,14] (.alt 1 (.alt 3 (ZB [5,6] ZrE) (.alt 10 (ZB [12,13,15] ZrF) .stop)) (.alt 3 (ZB [5,6] (.alt 1 ZrE (.alt 10 (ZB [12,13,15] ZrG) .stop))) (.alt 10 (ZB [12,13,15] (.alt 1 ZrF (.alt 3 (ZB [5,6] ZrG) .stop))) .stop)))))] }
theorem ZvG {P:Prop} (h:P:=by
  refine Y4 ?_
  refine⟨r5_,hq2,?_⟩
  refine And.intro hq5 ?_
  exact Zos):P:=h
theorem ZII {P:Prop} (h:P:=by
  refine Y5 ?_ ?_
  ·skip
   refine⟨r5_,hq2,?_⟩
   refine Y4 ?_
   refine And.intro hq3 ?_
   refine And.intro hq4 ?_
   refine And.intro hq5 ?_
   exact Zos
  ·skip
   refine And.intro hq3 ?_
   refine And.intro hq4 ?_
   exact ZvG):P:=h
theorem ZBH:Zn Tryz.prog 191 ZpQ:=by
 refine Zq (C:=ZBh) Tryz.f191 (Zk Zkg (Zk Zut Zr)) fun _ a b k he=>?_
 unfold ZpQ at he;split at he;rotate_left;exact he.elim
 rename_i m_0 m_1 r__0 r__1 r__2 r__3 r__4
 refine Zs he fun he=>?_
 refine Zg he fun he=>?_
 refine ZN (Zll (r__0,(r__1,(r__2,(r__3,r__4))))) (fun net3=>(Zm [(3,.c (.ptr 10003000 0)),(5,.c (.own 10003001 false))],[(10003000,.rc [.int .i64 (r__0,(r__1,(r__2,(r__3,r__4)))).1,.imm y0_ (r__0,(r__1,(r__2,(r__3,r__4)))).2.1,.imm y0_ (r__0,(r__1,(r__2,(r__3,r__4)))).2.2.1,.int .i64 (r__0,(r__1,(r__2,(r__3,r__4)))).2.2.2.1,.imm (.sl y0_) (r__0,(r__1,(r__2,(r__3,r__4)))).2.2.2.2]),(10003001,.sl 3 y0_ net3 .shallow)])) he ?_ ?_
 ·rintro net3 he
  refine Zi he fun r6_ he=>?_
  exact Zt [(4,[])] (Zj he :) (Za [(900,56)])
 ·skip
  refine Zp (Zpa (m_0,m_1) (r__0,(r__1,(r__2,(r__3,r__4))))) (fun (i,net1)=>(Zm [(2,.c (.ptr 10000000 0)),(3,.c (.ptr 10000001 0)),(5,.c (.own 10000002 false)),(6,.c (.int .i64 i))],[(10000000,.rc [.imm y0_ (m_0,m_1).1,.imm y5_ (m_0,m_1).2]),(10000001,.rc [.int .i64 (r__0,(r__1,(r__2,(r__3,r__4)))).1,.imm y0_ (r__0,(r__1,(r__2,(r__3,r__4)))).2.1,.imm y0_ (r__0,(r__1,(r__2,(r__3,r__4)))).2.2.1,.int .i64 (r__0,(r__1,(r__2,(r__3,r__4)))).2.2.2.1,.imm (.sl y0_) (r__0,(r__1,(r__2,(r__3,r__4)))).2.2.2.2]),(10000002,.sl 3 y0_ net1 .shallow)])) he (Za [(10000000,2),(10000001,3),(10000002,10)]) ?_
  rintro⟨i,net1⟩ _ he
  refine Zh he (fun he=>?_) fun he=>?_
  ·refine Zp (Zlm (m_0,m_1) (r__0,(r__1,(r__2,(r__3,r__4)))) i) (fun (k_1,net2)=>(Zm [(2,.c (.ptr 10002000 0)),(3,.c (.ptr 10002001 0)),(5,.c (.own 10002002 false)),(6,.c (.int .i64 i)),(7,.c (.int .i64 k_1))],[(10002000,.rc [.imm y0_ (m_0,m_1).1,.imm y5_ (m_0,m_1).2]),(10002001,.rc [.int .i64 (r__0,(r__1,(r__2,(r__3,r__4)))).1,.imm y0_ (r__0,(r__1,(r__2,(r__3,r__4)))).2.1,.imm y0_ (r__0,(r__1,(r__2,(r__3,r__4)))).2.2.1,.int .i64 (r__0,(r__1,(r__2,(r__3,r__4)))).2.2.2.1,.imm (.sl y0_) (r__0,(r__1,(r__2,(r__3,r__4)))).2.2.2.2]),(10002002,.sl 3 y0_ net2 .shallow)])) he (Za [(10002000,10000000),(10002001,10000001),(10002002,10000002)]) ?_
   rintro⟨k_1,net2⟩ _ he
   refine And.intro (by kernel_rfl) ?_
   refine Zg he fun he=>?_
   refine Zg he fun he=>?_
   refine Zh he (fun he=>?_) fun he=>?_
   ·refine And.intro (by kernel_rfl) ?_
    obtain⟨hq1,he⟩:=ZP he
    obtain⟨r5_,hq2,he⟩:=ZX he
    obtain⟨hq3,he⟩:=ZP he
    obtain⟨hq4,he⟩:=ZP he
    obtain⟨hq5,he⟩:=ZP he
    refine And.intro ?_ (And.intro ?_ (And.intro ?_ (Y1)))
    ·skip
     refine Y5 ?_ ?_
     ·skip
      refine And.intro hq1 ?_
      exact ZII
     ·skip
      refine And.intro hq3 ?_
      refine And.intro hq4 ?_
      refine Y4 ?_
      refine And.intro hq1 ?_
      exact ZvG
    ·skip
     refine And.intro hq1 ?_
     refine Y5 ?_ ?_
     ·skip
      exact ZII
     ·skip
      refine And.intro hq3 ?_
      refine And.intro hq4 ?_
      refine Y4 ?_
      exact ZvG
    ·skip
     refine And.intro hq3 ?_
     refine And.intro hq4 ?_
     refine Y5 ?_ ?_
     ·skip
      refine Y4 ?_
      refine And.intro hq1 ?_
      exact ZvG
     ·skip
      refine And.intro hq1 ?_
      refine Y4 ?_
      exact ZvG
   ·refine Zg he fun he=>?_
    exact⟨_,(Zj he :),(Za [(10000000,10002000),(10000001,10002001),(10000002,10002002)])⟩
  ·exact⟨_,(Zbp he :),(Za [(10003000,10000001),(10003001,10000002)])⟩
def ZpR:Con:=fun
  |[.c (.imm (.int .i64) list_)],[]=>.opt _ (ZoH list_) (fun r=>.ret (.c (.own 900 false)) [(900,.sl 3 y0_ r .shallow)])
  |_,_=>.fail
def ZBi:Cfg:={ y:=tys,n:=51,h:=0,tab:=[] }
theorem ZBI:Zn Tryz.prog 246 ZpR:=by
 refine Zq (C:=ZBi) Tryz.f246 Zr fun _ a b k he=>?_
 unfold ZpR at he;split at he;rotate_left;exact he.elim
 rename_i list_
 refine Zs he fun he=>?_
 refine Zg he fun he=>?_
 refine Zp (Zln) (fun (i,out1)=>(Zm [(3,.c (.own 10000000 false)),(4,.c (.int .i64 i))],[(10000000,.sl 3 y0_ out1 .shallow)])) he (Za [(10000000,9)]) ?_
 rintro⟨i,out1⟩ _ he
 refine Zh he (fun he=>?_) fun he=>?_
 ·refine Zp (Zlo i) (fun (k_1,out2)=>(Zm [(3,.c (.own 10002000 false)),(4,.c (.int .i64 i)),(5,.c (.int .i64 k_1))],[(10002000,.sl 3 y0_ out2 .shallow)])) he (Za [(10002000,10000000)]) ?_
  rintro⟨k_1,out2⟩ _ he
  refine And.intro (by kernel_rfl) ?_
  refine Zh he (fun he=>?_) fun he=>?_
  ·refine Zg he fun he=>?_
   refine Zg he fun he=>?_
   refine Zg he fun he=>?_
   refine Zh he (fun he=>?_) fun he=>?_
   ·refine Zg he fun he=>?_
    refine Zg he fun he=>?_
    exact Zzh
   ·refine Zg he fun he=>?_
    exact⟨_,(Zj he :),(Za [(10000000,10002000)])⟩
  ·refine Zg he fun he=>?_
   exact⟨_,(Zj he :),(Za [(10000000,10002000)])⟩
 ·exact Zt [(2,[])] (Zj he :) (Za [(900,10000000)])
def ZmM:Con:=fun
  |[.agg [.imm (.int .i64) m_0,.imm (.pair (.int .i64) (.pair (.sl (.int .i64)) (.pair (.sl (.int .i64)) (.pair (.int .i64) (.sl (.sl (.int .i64))))))) m_1],.agg [.int .i64 r__0,.imm (.int .i64) r__1,.imm (.int .i64) r__2,.int .i64 r__3,.imm (.sl (.int .i64)) r__4]],[]=>.opt _ (Zli (m_0,m_1) (r__0,(r__1,(r__2,(r__3,r__4))))) (fun r=>.ret (.c (.own 900 false)) [(900,.sl 89 y7_ r (.deep true .no))])
  |_,_=>.fail
def Zpn:Sched:=.alt 8 (.alt 9 (.alt 10 (.first 11 .done) .stop) .stop) .stop
def Zx0:Cfg:={ y:=tys,n:=54,h:=0,tab:=[(133,Zf5),(190,Zox),(246,ZpR)],cut:=[11],deep:=[9,51],sched:=[(10,(ZB [0,2,4,7] (.alt 1 (.alt 3 (ZB [5,6] Zpn) .stop) (.alt 3 (ZB [5,6] (.alt 1 Zpn .stop)) .stop))))] }
theorem ZIJ {P:Prop} (h:P:=by
  refine Y4 ?_
  refine⟨r7_,hq2,?_⟩
  refine Y4 ?_
  refine Y4 ?_
  refine And.intro hq3 ?_
  refine Zg he fun he=>?_
  exact⟨_,(Zj he :),(Za [(10003003,43)])⟩):P:=h
theorem Zyy:Zn Tryz.prog 192 ZmM:=by
 refine Zq (C:=Zx0) Tryz.f192 (Zk Zkg (Zk Zw9 (Zk ZBI Zr))) fun _ a b k he=>?_
 unfold ZmM at he;split at he;rotate_left;exact he.elim
 rename_i m_0 m_1 r__0 r__1 r__2 r__3 r__4
 refine Zs he fun he=>?_
 refine Zp (Zl6 (m_0,m_1) (r__0,(r__1,(r__2,(r__3,r__4))))) (fun (k_,out)=>(Zm [(2,.c (.ptr 10000000 0)),(3,.c (.ptr 10000001 0)),(5,.c (.own 10000002 false)),(6,.c (.int .i64 k_))],[(10000000,.rc [.imm y0_ (m_0,m_1).1,.imm y5_ (m_0,m_1).2]),(10000001,.rc [.int .i64 (r__0,(r__1,(r__2,(r__3,r__4)))).1,.imm y0_ (r__0,(r__1,(r__2,(r__3,r__4)))).2.1,.imm y0_ (r__0,(r__1,(r__2,(r__3,r__4)))).2.2.1,.int .i64 (r__0,(r__1,(r__2,(r__3,r__4)))).2.2.2.1,.imm (.sl y0_) (r__0,(r__1,(r__2,(r__3,r__4)))).2.2.2.2]),(10000002,.sl 89 y7_ out (.deep true .no))])) he (Za [(10000000,2),(10000001,3),(10000002,9)]) ?_
 rintro⟨k_,out⟩ _ he
 refine Zh he (fun he=>?_) fun he=>?_
 ·refine ZN (ZfF k_ out) (fun vars3=>(Zm [(2,.c (.ptr 10004000 0)),(3,.c (.ptr 10004001 0)),(5,.c (.own 10004002 false)),(6,.c (.int .i64 k_)),(7,.c (.own 10004003 false))],[(10004000,.rc [.imm y0_ (m_0,m_1).1,.imm y5_ (m_0,m_1).2]),(10004001,.rc [.int .i64 (r__0,(r__1,(r__2,(r__3,r__4)))).1,.imm y0_ (r__0,(r__1,(r__2,(r__3,r__4)))).2.1,.imm y0_ (r__0,(r__1,(r__2,(r__3,r__4)))).2.2.1,.int .i64 (r__0,(r__1,(r__2,(r__3,r__4)))).2.2.2.1,.imm (.sl y0_) (r__0,(r__1,(r__2,(r__3,r__4)))).2.2.2.2]),(10004002,.sl 89 y7_ out (.deep true .no)),(10004003,.sl 3 y0_ vars3 .shallow)])) he ?_ ?_
  ·rintro vars3 he
   refine Zh he (fun he=>?_) fun he=>?_
   ·refine Zi he fun r8_ he=>?_
    refine Zi he fun r9_ he=>?_
    refine Zg he fun he=>?_
    refine Zg he fun he=>?_
    exact⟨_,(Zj he :),(Za [(10000000,10004000),(10000001,10004001),(10000002,52)])⟩
   ·exact ZLR
  ·skip
   refine Zp (ZfG (m_0,m_1) (r__0,(r__1,(r__2,(r__3,r__4)))) k_ out) (fun (i1,vars2)=>(Zm [(2,.c (.ptr 10003000 0)),(3,.c (.ptr 10003001 0)),(5,.c (.own 10003002 false)),(6,.c (.int .i64 k_)),(7,.c (.own 10003003 false)),(8,.c (.int .i64 i1))],[(10003000,.rc [.imm y0_ (m_0,m_1).1,.imm y5_ (m_0,m_1).2]),(10003001,.rc [.int .i64 (r__0,(r__1,(r__2,(r__3,r__4)))).1,.imm y0_ (r__0,(r__1,(r__2,(r__3,r__4)))).2.1,.imm y0_ (r__0,(r__1,(r__2,(r__3,r__4)))).2.2.1,.int .i64 (r__0,(r__1,(r__2,(r__3,r__4)))).2.2.2.1,.imm (.sl y0_) (r__0,(r__1,(r__2,(r__3,r__4)))).2.2.2.2]),(10003002,.sl 89 y7_ out (.deep true .no)),(10003003,.sl 3 y0_ vars2 .shallow)])) he (Za [(10003000,10000000),(10003001,10000001),(10003002,10000002),(10003003,14)]) ?_
   rintro⟨i1,vars2⟩ _ he
   refine Zh he (fun he=>?_) fun he=>?_
   ·refine And.intro (by kernel_rfl) ?_
    refine Zg he fun he=>?_
    refine Zg he fun he=>?_
    refine Zh he (fun he=>?_) fun he=>?_
    ·refine And.intro (by kernel_rfl) ?_
     obtain⟨hq1,he⟩:=ZP he
     obtain⟨r7_,hq2,he⟩:=ZX he
     obtain⟨hq3,he⟩:=ZP he
     refine Y5 ?_ ?_
     ·skip
      refine Y4 ?_
      refine And.intro hq1 ?_
      exact ZIJ
     ·skip
      refine And.intro hq1 ?_
      refine Y4 ?_
      exact ZIJ
    ·exact ZdH
   ·exact⟨_,(Zbp he :),(Za [(10004000,10003000),(10004001,10003001),(10004002,10003002),(10004003,10003003)])⟩
 ·exact Zt [(4,[])] (Zj he :) (Za [(900,10000002)])
def Zr2:Con:=fun
  |[.c (.imm (.int .i64) a),.c (.imm (.int .i64) b)],[]=>.opt _ (Zq6 a b) (fun r=>.ret (.c (.bool r)) [])
  |_,_=>.fail
def ZEB:Cfg:={ y:=tys,n:=26,h:=0,tab:=[] }
theorem ZEQ:Zn Tryz.prog 251 Zr2:=by
 refine Zq (C:=ZEB) Tryz.f251 Zr fun _ a b k he=>?_
 unfold Zr2 at he;split at he;rotate_left;exact he.elim
 rename_i a b
 refine Zs he fun he=>?_
 refine Zh he (fun he=>?_) fun he=>?_
 ·exact Z5
 ·refine Zp (Znx a b) (fun i=>(Zm [(0,.c (.imm y0_ a)),(1,.c (.imm y0_ b)),(5,.c (.int .i64 i))],[])) he (Za []) ?_
  exact ZCt
def ZqA:Con:=fun
  |[.agg [.int .i64 a0_0,.imm (.int .i64) a0_1,.imm (.int .i64) a0_2,.int .i64 a0_3,.imm (.sl (.int .i64)) a0_4],.c (.imm (.int .i64) a1)],[]=>.opt _ (Zqb (a0_0,(a0_1,(a0_2,(a0_3,a0_4)))) a1) (fun r=>.ret (.c (.bool r)) [])
  |_,_=>.fail
def ZCI:Cfg:={ y:=tys,n:=102,h:=0,tab:=[(251,Zr2)],cut:=[6] }
theorem ZC3:Zn Tryz.prog 205 ZqA:=by
 refine Zq (C:=ZCI) Tryz.f205 (Zk ZEQ Zr) fun _ a b k he=>?_
 unfold ZqA at he;split at he;rotate_left;exact he.elim
 rename_i a0_0 a0_1 a0_2 a0_3 a0_4 a1
 refine Zs he fun he=>?_
 refine ZN (Zmk (a0_0,(a0_1,(a0_2,(a0_3,a0_4))))) (fun i2=>(Zm [(2,.c (.ptr 10001000 0)),(5,.c (.own 10001001 false))],[(10001000,.rc [.int .i64 (a0_0,(a0_1,(a0_2,(a0_3,a0_4)))).1,.imm y0_ (a0_0,(a0_1,(a0_2,(a0_3,a0_4)))).2.1,.imm y0_ (a0_0,(a0_1,(a0_2,(a0_3,a0_4)))).2.2.1,.int .i64 (a0_0,(a0_1,(a0_2,(a0_3,a0_4)))).2.2.2.1,.imm (.sl y0_) (a0_0,(a0_1,(a0_2,(a0_3,a0_4)))).2.2.2.2]),(10001001,.sl 3 y0_ i2 .shallow)])) he ?_ ?_
 ·rintro i2 he
  refine Zh he (fun he=>?_) fun he=>?_
  ·refine Zp (Zqc (a0_0,(a0_1,(a0_2,(a0_3,a0_4)))) i2) (fun (i3,i4)=>(Zm [(2,.c (.ptr 10002000 0)),(5,.c (.own 10002001 false)),(7,.c (.int .i64 i3)),(8,.c (.int .i64 i4))],[(10002000,.rc [.int .i64 (a0_0,(a0_1,(a0_2,(a0_3,a0_4)))).1,.imm y0_ (a0_0,(a0_1,(a0_2,(a0_3,a0_4)))).2.1,.imm y0_ (a0_0,(a0_1,(a0_2,(a0_3,a0_4)))).2.2.1,.int .i64 (a0_0,(a0_1,(a0_2,(a0_3,a0_4)))).2.2.2.1,.imm (.sl y0_) (a0_0,(a0_1,(a0_2,(a0_3,a0_4)))).2.2.2.2]),(10002001,.sl 3 y0_ i2 .shallow)])) he (Za [(10002000,10001000),(10002001,10001001)]) ?_
   rintro⟨i3,i4⟩ _ he
   refine Zh he (fun he=>?_) fun he=>?_
   ·refine And.intro (by kernel_rfl) ?_
    exact Zzh
   ·exact Zbd
  ·refine Zh he (fun he=>?_) fun he=>?_
   ·refine Zp (Zje i2) (fun i5=>(Zm [(5,.c (.own 10003000 false)),(9,.c (.int .i64 i5))],[(10003000,.sl 3 y0_ i2 .shallow)])) he (Za [(10003000,10001001)]) ?_
    rintro i5 _ he
    refine Zh he (fun he=>?_) fun he=>?_
    ·refine Zp (Zjf i2 i5) (fun i6=>(Zm [(5,.c (.own 10004000 false)),(9,.c (.int .i64 i5)),(10,.c (.int .i64 i6))],[(10004000,.sl 3 y0_ i2 .shallow)])) he (Za [(10004000,10003000)]) ?_
     rintro i6 _ he
     refine Zh he (fun he=>?_) fun he=>?_
     ·exact ZLK
     ·refine Zg he fun he=>?_
      exact⟨_,(Zj he :),(Za [(10003000,10004000)])⟩
    ·exact Zbd
   ·refine Zh he (fun he=>?_) fun he=>?_
    ·refine And.intro (by kernel_rfl) ?_
     exact ZFg
    ·refine Zp (Zml (a0_0,(a0_1,(a0_2,(a0_3,a0_4)))) i2) (fun i7=>(Zm [(2,.c (.ptr 10005000 0)),(5,.c (.own 10005001 false)),(11,.c (.int .i64 i7))],[(10005000,.rc [.int .i64 (a0_0,(a0_1,(a0_2,(a0_3,a0_4)))).1,.imm y0_ (a0_0,(a0_1,(a0_2,(a0_3,a0_4)))).2.1,.imm y0_ (a0_0,(a0_1,(a0_2,(a0_3,a0_4)))).2.2.1,.int .i64 (a0_0,(a0_1,(a0_2,(a0_3,a0_4)))).2.2.2.1,.imm (.sl y0_) (a0_0,(a0_1,(a0_2,(a0_3,a0_4)))).2.2.2.2]),(10005001,.sl 3 y0_ i2 .shallow)])) he (Za [(10005000,10001000),(10005001,10001001)]) ?_
     rintro i7 _ he
     exact Zzg
 ·skip
  refine Zp (Zmm (a0_0,(a0_1,(a0_2,(a0_3,a0_4)))) a1) (fun (i,i1)=>(Zm [(1,.c (.imm y0_ a1)),(2,.c (.ptr 10000000 0)),(5,.c (.own 10000001 false)),(6,.c (.int .i64 i))],[(10000000,.rc [.int .i64 (a0_0,(a0_1,(a0_2,(a0_3,a0_4)))).1,.imm y0_ (a0_0,(a0_1,(a0_2,(a0_3,a0_4)))).2.1,.imm y0_ (a0_0,(a0_1,(a0_2,(a0_3,a0_4)))).2.2.1,.int .i64 (a0_0,(a0_1,(a0_2,(a0_3,a0_4)))).2.2.2.1,.imm (.sl y0_) (a0_0,(a0_1,(a0_2,(a0_3,a0_4)))).2.2.2.2]),(10000001,.sl 3 y0_ i1 .shallow)])) he (Za [(10000000,2),(10000001,12)]) ?_
  rintro⟨i,i1⟩ _ he
  refine Zh he (fun he=>?_) fun he=>?_
  ·refine Zg he fun he=>?_
   refine Zg he fun he=>?_
   refine Zg he fun he=>?_
   refine Zg he fun he=>?_
   exact⟨_,(Zj he :),(Za [(10000001,30)])⟩
  ·exact⟨_,(Zbp he :),(Za [(10001000,10000000),(10001001,10000001)])⟩
def Zr3:Con:=fun
  |[.agg [.imm (.int .i64) m_0,.imm (.pair (.int .i64) (.pair (.sl (.int .i64)) (.pair (.sl (.int .i64)) (.pair (.int .i64) (.sl (.sl (.int .i64))))))) m_1],.c (.imm (.int .i64) cells)],[]=>.opt _ (Zop (m_0,m_1) cells) (fun r=>.ret (.tup [.c (.own 900 false),.c (.bool r.1)]) [(900,.sl 3 y0_ r.2 .shallow)])
  |_,_=>.fail
def ZEC:Cfg:={ y:=tys,n:=41,h:=0,tab:=[] }
theorem ZER:Zn Tryz.prog 247 Zr3:=by
 refine Zq (C:=ZEC) Tryz.f247 Zr fun _ a b k he=>?_
 unfold Zr3 at he;split at he;rotate_left;exact he.elim
 rename_i m_0 m_1 cells
 refine Zs he fun he=>?_
 refine Zg he fun he=>?_
 refine Zg he fun he=>?_
 refine Zp (Zny (m_0,m_1)) (fun (i,out)=>(Zm [(2,.c (.ptr 10000000 0)),(6,.c (.own 10000001 false)),(7,.c (.int .i64 i))],[(10000000,.rc [.imm y0_ (m_0,m_1).1,.imm y5_ (m_0,m_1).2]),(10000001,.sl 3 y0_ out .shallow)])) he (Za [(10000000,2),(10000001,10)]) ?_
 rintro⟨i,out⟩ _ he
 refine Zh he (fun he=>?_) fun he=>?_
 ·refine And.intro (by kernel_rfl) ?_
  refine Zg he fun he=>?_
  refine Zg he fun he=>?_
  refine Zh he (fun he=>?_) fun he=>?_
  ·refine Zg he fun he=>?_
   refine Zg he fun he=>?_
   refine Zg he fun he=>?_
   exact Zzj
  ·exact ZCy
 ·exact Zzj
def ZpP:Con:=fun
  |[.agg [.imm (.int .i64) a0_0,.imm (.pair (.int .i64) (.pair (.sl (.int .i64)) (.pair (.sl (.int .i64)) (.pair (.int .i64) (.sl (.sl (.int .i64))))))) a0_1],.agg [.int .i64 a1_0,.imm (.int .i64) a1_1,.imm (.int .i64) a1_2,.int .i64 a1_3,.imm (.sl (.int .i64)) a1_4]],[]=>.opt _ (ZoF (a0_0,a0_1) (a1_0,(a1_1,(a1_2,(a1_3,a1_4))))) (fun r=>.ret (.c (.own 900 false)) [(900,.sl 89 y7_ r (.deep true .no))])
  |_,_=>.fail
def Zrv:Sched:=.alt 12 (.first 13 (.alt 14 .done .stop)) .stop
def Zrw:Sched:=.alt 11 Zrv .stop
def Zrx:Sched:=ZB [9,10] Zrw
def Zry:Sched:=.alt 5 (ZB [7,8] Zrx) .stop
def Zrz:Sched:=.alt 3 Zrx .stop
def ZrA:Sched:=ZB [9,10] (.alt 1 Zrw (.alt 11 (.alt 1 Zrv .stop) .stop))
def ZrB:Sched:=.first 10 (.alt 11 .done .stop)
def Zmw:Sched:=.alt 11 (.first 12 (.alt 13 (.alt 14 (.first 15 .done) .stop) .stop)) .stop
def ZrC:Sched:=.alt 10 Zmw .stop
def Zql:Sched:=.alt 3 (ZB [5,6] Zmw) .stop
def Zqm:Sched:=.alt 1 Zmw .stop
def ZBg:Cfg:={ y:=tys,n:=100,h:=0,tab:=[(133,Zf5),(189,ZiX),(205,ZqA),(247,Zr3)],cut:=[6,16,17,20],deep:=[37,91],sched:=[(5,(ZB [0,2,4,6] (.alt 1 (.alt 3 Zry (.alt 5 (ZB [7,8] Zrz) .stop)) (.alt 3 (.alt 1 Zry (.alt 5 (ZB [7,8] ZrA) .stop)) (.alt 5 (ZB [7,8] (.alt 1 Zrz (.alt 3 ZrA .stop))) .stop))))),(15,(ZB [0,1,3,6,7,8] (.alt 2 (ZB [4,5] (.alt 9 ZrB .stop)) (.alt 9 (.alt 2 (ZB [4,5] ZrB) .stop) .stop)))),(16,(ZB [0,2,4,7,8,9] (.alt 1 (.alt 3 (ZB [5,6] ZrC) (.alt 10 Zql .stop)) (.alt 3 (ZB [5,6] (.alt 1 ZrC (.alt 10 Zqm .stop))) (.alt 10 (.alt 1 Zql (.alt 3 (ZB [5,6] Zqm) .stop)) .stop)))))] }
theorem Zzz {P:Prop} (h:P:=by
  refine Y4 ?_
  refine⟨r8_,hq2,?_⟩
  refine And.intro hq3 ?_
  refine Y4 ?_
  refine Y4 ?_
  refine And.intro hq4 ?_
  refine Zg he fun he=>?_
  exact⟨_,(Zj he :),(Za [(10008000,10010000),(10008001,10010001),(10008002,10010002),(10008003,10010003),(10008004,10010004),(10008005,10010005),(10008006,79),(10008007,10010007)])⟩):P:=h
theorem ZIK {P:Prop} (h:P:=by
  skip
  refine And.intro hq1 ?_
  refine Y4 ?_
  exact Zzz):P:=h
theorem ZIL {P:Prop} (h:P:=by
  skip
  refine Y4 ?_
  refine And.intro hq1 ?_
  exact Zzz):P:=h
theorem ZIM {P:Prop} (h:P:=by
  refine And.intro hq2 ?_
  refine Y4 ?_
  exact⟨_,he,(Za [(10010000,10008000),(10010001,10008001),(10010002,10008002),(10010003,10008003),(10010004,10008004),(10010005,10008005),(10010006,10008006),(10010007,10008007)])⟩):P:=h
theorem ZvH {P:Prop} (h:P:=by
  refine Y4 ?_
  refine Y4 ?_
  refine And.intro hq3 ?_
  refine Y4 ?_
  exact ZJ5):P:=h
theorem ZIN {P:Prop} (h:P:=by
  skip
  refine Y4 ?_
  refine And.intro hq1 ?_
  refine And.intro hq2 ?_
  exact ZvH):P:=h
theorem ZIO {P:Prop} (h:P:=by
  refine And.intro hq2 ?_
  refine Y5 ?_ ?_
  ·skip
   exact ZvH
  ·skip
   exact ZvH):P:=h
theorem ZBG:Zn Tryz.prog 193 ZpP:=by
 refine Zq (C:=ZBg) Tryz.f193 (Zk Zkg (Zk Zp3 (Zk ZC3 (Zk ZER Zr)))) fun _ a b k he=>?_
 unfold ZpP at he;split at he;rotate_left;exact he.elim
 rename_i a0_0 a0_1 a1_0 a1_1 a1_2 a1_3 a1_4
 refine Zs he fun he=>?_
 refine ZN (Zh2 (a0_0,a0_1) (a1_0,(a1_1,(a1_2,(a1_3,a1_4))))) (fun i_01=>(Zm [(2,.c (.ptr 10001000 0)),(3,.c (.ptr 10001001 0)),(5,.c (.ptr 10001002 0))],[(10001000,.rc [.imm y0_ (a0_0,a0_1).1,.imm y5_ (a0_0,a0_1).2]),(10001001,.rc [.int .i64 (a1_0,(a1_1,(a1_2,(a1_3,a1_4)))).1,.imm y0_ (a1_0,(a1_1,(a1_2,(a1_3,a1_4)))).2.1,.imm y0_ (a1_0,(a1_1,(a1_2,(a1_3,a1_4)))).2.2.1,.int .i64 (a1_0,(a1_1,(a1_2,(a1_3,a1_4)))).2.2.2.1,.imm (.sl y0_) (a1_0,(a1_1,(a1_2,(a1_3,a1_4)))).2.2.2.2]),(10001002,.rc [.own 10001003 false,.nil]),(10001003,.sl 3 y0_ i_01 .shallow)])) he ?_ ?_
 ·rintro i_01 he
  refine Zg he fun he=>?_
  refine Zp (Zlj (a0_0,a0_1) (a1_0,(a1_1,(a1_2,(a1_3,a1_4)))) i_01) (fun (i1,i8,i9)=>(Zm [(2,.c (.ptr 10002000 0)),(3,.c (.ptr 10002001 0)),(5,.c (.ptr 10002002 0)),(7,.c (.own 10002003 false)),(8,.c (.own 10002004 false)),(9,.c (.bool i1))],[(10002000,.rc [.imm y0_ (a0_0,a0_1).1,.imm y5_ (a0_0,a0_1).2]),(10002001,.rc [.int .i64 (a1_0,(a1_1,(a1_2,(a1_3,a1_4)))).1,.imm y0_ (a1_0,(a1_1,(a1_2,(a1_3,a1_4)))).2.1,.imm y0_ (a1_0,(a1_1,(a1_2,(a1_3,a1_4)))).2.2.1,.int .i64 (a1_0,(a1_1,(a1_2,(a1_3,a1_4)))).2.2.2.1,.imm (.sl y0_) (a1_0,(a1_1,(a1_2,(a1_3,a1_4)))).2.2.2.2]),(10002002,.rc [.own 10002005 false,.nil]),(10002003,.sl 89 y7_ i8 (.deep true .no)),(10002004,.sl 3 y0_ i9 .shallow),(10002005,.sl 3 y0_ i_01 .shallow)])) he (Za [(10002000,10001000),(10002001,10001001),(10002002,10001002),(10002003,37),(10002004,41),(10002005,10001003)]) ?_
  rintro⟨i1,i8,i9⟩ _ he
  refine Zh he (fun he=>?_) fun he=>?_
  ·refine Zg he fun he=>?_
   refine ZN (Zh3 (a1_0,(a1_1,(a1_2,(a1_3,a1_4)))) i_01 i8 i9) (fun (i13,i14)=>(Zm [(2,.c (.ptr 10011000 0)),(3,.c (.ptr 10011001 0)),(5,.c (.ptr 10011002 0)),(7,.c (.own 10011003 false)),(8,.c (.own 10011004 false)),(10,.c (.own 10011005 false)),(11,.c (.own 10011006 false))],[(10011000,.rc [.imm y0_ (a0_0,a0_1).1,.imm y5_ (a0_0,a0_1).2]),(10011001,.rc [.int .i64 (a1_0,(a1_1,(a1_2,(a1_3,a1_4)))).1,.imm y0_ (a1_0,(a1_1,(a1_2,(a1_3,a1_4)))).2.1,.imm y0_ (a1_0,(a1_1,(a1_2,(a1_3,a1_4)))).2.2.1,.int .i64 (a1_0,(a1_1,(a1_2,(a1_3,a1_4)))).2.2.2.1,.imm (.sl y0_) (a1_0,(a1_1,(a1_2,(a1_3,a1_4)))).2.2.2.2]),(10011002,.rc [.own 10011007 false,.nil]),(10011003,.sl 89 y7_ i8 (.deep true .no)),(10011004,.sl 3 y0_ i9 .shallow),(10011005,.sl 3 y0_ i13 .shallow),(10011006,.sl 3 y0_ i14 .shallow),(10011007,.sl 3 y0_ i_01 .shallow)])) he ?_ ?_
   ·rintro⟨i13,i14⟩ he
    refine ZN (Zh4 i_01 i9) (fun i15=>(Zm [(2,.c (.ptr 10012000 0)),(3,.c (.ptr 10012001 0)),(5,.c (.ptr 10012002 0)),(7,.c (.own 10012003 false)),(8,.c (.own 10012004 false))],[(10012000,.rc [.imm y0_ (a0_0,a0_1).1,.imm y5_ (a0_0,a0_1).2]),(10012001,.rc [.int .i64 (a1_0,(a1_1,(a1_2,(a1_3,a1_4)))).1,.imm y0_ (a1_0,(a1_1,(a1_2,(a1_3,a1_4)))).2.1,.imm y0_ (a1_0,(a1_1,(a1_2,(a1_3,a1_4)))).2.2.1,.int .i64 (a1_0,(a1_1,(a1_2,(a1_3,a1_4)))).2.2.2.1,.imm (.sl y0_) (a1_0,(a1_1,(a1_2,(a1_3,a1_4)))).2.2.2.2]),(10012002,.rc [.own 10012005 false,.nil]),(10012003,.sl 89 y7_ i15 (.deep true .no)),(10012004,.sl 3 y0_ i9 .shallow),(10012005,.sl 3 y0_ i_01 .shallow)])) he ?_ ?_
    ·rintro i15 he
     refine Zi he fun r11_ he=>?_
     exact⟨_,(Zj he :),(Za [(10002000,10012000),(10002001,10012001),(10002002,10012002),(10002003,10012003),(10002004,97900),(10002005,10012005)])⟩
    ·skip
     refine Zi he fun r9_ he=>?_
     refine Zh he (fun he=>?_) fun he=>?_
     ·refine Zi he fun r10_ he=>?_
      refine Zg he fun he=>?_
      exact⟨_,he,(Za [(10012000,10011000),(10012001,10011001),(10012002,10011002),(10012003,92),(10012004,10011004),(10012005,10011007)])⟩
     ·exact⟨_,he,(Za [(10012000,10011000),(10012001,10011001),(10012002,10011002),(10012003,10011003),(10012004,10011004),(10012005,10011007)])⟩
   ·skip
    refine Zp (Zlk (a0_0,a0_1) (a1_0,(a1_1,(a1_2,(a1_3,a1_4)))) i_01 i8 i9) (fun (i10,i11,i12)=>(Zm [(2,.c (.ptr 10008000 0)),(3,.c (.ptr 10008001 0)),(5,.c (.ptr 10008002 0)),(7,.c (.own 10008003 false)),(8,.c (.own 10008004 false)),(10,.c (.own 10008005 false)),(11,.c (.own 10008006 false)),(12,.c (.int .i64 i10))],[(10008000,.rc [.imm y0_ (a0_0,a0_1).1,.imm y5_ (a0_0,a0_1).2]),(10008001,.rc [.int .i64 (a1_0,(a1_1,(a1_2,(a1_3,a1_4)))).1,.imm y0_ (a1_0,(a1_1,(a1_2,(a1_3,a1_4)))).2.1,.imm y0_ (a1_0,(a1_1,(a1_2,(a1_3,a1_4)))).2.2.1,.int .i64 (a1_0,(a1_1,(a1_2,(a1_3,a1_4)))).2.2.2.1,.imm (.sl y0_) (a1_0,(a1_1,(a1_2,(a1_3,a1_4)))).2.2.2.2]),(10008002,.rc [.own 10008007 false,.nil]),(10008003,.sl 89 y7_ i8 (.deep true .no)),(10008004,.sl 3 y0_ i9 .shallow),(10008005,.sl 3 y0_ i11 .shallow),(10008006,.sl 3 y0_ i12 .shallow),(10008007,.sl 3 y0_ i_01 .shallow)])) he (Za [(10008000,10002000),(10008001,10002001),(10008002,10002002),(10008003,10002003),(10008004,10002004),(10008005,46),(10008006,47),(10008007,10002005)]) ?_
    rintro⟨i10,i11,i12⟩ _ he
    refine Zh he (fun he=>?_) fun he=>?_
    ·refine ZN (Zo9 (a0_0,a0_1) (a1_0,(a1_1,(a1_2,(a1_3,a1_4)))) i9 i10 i11 i12) (fun _=>(Zm [(2,.c (.ptr 10010000 0)),(3,.c (.ptr 10010001 0)),(5,.c (.ptr 10010002 0)),(7,.c (.own 10010003 false)),(8,.c (.own 10010004 false)),(10,.c (.own 10010005 false)),(11,.c (.own 10010006 false)),(12,.c (.int .i64 i10))],[(10010000,.rc [.imm y0_ (a0_0,a0_1).1,.imm y5_ (a0_0,a0_1).2]),(10010001,.rc [.int .i64 (a1_0,(a1_1,(a1_2,(a1_3,a1_4)))).1,.imm y0_ (a1_0,(a1_1,(a1_2,(a1_3,a1_4)))).2.1,.imm y0_ (a1_0,(a1_1,(a1_2,(a1_3,a1_4)))).2.2.1,.int .i64 (a1_0,(a1_1,(a1_2,(a1_3,a1_4)))).2.2.2.1,.imm (.sl y0_) (a1_0,(a1_1,(a1_2,(a1_3,a1_4)))).2.2.2.2]),(10010002,.rc [.own 10010007 false,.nil]),(10010003,.sl 89 y7_ i8 (.deep true .no)),(10010004,.sl 3 y0_ i9 .shallow),(10010005,.sl 3 y0_ (i11.set ((a1_0,(a1_1,(a1_2,(a1_3,a1_4)))).2.1.getD i10.toNat 0).toNat (i9.getD i10.toNat 0)) .shallow),(10010006,.sl 3 y0_ i12 .shallow),(10010007,.sl 3 y0_ i_01 .shallow)])) he ?_ ?_
     ·rintro⟨⟩ he
      refine And.intro (by kernel_rfl) ?_
      refine Zg he fun he=>?_
      obtain⟨hq1,he⟩:=ZP he
      obtain⟨r8_,hq2,he⟩:=ZX he
      obtain⟨hq3,he⟩:=ZP he
      obtain⟨hq4,he⟩:=ZP he
      refine And.intro ?_ (And.intro ?_ (And.intro ?_ (Y1)))
      ·skip
       refine Y5 ?_ ?_
       ·exact ZIK
       ·exact ZIL
      ·skip
       refine And.intro hq1 ?_
       refine Y5 ?_ ?_
       ·skip
        refine Y4 ?_
        exact Zzz
       ·skip
        refine Y4 ?_
        exact Zzz
      ·skip
       refine Y5 ?_ ?_
       ·exact ZIL
       ·exact ZIK
     ·skip
      refine And.intro (by kernel_rfl) ?_
      refine Zg he fun he=>?_
      obtain⟨hq1,he⟩:=ZP he
      obtain⟨hq2,he⟩:=ZP he
      refine Y5 ?_ ?_
      ·skip
       refine And.intro hq1 ?_
       refine Y4 ?_
       exact ZIM
      ·skip
       refine Y4 ?_
       refine And.intro hq1 ?_
       exact ZIM
    ·exact⟨_,(Zbp he :),(Za [(10011000,10008000),(10011001,10008001),(10011002,10008002),(10011003,10008003),(10011004,10008004),(10011005,10008005),(10011006,10008006),(10011007,10008007)])⟩
  ·exact Zt [(4,[])] (Zj he :) (Za [(900,10002003)])
 ·skip
  refine Zp (Zh5 (a0_0,a0_1) (a1_0,(a1_1,(a1_2,(a1_3,a1_4))))) (fun (i,i_0)=>(Zm [(2,.c (.ptr 10000000 0)),(3,.c (.ptr 10000001 0)),(5,.c (.ptr 10000002 0)),(6,.c (.int .i64 i))],[(10000000,.rc [.imm y0_ (a0_0,a0_1).1,.imm y5_ (a0_0,a0_1).2]),(10000001,.rc [.int .i64 (a1_0,(a1_1,(a1_2,(a1_3,a1_4)))).1,.imm y0_ (a1_0,(a1_1,(a1_2,(a1_3,a1_4)))).2.1,.imm y0_ (a1_0,(a1_1,(a1_2,(a1_3,a1_4)))).2.2.1,.int .i64 (a1_0,(a1_1,(a1_2,(a1_3,a1_4)))).2.2.2.1,.imm (.sl y0_) (a1_0,(a1_1,(a1_2,(a1_3,a1_4)))).2.2.2.2]),(10000002,.rc [.own 10000003 false,.nil]),(10000003,.sl 3 y0_ i_0 .shallow)])) he (Za [(10000000,2),(10000001,3),(10000002,5)]) ?_
  rintro⟨i,i_0⟩ _ he
  refine Zh he (fun he=>?_) fun he=>?_
  ·refine And.intro (by kernel_rfl) ?_
   obtain⟨hq1,he⟩:=ZP he
   obtain⟨hq2,he⟩:=ZP he
   obtain⟨hq3,he⟩:=ZP he
   refine And.intro ?_ (And.intro ?_ (And.intro ?_ (Y1)))
   ·skip
    refine Y5 ?_ ?_
    ·exact ZIN
    ·skip
     refine And.intro hq1 ?_
     refine Y4 ?_
     refine And.intro hq2 ?_
     exact ZvH
   ·skip
    refine Y5 ?_ ?_
    ·exact ZIN
    ·skip
     refine And.intro hq1 ?_
     exact ZIO
   ·skip
    refine And.intro hq1 ?_
    refine Y5 ?_ ?_
    ·skip
     refine Y4 ?_
     refine And.intro hq2 ?_
     exact ZvH
    ·skip
     exact ZIO
  ·exact⟨_,(Zbp he :),(Za [(10001000,10000000),(10001001,10000001),(10001002,10000002),(10001003,10000003)])⟩
def Zr7:Con:=fun
  |[.agg [.imm (.int .i64) m_0,.imm (.pair (.int .i64) (.pair (.sl (.int .i64)) (.pair (.sl (.int .i64)) (.pair (.int .i64) (.sl (.sl (.int .i64))))))) m_1],.agg [.int .i64 r__0,.imm (.int .i64) r__1,.imm (.int .i64) r__2,.int .i64 r__3,.imm (.sl (.int .i64)) r__4]],[]=>.opt _ (Zra (m_0,m_1) (r__0,(r__1,(r__2,(r__3,r__4))))) (fun r=>.ret (.c (.own 900 false)) [(900,.sl 89 y7_ r (.deep true .no))])
  |_,_=>.fail
def ZEH:Cfg:={ y:=tys,n:=20,h:=0,tab:=[(191,ZpQ),(192,ZmM),(193,ZpP)] }
theorem ZEV:Zn Tryz.prog 132 Zr7:=by
 refine Zq (C:=ZEH) Tryz.f132 (Zk ZBH (Zk Zyy (Zk ZBG Zr))) fun _ a b k he=>?_
 unfold Zr7 at he;split at he;rotate_left;exact he.elim
 rename_i m_0 m_1 r__0 r__1 r__2 r__3 r__4
 refine Zs he fun he=>?_
 refine Zh he (fun he=>?_) fun he=>?_
 ·refine Zi he fun r1_ he=>?_
  exact Zt [(4,[])] (Zj he :) (Za [(900,12900)])
 ·refine Zh he (fun he=>?_) fun he=>?_
  ·refine Zi he fun r2_ he=>?_
   exact Zt [(4,[])] (Zj he :) (Za [(900,17900)])
  ·refine Zi he fun r3_ he=>?_
   exact Zt [(4,[])] (Zj he :) (Za [(900,20900)])
def ZmI:Con:=fun
  |[.agg [.imm (.int .i64) m_0,.imm (.pair (.int .i64) (.pair (.sl (.int .i64)) (.pair (.sl (.int .i64)) (.pair (.int .i64) (.sl (.sl (.int .i64))))))) m_1]],[]=>.opt _ (Zk8 (m_0,m_1)) (fun r=>.ret (.tup [.c (.own 900 false),.c (.bool r.1)]) [(900,.sl 89 y7_ r.2 (.deep true .no))])
  |_,_=>.fail
def Zpd:Sched:=.alt 7 (.alt 8 (.first 9 .done) .stop) .stop
def ZxU:Cfg:={ y:=tys,n:=45,h:=0,tab:=[(130,ZgJ),(131,Zr6),(132,Zr7)],cut:=[8,12],deep:=[10,11,43],sched:=[(11,(ZB [0,2,4] (.alt 1 (.alt 3 (ZB [5,6] Zpd) .stop) (.alt 3 (ZB [5,6] (.alt 1 Zpd .stop)) .stop))))] }
theorem ZIP {P:Prop} (h:P:=by
  refine Y4 ?_
  refine⟨r6_,hq2,?_⟩
  refine Y4 ?_
  refine And.intro hq3 ?_
  refine Zg he fun he=>?_
  exact⟨_,(Zj he :),(Za [(10002001,39)])⟩):P:=h
theorem Zys:Zn Tryz.prog 62 ZmI:=by
 refine Zq (C:=ZxU) Tryz.f62 (Zk ZnT (Zk ZEU (Zk ZEV Zr))) fun _ a b k he=>?_
 unfold ZmI at he;split at he;rotate_left;exact he.elim
 rename_i m_0 m_1
 refine Zs he fun he=>?_
 refine Zi he fun r1_ he=>?_
 refine Zh he (fun he=>?_) fun he=>?_
 ·exact Zt [(2,[]),(3,[])] (Zj he :) (Za [(900,10)])
 ·refine ZN (Zii (m_0,m_1)) (fun out1=>(Zm [(1,.c (.ptr 10001000 0)),(4,.c (.own 10001001 false))],[(10001000,.rc [.imm y0_ (m_0,m_1).1,.imm y5_ (m_0,m_1).2]),(10001001,.sl 89 y7_ out1 (.deep true .no))])) he ?_ ?_
  ·rintro out1 he
   refine ZN (Zij) (fun out3=>(Zm [(4,.c (.own 10003000 false))],[(10003000,.sl 89 y7_ out3 (.deep true .no))])) he ?_ ?_
   ·rintro out3 he
    refine Zh he (fun he=>?_) fun he=>?_
    ·exact Zt [(2,[]),(3,[])] (Zj he :) (Za [(900,43)])
    ·exact Zt [(2,[]),(3,[])] (Zj he :) (Za [(900,10003000)])
   ·skip
    refine Zp (Zik (m_0,m_1)) (fun (i1,out2)=>(Zm [(1,.c (.ptr 10002000 0)),(4,.c (.own 10002001 false)),(6,.c (.int .i64 i1))],[(10002000,.rc [.imm y0_ (m_0,m_1).1,.imm y5_ (m_0,m_1).2]),(10002001,.sl 89 y7_ out2 (.deep true .no))])) he (Za [(10002000,10001000),(10002001,10001001)]) ?_
    rintro⟨i1,out2⟩ _ he
    refine Zh he (fun he=>?_) fun he=>?_
    ·refine And.intro (by kernel_rfl) ?_
     obtain⟨hq1,he⟩:=ZP he
     obtain⟨r6_,hq2,he⟩:=ZX he
     obtain⟨hq3,he⟩:=ZP he
     refine Y5 ?_ ?_
     ·skip
      refine Y4 ?_
      refine And.intro hq1 ?_
      exact ZIP
     ·skip
      refine And.intro hq1 ?_
      refine Y4 ?_
      exact ZIP
    ·exact⟨_,(Zbp he :),(Za [(10003000,10002001)])⟩
  ·skip
   refine Zp (Zil (m_0,m_1)) (fun (i,out)=>(Zm [(1,.c (.ptr 10000000 0)),(4,.c (.own 10000001 false)),(5,.c (.int .i64 i))],[(10000000,.rc [.imm y0_ (m_0,m_1).1,.imm y5_ (m_0,m_1).2]),(10000001,.sl 89 y7_ out (.deep true .no))])) he (Za [(10000000,1),(10000001,11)]) ?_
   rintro⟨i,out⟩ _ he
   refine Zh he (fun he=>?_) fun he=>?_
   ·refine Zi he fun r3_ he=>?_
    refine Zg he fun he=>?_
    refine Zg he fun he=>?_
    exact⟨_,(Zj he :),(Za [(10000001,23)])⟩
   ·exact⟨_,(Zbp he :),(Za [(10001000,10000000),(10001001,10000001)])⟩
def Zng:Con:=fun
  |[.agg [.imm (.int .i64) m_0,.imm (.pair (.int .i64) (.pair (.sl (.int .i64)) (.pair (.sl (.int .i64)) (.pair (.int .i64) (.sl (.sl (.int .i64))))))) m_1],.c (.imm (.int .i64) coefs)],[]=>.opt _ (Zna (m_0,m_1) coefs) (fun r=>.ret (.c (.bool r)) [])
  |_,_=>.fail
def ZCL:Cfg:={ y:=tys,n:=35,h:=0,tab:=[(130,ZgJ)] }
theorem Zvm:Zn Tryz.prog 63 Zng:=by
 refine Zq (C:=ZCL) Tryz.f63 (Zk ZnT Zr) fun _ a b k he=>?_
 unfold Zng at he;split at he;rotate_left;exact he.elim
 rename_i m_0 m_1 coefs
 refine Zs he fun he=>?_
 refine Zi he fun r1_ he=>?_
 refine ZD he (fun he=>?_) fun he=>?_
 ·refine Zh he (fun he=>?_) fun he=>?_
  ·exact Zbd
  ·refine Zp (Zmt coefs) (fun i=>(Zm [(1,.c (.imm y0_ coefs)),(5,.c (.int .i64 i))],[])) he (Za []) ?_
   rintro i _ he
   refine Zh he (fun he=>?_) fun he=>?_
   ·refine Zg he fun he=>?_
    refine ZD he (fun he=>?_) fun he=>?_
    ·refine Zg he fun he=>?_
     exact ZCq
    ·exact Z5
   ·exact Z5
 ·exact Zbd
end
end Go.AE.Y
