/-
  Walks: each function keeps the contract that its model gives. No conditions.
-/
import Derived.Test.YtaeeiddjpigemaaGreatR8Tab
import Derived.Test.YtaeeiddjpigemaaGreatR8W6
import Derived.Test.YtaeeiddjpigemaaGreatR8S
namespace Go.AE.Y
open Go Go.AE Go.Proofs
set_option linter.unusedVariables false
set_option maxHeartbeats 2000000
set_option maxRecDepth 100000
noncomputable section
def Zif:Con:=fun
  |[.agg [.int .i64 r__0,.imm (.int .i64) r__1,.imm (.int .i64) r__2,.int .i64 r__3,.imm (.sl (.int .i64)) r__4],.c (.ptr 0 0)],[(0,.rc [.imm (.int .i64) o0])]=>.opt _ (Zj6 (r__0,(r__1,(r__2,(r__3,r__4)))) o0) (fun r=>.ret (.c (.bool r)) [(0,.rc [.imm y0_ o0])])
  |_,_=>.fail
def Zt4:Cfg:={ y:=tys,n:=8,h:=1,tab:=[(142,Zot)] }
theorem Zuf:Zl Tryz.prog 141 Zif:=by
 refine Zn (C:=Zt4) Tryz.f141 (Zj ZBk Zo) fun _ a b k he=>?_
 unfold Zif at he;split at he;rotate_left;exact he.elim
 rename_i r__0 r__1 r__2 r__3 r__4 o0
 refine Zq he fun he=>?_
 refine Zh he fun r1_ he=>?_
 exact ZoZ
def ZbT:Con:=fun
  |[.c (.imm (.pair (.int .i64) (.pair (.sl (.int .i64)) (.pair (.sl (.int .i64)) (.pair (.int .i64) (.sl (.sl (.int .i64))))))) s_),.c (.fn 141 [0])],[(0,.rc [.imm (.int .i64) o0])]=>.opt _ (Zb1 s_ o0) (fun r=>.ret (.c (.int .i64 r)) [(0,.rc [.imm y0_ o0])])
  |_,_=>.fail
def ZfW:Cfg:={ y:=tys,n:=19,h:=1,tab:=[(141,Zif)] }
theorem ZfZ:Zl Tryz.prog 198 ZbT:=by
 refine Zn (C:=ZfW) Tryz.f198 (Zj Zuf Zo) fun _ a b k he=>?_
 unfold ZbT at he;split at he;rotate_left;exact he.elim
 rename_i s_ o0
 refine Zq he fun he=>?_
 refine Zr (ZX s_ o0) (fun i=>(Zm [(0,.c (.imm y4_ s_)),(1,.c (.fn 141 [0])),(7,.c (.int .i64 (s_.length:Int))),(8,.c (.int .i64 i))],[(0,.rc [.imm y0_ o0])])) he (Za []) ?_
 exact ZxE
def ZbG:Con:=fun
  |[.c (.imm (.pair (.int .i64) (.pair (.sl (.int .i64)) (.pair (.sl (.int .i64)) (.pair (.int .i64) (.sl (.sl (.int .i64))))))) s_),.c (.fn 141 [0])],[(0,.rc [.imm (.int .i64) o0])]=>.opt _ (ZbQ s_ o0) (fun r=>.ret (.c (.bool r)) [(0,.rc [.imm y0_ o0])])
  |_,_=>.fail
def Zfc:Cfg:={ y:=tys,n:=9,h:=1,tab:=[(198,ZbT)] }
theorem Zfh:Zl Tryz.prog 138 ZbG:=by
 refine Zn (C:=Zfc) Tryz.f138 (Zj ZfZ Zo) fun _ a b k he=>?_
 unfold ZbG at he;split at he;rotate_left;exact he.elim
 rename_i s_ o0
 refine Zq he fun he=>?_
 refine Zh he fun r1_ he=>?_
 exact ZK
def ZjU:Con:=fun
  |[.agg [.imm (.int .i64) m_0,.imm (.pair (.int .i64) (.pair (.sl (.int .i64)) (.pair (.sl (.int .i64)) (.pair (.int .i64) (.sl (.sl (.int .i64))))))) m_1],.c (.imm (.int .i64) cells)],[]=>.opt _ (ZhR (m_0,m_1) cells) (fun r=>.ret (.c (.bool r)) [])
  |_,_=>.fail
def ZvU:Cfg:={ y:=tys,n:=10,h:=0,tab:=[(138,ZbG)] }
theorem Zwb:Zl Tryz.prog 74 ZjU:=by
 refine Zn (C:=ZvU) Tryz.f74 (Zj Zfh Zo) fun _ a b k he=>?_
 unfold ZjU at he;split at he;rotate_left;exact he.elim
 rename_i m_0 m_1 cells
 refine Zq he fun he=>?_
 refine Zh he fun r1_ he=>?_
 exact ZK
def ZkL:Con:=fun
  |[.agg [.imm (.int .i64) m_0,.imm (.pair (.int .i64) (.pair (.sl (.int .i64)) (.pair (.sl (.int .i64)) (.pair (.int .i64) (.sl (.sl (.int .i64))))))) m_1],.c (.imm (.int .i64) cells)],[]=>.opt _ (ZiX (m_0,m_1) cells) (fun r=>.ret (.c (.bool r)) [])
  |_,_=>.fail
def Zwp:Cfg:={ y:=tys,n:=13,h:=0,tab:=[(74,ZjU),(76,ZlT)] }
theorem ZwS:Zl Tryz.prog 77 ZkL:=by
 refine Zn (C:=Zwp) Tryz.f77 (Zj Zwb (Zj Zyi Zo)) fun _ a b k he=>?_
 unfold ZkL at he;split at he;rotate_left;exact he.elim
 rename_i m_0 m_1 cells
 refine Zq he fun he=>?_
 refine Zh he fun r1_ he=>?_
 refine Zf he (fun he=>?_) fun he=>?_
 ·exact Zuz
 ·exact ZK
def ZiO:Con:=fun
  |[.c (.int .i64 n)],[]=>.opt _ (Zk4 n) (fun r=>.ret (.c (.bool r)) [])
  |_,_=>.fail
def ZuF:Cfg:={ y:=tys,n:=6,h:=0,tab:=[(127,ZbF)] }
theorem Zu6:Zl Tryz.prog 126 ZiO:=by
 refine Zn (C:=ZuF) Tryz.f126 (Zj Zb5 Zo) fun _ a b k he=>?_
 unfold ZiO at he;split at he;rotate_left;exact he.elim
 rename_i n
 refine Zq he fun he=>?_
 refine Zh he fun r1_ he=>?_
 exact Z6
def Zcl:Con:=fun
  |[.c (.imm (.int .i64) s_),.c (.fn 126 [])],[]=>.opt _ (ZcK s_) (fun r=>.ret (.c (.int .i64 r)) [])
  |_,_=>.fail
def Zh5:Cfg:={ y:=tys,n:=19,h:=0,tab:=[(126,ZiO)] }
theorem Zin:Zl Tryz.prog 186 Zcl:=by
 refine Zn (C:=Zh5) Tryz.f186 (Zj Zu6 Zo) fun _ a b k he=>?_
 unfold Zcl at he;split at he;rotate_left;exact he.elim
 rename_i s_
 refine Zq he fun he=>?_
 refine Zr (Zba s_) (fun i=>(Zm [(0,.c (.imm y0_ s_)),(1,.c (.fn 126 [])),(7,.c (.int .i64 (s_.length:Int))),(8,.c (.int .i64 i))],[])) he (Za []) ?_
 exact ZxF
def Zb7:Con:=fun
  |[.c (.imm (.int .i64) s_),.c (.fn 126 [])],[]=>.opt _ (Zcg s_) (fun r=>.ret (.c (.bool r)) [])
  |_,_=>.fail
def Zg4:Cfg:={ y:=tys,n:=9,h:=0,tab:=[(186,Zcl)] }
theorem Zhh:Zl Tryz.prog 125 Zb7:=by
 refine Zn (C:=Zg4) Tryz.f125 (Zj Zin Zo) fun _ a b k he=>?_
 unfold Zb7 at he;split at he;rotate_left;exact he.elim
 rename_i s_
 refine Zq he fun he=>?_
 refine Zh he fun r1_ he=>?_
 exact Z6
def Zha:Con:=fun
  |[.agg [.imm (.int .i64) m_0,.imm (.pair (.int .i64) (.pair (.sl (.int .i64)) (.pair (.sl (.int .i64)) (.pair (.int .i64) (.sl (.sl (.int .i64))))))) m_1],.c (.imm (.int .i64) coefs)],[]=>.opt _ (Zgd (m_0,m_1) coefs) (fun r=>.ret (.c (.bool r)) [])
  |_,_=>.fail
def Zwr:Cfg:={ y:=tys,n:=16,h:=0,tab:=[(125,Zb7)] }
theorem ZpU:Zl Tryz.prog 56 Zha:=by
 refine Zn (C:=Zwr) Tryz.f56 (Zj Zhh Zo) fun _ a b k he=>?_
 unfold Zha at he;split at he;rotate_left;exact he.elim
 rename_i m_0 m_1 coefs
 refine Zq he fun he=>?_
 refine Zf he (fun he=>?_) fun he=>?_
 ·exact ZB7
 ·exact ZK
def Zov:Con:=fun
  |[.c (.imm (.int .i64) coefs),.c (.imm (.int .i64) cells)],[]=>.opt _ (ZnO coefs cells) (fun r=>.ret (.c (.int .i64 r)) [])
  |_,_=>.fail
def ZAH:Cfg:={ y:=tys,n:=25,h:=0,tab:=[] }
theorem ZBm:Zl Tryz.prog 60 Zov:=by
 refine Zn (C:=ZAH) Tryz.f60 Zo fun _ a b k he=>?_
 unfold Zov at he;split at he;rotate_left;exact he.elim
 rename_i coefs cells
 refine Zq he fun he=>?_
 refine Zr (ZnP coefs cells) (fun (sum,i)=>(Zm [(0,.c (.imm y0_ coefs)),(5,.c (.int .i64 sum)),(8,.c (.imm y0_ cells)),(9,.c (.int .i64 (cells.length:Int))),(10,.c (.int .i64 i))],[])) he (Za []) ?_
 rintro⟨sum,i⟩ _ he
 refine Zf he (fun he=>?_) fun he=>?_
 ·exact ZxC
 ·exact Z6
def ZgO:Con:=fun
  |[.agg [.imm (.int .i64) m_0,.imm (.pair (.int .i64) (.pair (.sl (.int .i64)) (.pair (.sl (.int .i64)) (.pair (.int .i64) (.sl (.sl (.int .i64))))))) m_1],.c (.imm (.int .i64) coefs),.c (.int .i64 most)],[]=>.opt _ (ZeZ (m_0,m_1) coefs most) (fun r=>.ret (.tup [.agg [.own 901 false,.int .i64 r.2.1],.c (.bool r.1)]) [(900,.rc [.own 901 false,.int .i64 r.2.1]),(901,.sl 155 y5_ r.2.2 .shallow)])
  |_,_=>.fail
def Zsm:Cfg:={ y:=tys,n:=63,h:=0,tab:=[(56,Zha),(71,Zfl),(127,ZbF),(128,Zdd),(129,ZjF)],cut:=[13],sched:=[(10,(Zv [0,1,2,3,4,5,6,7,9,10] (.alt 8 (.alt 11 (.alt 12 (.alt 13 (.alt 14 (.first 15 .done) .stop) .stop) .stop) .stop) .stop)))] }
theorem ZsA:Zl Tryz.prog 59 ZgO:=by
 refine Zn (C:=Zsm) Tryz.f59 (Zj ZpU (Zj Zl0 (Zj Zb5 (Zj ZfI (Zj Zqr Zo))))) fun _ a b k he=>?_
 unfold ZgO at he;split at he;rotate_left;exact he.elim
 rename_i m_0 m_1 coefs most
 refine Zq he fun he=>?_
 refine Zh he fun r1_ he=>?_
 refine ZC he (fun he=>?_) fun he=>?_
 ·refine Zh he fun r2_ he=>?_
  refine ZC he (fun he=>?_) fun he=>?_
  ·refine Zh he fun r3_ he=>?_
   refine Zf he (fun he=>?_) fun he=>?_
   ·exact ZuC
   ·refine ZT (Zga most) (fun terms3=>(Zm [(2,.c (.int .i64 most)),(6,.c (.ptr 10003000 0)),(8,.c (.own 10003001 false))],[(10003000,.rc [.nil,.int .i64 (0:Int)]),(10003001,.sl 155 y5_ terms3 .shallow)])) he ?_ ?_
    ·rintro terms3 he
     refine Zi he fun he=>?_
     refine Zh he fun r9_ he=>?_
     exact Zy [(6,[900]),(7,[])] (Zk he :) (Za [(900,10003000),(901,61901)])
    ·skip
     refine Zr (ZdM (m_0,m_1) coefs most) (fun (i,terms1)=>(Zm [(1,.c (.imm y0_ coefs)),(2,.c (.int .i64 most)),(3,.c (.ptr 10000000 0)),(6,.c (.ptr 10000001 0)),(8,.c (.own 10000002 false)),(28,.c (.imm y0_ (m_0,m_1).1)),(29,.c (.int .i64 ((m_0,m_1).1.length:Int))),(30,.c (.int .i64 i))],[(10000000,.rc [.imm y0_ (m_0,m_1).1,.imm y4_ (m_0,m_1).2]),(10000001,.rc [.nil,.int .i64 (0:Int)]),(10000002,.sl 155 y5_ terms1 .shallow)])) he (Za [(10000000,3),(10000001,6)]) ?_
     rintro⟨i,terms1⟩ _ he
     refine Zf he (fun he=>?_) fun he=>?_
     ·refine Zi he fun he=>?_
      refine Zi he fun he=>?_
      refine Zr (ZdN (m_0,m_1) coefs i) (fun (i2,terms2)=>(Zm [(1,.c (.imm y0_ coefs)),(2,.c (.int .i64 most)),(3,.c (.ptr 10002000 0)),(6,.c (.ptr 10002001 0)),(8,.c (.own 10002002 false)),(9,.c (.int .i64 i)),(28,.c (.imm y0_ (m_0,m_1).1)),(29,.c (.int .i64 ((m_0,m_1).1.length:Int))),(30,.c (.int .i64 i)),(36,.c (.int .i64 (((m_0,m_1).1.getD i.toNat 0)+(1:Int)))),(37,.c (.int .i64 i2))],[(10002000,.rc [.imm y0_ (m_0,m_1).1,.imm y4_ (m_0,m_1).2]),(10002001,.rc [.nil,.int .i64 (0:Int)]),(10002002,.sl 155 y5_ terms2 .shallow)])) he (Za [(10002000,10000000),(10002001,10000001),(10002002,10000002)]) ?_
      rintro⟨i2,terms2⟩ _ he
      refine Zf he (fun he=>?_) fun he=>?_
      ·refine And.intro (by kernel_rfl) ?_
       refine Zi he fun he=>?_
       refine Zi he fun he=>?_
       refine Zi he fun he=>?_
       refine Y4 ?_
       refine Y4 ?_
       refine Zh he fun r8_ he=>?_
       refine Y4 ?_
       refine Y4 ?_
       refine Y4 ?_
       refine Zi he fun he=>?_
       exact ZHp
      ·refine Zi he fun he=>?_
       exact⟨_,(Zk he :),(Za [(10000000,10002000),(10000001,10002001),(10000002,10002002)])⟩
     ·exact⟨_,(ZcJ he :),(Za [(10003000,10000001),(10003001,10000002)])⟩
  ·exact ZuC
 ·exact ZuC
def Zb6:Con:=fun
  |[.c (.imm (.pair (.sl (.pair (.int .i64) (.int .i64))) (.int .i64)) s_)],[]=>.opt _ (ZbU s_) (fun r=>.ret (.c (.own 900 false)) [(900,.sl 89 y6_ r .shallow)])
  |_,_=>.fail
def Znn:Cfg:={ y:=tys,n:=8,h:=0,tab:=[] }
theorem ZdV:Zl Tryz.prog 61 Zb6:=by
 refine Zn (C:=Znn) Tryz.f61 Zo fun _ a b k he=>?_
 unfold Zb6 at he;split at he;rotate_left;exact he.elim
 rename_i s_
 refine Zq he fun he=>?_
 refine fun b1_ hb1_=>?_
 have he:=ZH4 he hb1_
 refine And.intro (fun hb=>?_) (fun hb=>?_)
 ·have he:=ZE5 he hb
  exact ZA
 ·have he:=ZE4 he hb
  refine Zi he fun he=>?_
  exact Zy [(2,[])] (Zk he :) (Za [(900,7)])
def ZlU:Con:=fun
  |[.agg [.imm (.pair (.int .i64) (.int .i64)) c__0,.int .i64 c__1]],[]=>.opt _ (ZnM (c__0,c__1)) (fun r=>.ret (.c (.bool r)) [])
  |_,_=>.fail
def Zyc:Cfg:={ y:=tys,n:=6,h:=0,tab:=[(223,Z1)] }
theorem Zyk:Zl Tryz.prog 222 ZlU:=by
 refine Zn (C:=Zyc) Tryz.f222 (Zj Zbk Zo) fun _ a b k he=>?_
 unfold ZlU at he;split at he;rotate_left;exact he.elim
 rename_i c__0 c__1
 refine Zq he fun he=>?_
 refine Zh he fun r1_ he=>?_
 exact ZA
def ZbK:Con:=fun
  |[.c (.imm (.pair (.sl (.pair (.int .i64) (.int .i64))) (.int .i64)) s_),.c (.fn 222 [])],[]=>.opt _ (ZbV s_) (fun r=>.ret (.c (.int .i64 r)) [])
  |_,_=>.fail
def Zfk:Cfg:={ y:=tys,n:=19,h:=0,tab:=[(222,ZlU)] }
theorem Zfp:Zl Tryz.prog 225 ZbK:=by
 refine Zn (C:=Zfk) Tryz.f225 (Zj Zyk Zo) fun _ a b k he=>?_
 unfold ZbK at he;split at he;rotate_left;exact he.elim
 rename_i s_
 refine Zq he fun he=>?_
 refine Zr (ZS s_) (fun i=>(Zm [(0,.c (.imm y6_ s_)),(1,.c (.fn 222 [])),(7,.c (.int .i64 (s_.length:Int))),(8,.c (.int .i64 i))],[])) he (Za []) ?_
 exact ZxF
def Zbw:Con:=fun
  |[.c (.imm (.pair (.sl (.pair (.int .i64) (.int .i64))) (.int .i64)) s_),.c (.fn 222 [])],[]=>.opt _ (ZbI s_) (fun r=>.ret (.c (.bool r)) [])
  |_,_=>.fail
def ZeG:Cfg:={ y:=tys,n:=9,h:=0,tab:=[(225,ZbK)] }
theorem ZeP:Zl Tryz.prog 161 Zbw:=by
 refine Zn (C:=ZeG) Tryz.f161 (Zj Zfp Zo) fun _ a b k he=>?_
 unfold Zbw at he;split at he;rotate_left;exact he.elim
 rename_i s_
 refine Zq he fun he=>?_
 refine Zh he fun r1_ he=>?_
 exact Z6
def Znv:Con:=fun
  |[.c (.imm (.pair (.sl (.pair (.int .i64) (.int .i64))) (.int .i64)) list_)],[]=>.opt _ (Zqn list_) (fun r=>.ret (.c (.bool r)) [])
  |_,_=>.fail
def Zzo:Cfg:={ y:=tys,n:=6,h:=0,tab:=[(161,Zbw)] }
theorem ZzQ:Zl Tryz.prog 159 Znv:=by
 refine Zn (C:=Zzo) Tryz.f159 (Zj ZeP Zo) fun _ a b k he=>?_
 unfold Znv at he;split at he;rotate_left;exact he.elim
 rename_i list_
 refine Zq he fun he=>?_
 refine Zh he fun r1_ he=>?_
 exact Z6
def ZjW:Con:=fun
  |[.c (.imm (.pair (.sl (.pair (.int .i64) (.int .i64))) (.int .i64)) list_)],[]=>.opt _ (ZhT list_) (fun r=>.ret (.c (.bool r)) [])
  |_,_=>.fail
def ZvW:Cfg:={ y:=tys,n:=10,h:=0,tab:=[(159,Znv)] }
theorem Zwd:Zl Tryz.prog 98 ZjW:=by
 refine Zn (C:=ZvW) Tryz.f98 (Zj ZzQ Zo) fun _ a b k he=>?_
 unfold ZjW at he;split at he;rotate_left;exact he.elim
 rename_i list_
 refine Zq he fun he=>?_
 refine Zf he (fun he=>?_) fun he=>?_
 ·exact ZB3
 ·exact Z6
def Zmw:Con:=fun
  |[.c (.int .i64 kind)],[]=>.opt _ (Zmp kind) (fun r=>.ret (.tup [.c (.int .i64 r.1),.c (.bool r.2)]) [])
  |_,_=>.fail
def ZCQ:Cfg:={ y:=tys,n:=17,h:=0,tab:=[] }
theorem ZvK:Zl Tryz.prog 155 Zmw:=by
 refine Zn (C:=ZCQ) Tryz.f155 Zo fun _ a b k he=>?_
 unfold Zmw at he;split at he;rotate_left;exact he.elim
 rename_i kind
 refine Zq he fun he=>?_
 refine Zf he (fun he=>?_) fun he=>?_
 ·exact Z6
 ·refine Zf he (fun he=>?_) fun he=>?_
  ·exact Z6
  ·refine Zf he (fun he=>?_) fun he=>?_
   ·exact Z6
   ·refine Zf he (fun he=>?_) fun he=>?_
    ·exact Z6
    ·refine Zf he (fun he=>?_) fun he=>?_
     ·exact Z6
     ·refine Zf he (fun he=>?_) fun he=>?_
      ·exact Z6
      ·refine Zf he (fun he=>?_) fun he=>?_
       ·exact Z6
       ·exact ZAq
def Zf4:Con:=fun
  |[.c (.imm (.pair (.int .i64) (.int .i64)) s1_),.c (.imm (.pair (.int .i64) (.int .i64)) s2_)],[]=>.opt _ (Zez s1_ s2_) (fun r=>.ret (.c (.bool r)) [])
  |_,_=>.fail
def Zrs:Cfg:={ y:=tys,n:=26,h:=0,tab:=[] }
theorem ZrW:Zl Tryz.prog 137 Zf4:=by
 refine Zn (C:=Zrs) Tryz.f137 Zo fun _ a b k he=>?_
 unfold Zf4 at he;split at he;rotate_left;exact he.elim
 rename_i s1_ s2_
 refine Zq he fun he=>?_
 refine Zf he (fun he=>?_) fun he=>?_
 ·exact Z6
 ·refine Zr (ZfO s1_ s2_) (fun i=>(Zm [(0,.c (.imm y5_ s1_)),(1,.c (.imm y5_ s2_)),(12,.c (.int .i64 (s1_.length:Int))),(13,.c (.int .i64 i))],[])) he (Za []) ?_
  exact ZAu
def Zie:Con:=fun
  |[.agg [.imm (.pair (.int .i64) (.int .i64)) a_0,.int .i64 a_1],.agg [.imm (.pair (.int .i64) (.int .i64)) b_0,.int .i64 b_1]],[]=>.opt _ (Zbg (a_0,a_1) (b_0,b_1)) (fun r=>.ret (.c (.bool r)) [])
  |_,_=>.fail
def Zt2:Cfg:={ y:=tys,n:=17,h:=0,tab:=[(137,Zf4)] }
theorem Zue:Zl Tryz.prog 70 Zie:=by
 refine Zn (C:=Zt2) Tryz.f70 (Zj ZrW Zo) fun _ a b k he=>?_
 unfold Zie at he;split at he;rotate_left;exact he.elim
 rename_i a_0 a_1 b_0 b_1
 refine Zq he fun he=>?_
 refine Zf he (fun he=>?_) fun he=>?_
 ·exact ZB7
 ·exact ZK
end
end Go.AE.Y
