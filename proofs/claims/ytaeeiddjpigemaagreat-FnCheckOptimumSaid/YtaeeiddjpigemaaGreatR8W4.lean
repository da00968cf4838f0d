/-
  Walks: each function keeps the contract that its model gives. No conditions.
-/
import Derived.Test.YtaeeiddjpigemaaGreatR8Tab
import Derived.Test.YtaeeiddjpigemaaGreatR8W3
import Derived.Test.YtaeeiddjpigemaaGreatR8S
namespace Go.AE.Y
open Go Go.AE Go.Proofs
set_option linter.unusedVariables false
set_option maxHeartbeats 2000000
set_option maxRecDepth 100000
noncomputable section
def Zc6:Con:=fun
  |[.c (.imm (.sl (.int .i64)) s_),.c (.fn 201 [0])],[(0,.rc [.int .i64 o0_0,.imm (.int .i64) o0_1,.imm (.int .i64) o0_2,.int .i64 o0_3,.imm (.sl (.int .i64)) o0_4])]=>.opt _ (Zdx s_ (o0_0,(o0_1,(o0_2,(o0_3,o0_4))))) (fun r=>.ret (.c (.int .i64 r)) [(0,.rc [.int .i64 o0_0,.imm y0_ o0_1,.imm y0_ o0_2,.int .i64 o0_3,.imm (.sl y0_) o0_4])])
  |_,_=>.fail
def Zko:Cfg:={ y:=tys,n:=19,h:=1,tab:=[(201,Znq)] }
theorem ZxZ {P:Prop} (h:P:=by
  rintro i _ he
  exact ZOa):P:=h
theorem ZkO:Zn Tryz.prog 250 Zc6:=by
 refine Zq (C:=Zko) Tryz.f250 (Zk ZAA Zr) fun _ a b k he=>?_
 unfold Zc6 at he;split at he;rotate_left;exact he.elim
 rename_i s_ o0_0 o0_1 o0_2 o0_3 o0_4
 refine Zs he fun he=>?_
 refine Zt (Zbq s_ (o0_0,(o0_1,(o0_2,(o0_3,o0_4))))) (fun i=>(Zm [(0,.c (.imm (.sl y0_) s_)),(1,.c (.fn 201 [0])),(7,.c (.int .i64 (s_.length:Int))),(8,.c (.int .i64 i))],[(0,.rc [.int .i64 (o0_0,(o0_1,(o0_2,(o0_3,o0_4)))).1,.imm y0_ (o0_0,(o0_1,(o0_2,(o0_3,o0_4)))).2.1,.imm y0_ (o0_0,(o0_1,(o0_2,(o0_3,o0_4)))).2.2.1,.int .i64 (o0_0,(o0_1,(o0_2,(o0_3,o0_4)))).2.2.2.1,.imm (.sl y0_) (o0_0,(o0_1,(o0_2,(o0_3,o0_4)))).2.2.2.2])])) he (Za []) ?_
 exact ZxZ
def ZcM:Con:=fun
  |[.c (.imm (.sl (.int .i64)) s_),.c (.fn 201 [0])],[(0,.rc [.int .i64 o0_0,.imm (.int .i64) o0_1,.imm (.int .i64) o0_2,.int .i64 o0_3,.imm (.sl (.int .i64)) o0_4])]=>.opt _ (Zb5 s_ (o0_0,(o0_1,(o0_2,(o0_3,o0_4))))) (fun r=>.ret (.c (.bool r)) [(0,.rc [.int .i64 o0_0,.imm y0_ o0_1,.imm y0_ o0_2,.int .i64 o0_3,.imm (.sl y0_) o0_4])])
  |_,_=>.fail
def Zjd:Cfg:={ y:=tys,n:=9,h:=1,tab:=[(250,Zc6)] }
theorem Zju:Zn Tryz.prog 200 ZcM:=by
 refine Zq (C:=Zjd) Tryz.f200 (Zk ZkO Zr) fun _ a b k he=>?_
 unfold ZcM at he;split at he;rotate_left;exact he.elim
 rename_i s_ o0_0 o0_1 o0_2 o0_3 o0_4
 refine Zs he fun he=>?_
 refine Zi he fun r1_ he=>?_
 exact Z3
def ZpM:Con:=fun
  |[.agg [.int .i64 a0_0,.imm (.int .i64) a0_1,.imm (.int .i64) a0_2,.int .i64 a0_3,.imm (.sl (.int .i64)) a0_4],.c (.int .i64 a1)],[]=>.opt _ (Zof (a0_0,(a0_1,(a0_2,(a0_3,a0_4)))) a1) (fun r=>.ret (.c (.bool r)) [])
  |_,_=>.fail
def ZCE:Cfg:={ y:=tys,n:=104,h:=0,tab:=[(125,ZcU),(127,Zb9),(178,ZeN),(200,ZcM)],cut:=[9] }
theorem ZLh {P:Prop} (h:P:=by
  refine Zh he fun he=>?_
  refine Zi he fun r2_ he=>?_
  exact ZJH):P:=h
theorem ZLi {P:Prop} (h:P:=by
  refine Zg he (fun he=>?_) fun he=>?_
  ·refine Zg he (fun he=>?_) fun he=>?_
   ·exact Z3
   ·exact⟨_,he,(Za [(10001000,10000000)])⟩
  ·exact⟨_,he,(Za [(10001000,10000000)])⟩):P:=h
theorem ZCX:Zn Tryz.prog 140 ZpM:=by
 refine Zq (C:=ZCE) Tryz.f140 (Zk Zj0 (Zk ZcH (Zk ZkL (Zk Zju Zr)))) fun _ a b k he=>?_
 unfold ZpM at he;split at he;rotate_left;exact he.elim
 rename_i a0_0 a0_1 a0_2 a0_3 a0_4 a1
 refine Zs he fun he=>?_
 refine Zt (Zj8 (a0_0,(a0_1,(a0_2,(a0_3,a0_4)))) a1) (fun i=>(Zm [(1,.c (.int .i64 a1)),(2,.c (.ptr 10000000 0)),(8,.c (.imm y0_ (a0_0,(a0_1,(a0_2,(a0_3,a0_4)))).2.1)),(9,.c (.int .i64 ((a0_0,(a0_1,(a0_2,(a0_3,a0_4)))).2.1.length:Int))),(10,.c (.int .i64 i))],[(10000000,.rc [.int .i64 (a0_0,(a0_1,(a0_2,(a0_3,a0_4)))).1,.imm y0_ (a0_0,(a0_1,(a0_2,(a0_3,a0_4)))).2.1,.imm y0_ (a0_0,(a0_1,(a0_2,(a0_3,a0_4)))).2.2.1,.int .i64 (a0_0,(a0_1,(a0_2,(a0_3,a0_4)))).2.2.2.1,.imm (.sl y0_) (a0_0,(a0_1,(a0_2,(a0_3,a0_4)))).2.2.2.2])])) he (Za [(10000000,2)]) ?_
 rintro i _ he
 refine Zg he (fun he=>?_) fun he=>?_
 ·refine Zh he fun he=>?_
  refine Zh he fun he=>?_
  refine Zi he fun r1_ he=>?_
  refine ZC he (fun he=>?_) fun he=>?_
  ·exact ZLh
  ·exact Z3
 ·refine ZK (Zen (a0_0,(a0_1,(a0_2,(a0_3,a0_4))))) (fun _=>(Zm [(2,.c (.ptr 10001000 0))],[(10001000,.rc [.int .i64 (a0_0,(a0_1,(a0_2,(a0_3,a0_4)))).1,.imm y0_ (a0_0,(a0_1,(a0_2,(a0_3,a0_4)))).2.1,.imm y0_ (a0_0,(a0_1,(a0_2,(a0_3,a0_4)))).2.2.1,.int .i64 (a0_0,(a0_1,(a0_2,(a0_3,a0_4)))).2.2.2.1,.imm (.sl y0_) (a0_0,(a0_1,(a0_2,(a0_3,a0_4)))).2.2.2.2])])) he ?_ ?_
  ·rintro⟨⟩ he
   refine Zg he (fun he=>?_) fun he=>?_
   ·refine Zg he (fun he=>?_) fun he=>?_
    ·refine Zi he fun r3_ he=>?_
     refine Zg he (fun he=>?_) fun he=>?_
     ·refine Zi he fun r4_ he=>?_
      exact Z3
     ·exact Z3
    ·exact Z3
   ·refine Zg he (fun he=>?_) fun he=>?_
    ·refine Zg he (fun he=>?_) fun he=>?_
     ·refine Zi he fun r5_ he=>?_
      exact Z3
     ·exact Z3
    ·refine Zg he (fun he=>?_) fun he=>?_
     ·exact Z3
     ·exact Z3
  ·skip
   refine ZC he (fun he=>?_) fun he=>?_
   ·refine Zg he (fun he=>?_) fun he=>?_
    ·refine ZC he (fun he=>?_) fun he=>?_
     ·refine ZC he (fun he=>?_) fun he=>?_
      ·exact ZLi
      ·exact Z3
     ·exact Z3
    ·exact ZLi
   ·exact Z3
def Zmt:Con:=fun
  |[.agg [.int .i64 r__0,.imm (.int .i64) r__1,.imm (.int .i64) r__2,.int .i64 r__3,.imm (.sl (.int .i64)) r__4],.c (.ptr 0 0)],[(0,.rc [.imm (.int .i64) o0_0,.imm (.pair (.int .i64) (.pair (.sl (.int .i64)) (.pair (.sl (.int .i64)) (.pair (.int .i64) (.sl (.sl (.int .i64))))))) o0_1])]=>.opt _ (ZoG (r__0,(r__1,(r__2,(r__3,r__4)))) (o0_0,o0_1)) (fun r=>.ret (.c (.bool r)) [(0,.rc [.imm y0_ o0_0,.imm y5_ o0_1])])
  |_,_=>.fail
def Zzu:Cfg:={ y:=tys,n:=10,h:=1,tab:=[(140,ZpM)] }
theorem ZzL:Zn Tryz.prog 139 Zmt:=by
 refine Zq (C:=Zzu) Tryz.f139 (Zk ZCX Zr) fun _ a b k he=>?_
 unfold Zmt at he;split at he;rotate_left;exact he.elim
 rename_i r__0 r__1 r__2 r__3 r__4 o0_0 o0_1
 refine Zs he fun he=>?_
 refine Zi he fun r1_ he=>?_
 exact Zvz
def ZcC:Con:=fun
  |[.c (.imm (.pair (.int .i64) (.pair (.sl (.int .i64)) (.pair (.sl (.int .i64)) (.pair (.int .i64) (.sl (.sl (.int .i64))))))) s_),.c (.fn 139 [0])],[(0,.rc [.imm (.int .i64) o0_0,.imm (.pair (.int .i64) (.pair (.sl (.int .i64)) (.pair (.sl (.int .i64)) (.pair (.int .i64) (.sl (.sl (.int .i64))))))) o0_1])]=>.opt _ (ZcO s_ (o0_0,o0_1)) (fun r=>.ret (.c (.int .i64 r)) [(0,.rc [.imm y0_ o0_0,.imm y5_ o0_1])])
  |_,_=>.fail
def ZiL:Cfg:={ y:=tys,n:=19,h:=1,tab:=[(139,Zmt)] }
theorem ZiM:Zn Tryz.prog 198 ZcC:=by
 refine Zq (C:=ZiL) Tryz.f198 (Zk ZzL Zr) fun _ a b k he=>?_
 unfold ZcC at he;split at he;rotate_left;exact he.elim
 rename_i s_ o0_0 o0_1
 refine Zs he fun he=>?_
 refine Zt (Zbb s_ (o0_0,o0_1)) (fun i=>(Zm [(0,.c (.imm y5_ s_)),(1,.c (.fn 139 [0])),(7,.c (.int .i64 (s_.length:Int))),(8,.c (.int .i64 i))],[(0,.rc [.imm y0_ (o0_0,o0_1).1,.imm y5_ (o0_0,o0_1).2])])) he (Za []) ?_
 exact ZxZ
def Zcg:Con:=fun
  |[.c (.imm (.pair (.int .i64) (.pair (.sl (.int .i64)) (.pair (.sl (.int .i64)) (.pair (.int .i64) (.sl (.sl (.int .i64))))))) s_),.c (.fn 139 [0])],[(0,.rc [.imm (.int .i64) o0_0,.imm (.pair (.int .i64) (.pair (.sl (.int .i64)) (.pair (.sl (.int .i64)) (.pair (.int .i64) (.sl (.sl (.int .i64))))))) o0_1])]=>.opt _ (ZbH s_ (o0_0,o0_1)) (fun r=>.ret (.c (.bool r)) [(0,.rc [.imm y0_ o0_0,.imm y5_ o0_1])])
  |_,_=>.fail
def Zg9:Cfg:={ y:=tys,n:=9,h:=1,tab:=[(198,ZcC)] }
theorem Zhn:Zn Tryz.prog 138 Zcg:=by
 refine Zq (C:=Zg9) Tryz.f138 (Zk ZiM Zr) fun _ a b k he=>?_
 unfold Zcg at he;split at he;rotate_left;exact he.elim
 rename_i s_ o0_0 o0_1
 refine Zs he fun he=>?_
 refine Zi he fun r1_ he=>?_
 exact Z3
def Zfn:Con:=fun
  |[.agg [.imm (.int .i64) m_0,.imm (.pair (.int .i64) (.pair (.sl (.int .i64)) (.pair (.sl (.int .i64)) (.pair (.int .i64) (.sl (.sl (.int .i64))))))) m_1]],[]=>.opt _ (Zeu (m_0,m_1)) (fun r=>.ret (.c (.bool r)) [])
  |_,_=>.fail
def ZB4:Cfg:={ y:=tys,n:=41,h:=0,tab:=[(127,Zb9),(138,Zcg)] }
theorem Zj9:Zn Tryz.prog 71 Zfn:=by
 refine Zq (C:=ZB4) Tryz.f71 (Zk ZcH (Zk Zhn Zr)) fun _ a b k he=>?_
 unfold Zfn at he;split at he;rotate_left;exact he.elim
 rename_i m_0 m_1
 refine Zs he fun he=>?_
 refine Zi he fun r1_ he=>?_
 refine ZC he (fun he=>?_) fun he=>?_
 ·refine Zg he (fun he=>?_) fun he=>?_
  ·exact ZM
  ·refine Zt (ZnG (m_0,m_1)) (fun (count,i)=>(Zm [(1,.c (.ptr 10000000 0)),(3,.c (.int .i64 count)),(18,.c (.imm y0_ (m_0,m_1).1)),(19,.c (.int .i64 ((m_0,m_1).1.length:Int))),(20,.c (.int .i64 i))],[(10000000,.rc [.imm y0_ (m_0,m_1).1,.imm y5_ (m_0,m_1).2])])) he (Za [(10000000,1)]) ?_
   rintro⟨count,i⟩ _ he
   refine Zg he (fun he=>?_) fun he=>?_
   ·refine Zh he fun he=>?_
    refine Zi he fun r2_ he=>?_
    refine Zg he (fun he=>?_) fun he=>?_
    ·exact ZM
    ·exact Zvu
   ·refine Zg he (fun he=>?_) fun he=>?_
    ·refine Zi he fun r3_ he=>?_
     exact ZM
    ·exact ZM
 ·exact ZM
def Zee:Con:=fun
  |[.agg [.imm (.int .i64) m_0,.imm (.pair (.int .i64) (.pair (.sl (.int .i64)) (.pair (.sl (.int .i64)) (.pair (.int .i64) (.sl (.sl (.int .i64))))))) m_1],.c (.int .i64 cell),.c (.int .i64 value)],[]=>.opt _ (Zdr (m_0,m_1) cell value) (fun r=>.ret (.c (.int .i64 r)) [])
  |_,_=>.fail
def Zyc:Cfg:={ y:=tys,n:=27,h:=0,tab:=[] }
theorem Zhm:Zn Tryz.prog 128 Zee:=by
 refine Zq (C:=Zyc) Tryz.f128 Zr fun _ a b k he=>?_
 unfold Zee at he;split at he;rotate_left;exact he.elim
 rename_i m_0 m_1 cell value
 refine Zs he fun he=>?_
 refine Zh he fun he=>?_
 refine Zh he fun he=>?_
 refine Zt (ZkF (m_0,m_1) cell) (fun (v,i)=>(Zm [(7,.c (.int .i64 v)),(15,.c (.imm y0_ ((m_0,m_1).1.take cell.toNat))),(16,.c (.int .i64 (((m_0,m_1).1.take cell.toNat).length:Int))),(17,.c (.int .i64 i))],[])) he (Za []) ?_
 rintro⟨v,i⟩ _ he
 refine Zg he (fun he=>?_) fun he=>?_
 ·exact Zvv
 ·exact Zbf
def Zmu:Con:=fun
  |[.agg [.imm (.int .i64) m_0,.imm (.pair (.int .i64) (.pair (.sl (.int .i64)) (.pair (.sl (.int .i64)) (.pair (.int .i64) (.sl (.sl (.int .i64))))))) m_1],.c (.int .i64 cell)],[]=>.opt _ (ZgZ (m_0,m_1) cell) (fun r=>.ret (.c (.own 900 false)) [(900,.sl 3 y0_ r .shallow)])
  |_,_=>.fail
def Zzw:Cfg:={ y:=tys,n:=25,h:=0,tab:=[(128,Zee)] }
theorem ZzM:Zn Tryz.prog 118 Zmu:=by
 refine Zq (C:=Zzw) Tryz.f118 (Zk Zhm Zr) fun _ a b k he=>?_
 unfold Zmu at he;split at he;rotate_left;exact he.elim
 rename_i m_0 m_1 cell
 refine Zs he fun he=>?_
 refine Zh he fun he=>?_
 refine Zh he fun he=>?_
 refine Zt (Zfa (m_0,m_1) cell) (fun (i,out)=>(Zm [(1,.c (.int .i64 cell)),(2,.c (.ptr 10000000 0)),(5,.c (.own 10000001 false)),(12,.c (.int .i64 (((m_0,m_1).1.getD cell.toNat 0)+(1:Int)))),(13,.c (.int .i64 i))],[(10000000,.rc [.imm y0_ (m_0,m_1).1,.imm y5_ (m_0,m_1).2]),(10000001,.sl 3 y0_ out .shallow)])) he (Za [(10000000,2)]) ?_
 rintro⟨i,out⟩ _ he
 refine Zg he (fun he=>?_) fun he=>?_
 ·refine Zi he fun r2_ he=>?_
  refine Zh he fun he=>?_
  refine Zh he fun he=>?_
  exact⟨_,(Zj he :),(Za [(10000001,22)])⟩
 ·exact Zv [(4,[])] (Zj he :) (Za [(900,10000001)])
def ZhP:Con:=fun
  |[.c (.int .i64 l)],[]=>.opt _ (ZhJ l) (fun r=>.ret (.c (.bool r)) [])
  |_,_=>.fail
def ZCC:Cfg:={ y:=tys,n:=9,h:=0,tab:=[(127,Zb9)] }
theorem ZpU:Zn Tryz.prog 177 ZhP:=by
 refine Zq (C:=ZCC) Tryz.f177 (Zk ZcH Zr) fun _ a b k he=>?_
 unfold ZhP at he;split at he;rotate_left;exact he.elim
 rename_i l
 refine Zs he fun he=>?_
 refine Zg he (fun he=>?_) fun he=>?_
 ·exact ZJU
 ·exact Zbf
def Zd1:Con:=fun
  |[.c (.imm (.int .i64) s_)],[]=>.opt _ (Zbr s_) (fun r=>.ret (.c (.own 900 false)) [(900,.sl 3 y0_ r .shallow)])
  |_,_=>.fail
def Zz4:Cfg:={ y:=tys,n:=8,h:=0,tab:=[] }
theorem Zgr:Zn Tryz.prog 75 Zd1:=by
 refine Zq (C:=Zz4) Tryz.f75 Zr fun _ a b k he=>?_
 unfold Zd1 at he;split at he;rotate_left;exact he.elim
 rename_i s_
 refine Zs he fun he=>?_
 refine fun b1_ hb1_=>?_
 have he:=ZMw he hb1_
 refine And.intro (fun hb=>?_) (fun hb=>?_)
 ·have he:=ZI5 he hb
  exact ZM
 ·have he:=ZI4 he hb
  refine Zh he fun he=>?_
  exact Zv [(2,[])] (Zj he :) (Za [(900,7)])
def ZgW:Con:=fun
  |[.c (.int .i64 l)],[]=>.opt _ (Zdk l) (fun r=>.ret (.c (.int .i64 r)) [])
  |_,_=>.fail
def ZB7:Cfg:={ y:=tys,n:=7,h:=0,tab:=[] }
theorem ZoJ:Zn Tryz.prog 170 ZgW:=by
 refine Zq (C:=ZB7) Tryz.f170 Zr fun _ a b k he=>?_
 unfold ZgW at he;split at he;rotate_left;exact he.elim
 rename_i l
 refine Zs he fun he=>?_
 refine Zh he fun he=>?_
 exact Zbf
def ZtL:Con:=fun
  |[.c (.int .i64 a),.c (.int .i64 b)],[]=>.opt _ (Zjn a b) (fun r=>.ret (.c (.int .i64 r)) [])
  |_,_=>.fail
def ZB3:Cfg:={ y:=tys,n:=10,h:=0,tab:=[(170,ZgW)] }
theorem ZCd:Zn Tryz.prog 180 ZtL:=by
 refine Zq (C:=ZB3) Tryz.f180 (Zk ZoJ Zr) fun _ a b k he=>?_
 unfold ZtL at he;split at he;rotate_left;exact he.elim
 rename_i a b
 refine Zs he fun he=>?_
 refine Zi he fun r1_ he=>?_
 refine Zi he fun r2_ he=>?_
 exact ZEJ
def ZfH:Con:=ZJl 180 Zjn
theorem ZmF:Zn Tryz.prog 179 ZfH:=ZKn ZPD ZCd (fun x y=>rfl)
def Zlf:Con:=fun
  |[.c (.own 0 false)],[(0,.sl 3 (.int .i64) s_ .shallow)]=>.opt _ (Zjx s_) (fun r=>.ret (.c (.own 900 false)) [(0,.dead),(900,.sl 3 y0_ r .shallow)])
  |_,_=>.fail
def Zyf:Cfg:={ y:=tys,n:=61,h:=1,tab:=[],cut:=[14] }
theorem ZyF:Zn Tryz.prog 181 Zlf:=by
 refine Zq (C:=Zyf) Tryz.f181 Zr fun _ a b k he=>?_
 unfold Zlf at he;split at he;rotate_left;exact he.elim
 rename_i s_
 refine Zs he fun he=>?_
 refine Zg he (fun he=>?_) fun he=>?_
 ·exact Zv [(2,[])] (Zj he :) (Za [(900,0)])
 ·refine Zt (ZgD s_) (fun k_=>(Zm [(0,.c (.own 0 false)),(3,.c (.int .i64 k_))],[(0,.sl 3 y0_ s_ .shallow)])) he (Za []) ?_
  rintro k_ _ he
  refine Zg he (fun he=>?_) fun he=>?_
  ·refine And.intro (by kernel_rfl) ?_
   refine Zh he fun he=>?_
   refine Zh he fun he=>?_
   refine Zh he fun he=>?_
   refine Zg he (fun he=>?_) fun he=>?_
   ·refine Zh he fun he=>?_
    refine ZK (ZkR) (fun (k_2,s_2)=>(Zm [(0,.c (.own 0 false)),(3,.c (.int .i64 k_2))],[(0,.sl 3 y0_ s_2 .shallow)])) he ?_ ?_
    ·rintro⟨k_2,s_2⟩ he
     refine Zh he fun he=>?_
     refine Zh he fun he=>?_
     exact Zv [(2,[])] (Zj he :) (Za [(900,59)])
    ·skip
     refine Zt (ZgE k_) (fun (k_1,k2_,s_1)=>(Zm [(0,.c (.own 0 false)),(3,.c (.int .i64 k_1)),(4,.c (.view 0 k_)),(5,.c (.int .i64 k2_))],[(0,.sl 3 y0_ s_1 .shallow)])) he (Za []) ?_
     rintro⟨k_1,k2_,s_1⟩ _ he
     refine Zg he (fun he=>?_) fun he=>?_
     ·refine And.intro (by kernel_rfl) ?_
      refine Zh he fun he=>?_
      refine Zh he fun he=>?_
      refine Zh he fun he=>?_
      refine Zg he (fun he=>?_) fun he=>?_
      ·exact Zvv
      ·exact ZdC
     ·exact⟨_,(Zbn he :),(Za [])⟩
   ·exact ZdC
  ·exact Zv [(2,[])] (Zj he :) (Za [(900,0)])
def ZmW:Con:=fun
  |[.c (.imm (.int .i64) lits)],[]=>.opt _ (Zi5 lits) (fun r=>.ret (.tup [.agg [.own 901 false,.int .i64 r.2.1],.c (.bool r.1)]) [(900,.rc [.own 901 false,.int .i64 r.2.1]),(901,.sl 155 y6_ r.2.2 .shallow)])
  |_,_=>.fail
def ZDt:Cfg:={ y:=tys,n:=52,h:=0,tab:=[(75,Zd1),(177,ZhP),(178,ZeN),(179,ZfH),(181,Zlf)],hand:=[(179,[0]),(181,[0])] }
theorem ZwA:Zn Tryz.prog 119 ZmW:=by
 refine Zq (C:=ZDt) Tryz.f119 (Zk Zgr (Zk ZpU (Zk ZkL (Zk ZmF (Zk ZyF Zr))))) fun _ a b k he=>?_
 unfold ZmW at he;split at he;rotate_left;exact he.elim
 rename_i lits
 refine Zs he fun he=>?_
 refine Zg he (fun he=>?_) fun he=>?_
 ·exact Zro
 ·refine Zt (Zlk lits) (fun i=>(Zm [(0,.c (.imm y0_ lits)),(2,.c (.ptr 10000000 0)),(14,.c (.imm y0_ lits)),(15,.c (.int .i64 (lits.length:Int))),(16,.c (.int .i64 i))],[(10000000,.rc [.nil,.int .i64 (0:Int)])])) he (Za [(10000000,2)]) ?_
  rintro i _ he
  refine Zg he (fun he=>?_) fun he=>?_
  ·refine Zh he fun he=>?_
   refine Zi he fun r1_ he=>?_
   refine ZC he (fun he=>?_) fun he=>?_
   ·refine Zh he fun he=>?_
    refine Zi he fun r2_ he=>?_
    refine Zg he (fun he=>?_) fun he=>?_
    ·exact ZBq
    ·exact ZdC
   ·exact ZBq
  ·refine Zi he fun r3_ he=>?_
   refine Zi he fun r4_ he=>?_
   refine Zi he fun r5_ he=>?_
   refine Zt (Zll r5_) (fun (i1,c_0)=>(Zm [(2,.c (.ptr 10001000 0)),(7,.c (.ptr 10001001 0)),(37,.c (.own 10001002 false)),(38,.c (.int .i64 (r5_.length:Int))),(39,.c (.int .i64 i1))],[(10001000,.rc [.nil,.int .i64 (0:Int)]),(10001001,.rc [.own 10001003 false,.int .i64 (1:Int)]),(10001002,.sl 3 y0_ r5_ .shallow),(10001003,.sl 155 y6_ c_0 .shallow)])) he (Za [(10001000,10000000),(10001001,7),(10001002,38900)]) ?_
   rintro⟨i1,c_0⟩ _ he
   refine Zg he (fun he=>?_) fun he=>?_
   ·refine Zh he fun he=>?_
    refine Zh he fun he=>?_
    refine Zh he fun he=>?_
    exact⟨_,(Zj he :),(Za [(10001003,48)])⟩
   ·exact Zv [(2,[900]),(3,[])] (Zj he :) (Za [(900,10001000),(901,10001003)])
def Zlc:Con:=fun
  |[.c (.imm (.int .i64) vars)],[]=>.opt _ (ZkG vars) (fun r=>.ret (.agg [.own 901 false,.int .i64 r.1]) [(900,.rc [.own 901 false,.int .i64 r.1]),(901,.sl 155 y6_ r.2 .shallow)])
  |_,_=>.fail
def ZCB:Cfg:={ y:=tys,n:=26,h:=0,tab:=[] }
theorem Zu6:Zn Tryz.prog 120 Zlc:=by
 refine Zq (C:=ZCB) Tryz.f120 Zr fun _ a b k he=>?_
 unfold Zlc at he;split at he;rotate_left;exact he.elim
 rename_i vars
 refine Zs he fun he=>?_
 refine Zh he fun he=>?_
 refine Zt (Zg2 vars) (fun (i,c_0)=>(Zm [(2,.c (.ptr 10000000 0)),(3,.c (.ptr 10000001 0)),(10,.c (.imm y0_ vars)),(11,.c (.int .i64 (vars.length:Int))),(12,.c (.int .i64 i))],[(10000000,.rc [.nil,.int .i64 (0:Int)]),(10000001,.rc [.own 10000002 false,.int .i64 ((vars.length:Int) - (1:Int))]),(10000002,.sl 155 y6_ c_0 .shallow)])) he (Za [(10000000,2),(10000001,3)]) ?_
 rintro⟨i,c_0⟩ _ he
 refine Zg he (fun he=>?_) fun he=>?_
 ·refine Zh he fun he=>?_
  refine Zh he fun he=>?_
  refine Zh he fun he=>?_
  exact ZNX
 ·exact Zv [(2,[900])] (Zj he :) (Za [(900,10000000),(901,10000002)])
def Zbc:Con:=fun
  |[.agg [.imm (.pair (.int .i64) (.int .i64)) c__0,.int .i64 c__1]],[]=>.opt _ (Z5 (c__0,c__1)) (fun r=>.ret (.c (.bool r)) [])
  |_,_=>.fail
def ZwQ:Cfg:={ y:=tys,n:=37,h:=0,tab:=[(127,Zb9),(170,ZgW),(177,ZhP)] }
theorem ZbC:Zn Tryz.prog 223 Zbc:=by
 refine Zq (C:=ZwQ) Tryz.f223 (Zk ZcH (Zk ZoJ (Zk ZpU Zr))) fun _ a b k he=>?_
 unfold Zbc at he;split at he;rotate_left;exact he.elim
 rename_i c__0 c__1
 refine Zs he fun he=>?_
 refine Zt (Zi1 (c__0,c__1)) (fun (before,i)=>(Zm [(1,.c (.ptr 10000000 0)),(3,.c (.int .i64 before)),(7,.c (.imm y6_ (c__0,c__1).1)),(8,.c (.int .i64 ((c__0,c__1).1.length:Int))),(9,.c (.int .i64 i))],[(10000000,.rc [.imm y6_ (c__0,c__1).1,.int .i64 (c__0,c__1).2])])) he (Za [(10000000,1)]) ?_
 rintro⟨before,i⟩ _ he
 refine Zg he (fun he=>?_) fun he=>?_
 ·refine Zh he fun he=>?_
  refine Zi he fun r1_ he=>?_
  refine ZC he (fun he=>?_) fun he=>?_
  ·refine Zi he fun r2_ he=>?_
   refine ZC he (fun he=>?_) fun he=>?_
   ·refine Zi he fun r3_ he=>?_
    refine Zg he (fun he=>?_) fun he=>?_
    ·exact ZM
    ·refine Zi he fun r4_ he=>?_
     exact ZdC
   ·exact ZM
  ·exact ZM
 ·refine Zi he fun r5_ he=>?_
  exact ZM
def ZgQ:Con:=fun
  |[.agg [.own 0 false,.int .i64 c_1]],[(0,.sl 155 (.pair (.int .i64) (.int .i64)) o0 .shallow)]=>.opt _ (Zc8 c_1 o0) (fun r=>.ret (.tup [.agg [.own 901 false,.int .i64 r.2.1],.c (.bool r.1)]) [(0,.dead),(900,.rc [.own 901 false,.int .i64 r.2.1]),(901,.sl 155 y6_ r.2.2 .shallow)])
  |_,_=>.fail
def Zta:Cfg:={ y:=tys,n:=9,h:=1,tab:=[(223,Zbc)] }
theorem Ztr:Zn Tryz.prog 187 ZgQ:=by
 refine Zq (C:=Zta) Tryz.f187 (Zk ZbC Zr) fun _ a b k he=>?_
 unfold ZgQ at he;split at he;rotate_left;exact he.elim
 rename_i c_1 o0
 refine Zs he fun he=>?_
 refine Zi he fun r1_ he=>?_
 refine Zg he (fun he=>?_) fun he=>?_
 ·exact Zro
 ·exact Zv [(2,[900]),(3,[])] (Zj he :) (Za [(900,2),(901,0)])
def Zmg:Con:=fun
  |[.c (.imm (.pair (.int .i64) (.int .i64)) a0),.c (.int .i64 a1)],[]=>.opt _ (ZhG a0 a1) (fun r=>.ret (.tup [.agg [.own 901 false,.int .i64 r.2.1],.c (.bool r.1)]) [(900,.rc [.own 901 false,.int .i64 r.2.1]),(901,.sl 155 y6_ r.2.2 .shallow)])
  |_,_=>.fail
def Zuu:Sched:=Zy [7,8] (.alt 9 .done .stop)
def Zuv:Sched:=.alt 4 Zuu .stop
def Zuw:Sched:=Zy [6,7] (.alt 8 .done .stop)
def Zux:Sched:=.alt 3 Zuw .stop
def ZGZ:Cfg:={ y:=tys,n:=84,h:=0,tab:=[(187,ZgQ)],cut:=[10,18,20],hand:=[(187,[0])],sched:=[(7,(Zy [0,5] (.alt 1 (Zy [2,3] (.alt 4 (.alt 6 Zuu .stop) (.alt 6 Zuv .stop))) (.alt 6 (.alt 1 (Zy [2,3] Zuv) .stop) .stop)))),(8,(Zy [0,4] (.alt 1 (.first 2 (.alt 3 (.alt 5 Zuw .stop) (.alt 5 Zux .stop))) (.alt 5 (.alt 1 (.first 2 Zux) .stop) .stop))))],nils:=[187] }
theorem ZFS {P:Prop} (h:P:=by
  refine Y4 ?_
  refine And.intro hq3 ?_
  refine And.intro hq2 ?_
  exact Zk0):P:=h
theorem ZBM {P:Prop} (h:P:=by
  refine Y4 ?_
  refine And.intro hq2 ?_
  refine And.intro hq1 ?_
  exact Zk0):P:=h
theorem ZLj {P:Prop} (h:P:=by
  refine Y5 ?_ ?_
  ·skip
   exact ZBM
  ·skip
   exact ZBM):P:=h
theorem ZLk {P:Prop} (h:P:=by
  skip
  refine Y4 ?_
  refine And.intro hq1 ?_
  exact ZBM):P:=h
theorem ZLl {P:Prop} (h:P:=by
  refine Y5 ?_ ?_
  ·skip
   refine And.intro hq1 ?_
   exact ZLj
  ·exact ZLk):P:=h
theorem Zts:Zn Tryz.prog 129 Zmg:=by
 refine Zq (C:=ZGZ) Tryz.f129 (Zk Ztr Zr) fun _ a b k he=>?_
 unfold Zmg at he;split at he;rotate_left;exact he.elim
 rename_i a0 a1
 refine Zs he fun he=>?_
 refine ZK (ZkH) (fun (i3,i4)=>(Zm [(1,.c (.int .i64 i3)),(4,.c (.ptr 10001000 0)),(6,.c (.eptr 10001001 (0:Int) 0))],[(10001000,.rc [.nil,.int .i64 (0:Int)]),(10001001,.sl 199 y0_ i4 .shallow)])) he ?_ ?_
 ·rintro⟨i3,i4⟩ he
  refine ZK (Zod) (fun (i9,i_03)=>(Zm [(1,.c (.int .i64 i9)),(4,.c (.ptr 10005000 0)),(9,.c (.ptr 10005001 0))],[(10005000,.rc [.nil,.int .i64 (0:Int)]),(10005001,.rc [.own 10005002 false,.int .i64 (0:Int)]),(10005002,.sl 155 y6_ i_03 .shallow)])) he ?_ ?_
  ·rintro⟨i9,i_03⟩ he
   refine Zi he fun r1_ he=>?_
   exact Zv [(4,[900]),(5,[])] (Zj he :) (Za [(900,10005000),(901,82901)])
  ·skip
   refine Zh he fun he=>?_
   refine Zt (ZfV i4) (fun (i5,i6,i_01)=>(Zm [(1,.c (.int .i64 i5)),(4,.c (.ptr 10002000 0)),(9,.c (.ptr 10002001 0)),(44,.agg [.int .i64 (i4.getD 0 0),.int .i64 (i4.getD 1 0),.int .i64 (i4.getD 2 0),.int .i64 (i4.getD 3 0),.int .i64 (i4.getD 4 0),.int .i64 (i4.getD 5 0),.int .i64 (i4.getD 6 0),.int .i64 (i4.getD 7 0),.int .i64 (i4.getD 8 0),.int .i64 (i4.getD 9 0),.int .i64 (i4.getD 10 0),.int .i64 (i4.getD 11 0),.int .i64 (i4.getD 12 0)]),(45,.c (.int .i64 i6))],[(10002000,.rc [.nil,.int .i64 (0:Int)]),(10002001,.rc [.own 10002002 false,.int .i64 (0:Int)]),(10002002,.sl 155 y6_ i_01 .shallow)])) he (Za [(10002000,10001000),(10002001,9)]) ?_
   rintro⟨i5,i6,i_01⟩ _ he
   refine Zg he (fun he=>?_) fun he=>?_
   ·refine Zh he fun he=>?_
    refine Zg he (fun he=>?_) fun he=>?_
    ·refine Zh he fun he=>?_
     refine Zh he fun he=>?_
     exact⟨_,(Zj he :),(Za [(10002002,58)])⟩
    ·refine Zg he (fun he=>?_) fun he=>?_
     ·refine ZK (Zoe i5 i6) (fun (i8,i_02)=>(Zm [(1,.c (.int .i64 i5)),(4,.c (.ptr 10004000 0)),(9,.c (.ptr 10004001 0)),(11,.c (.int .i64 i8)),(44,.agg [.int .i64 (i4.getD 0 0),.int .i64 (i4.getD 1 0),.int .i64 (i4.getD 2 0),.int .i64 (i4.getD 3 0),.int .i64 (i4.getD 4 0),.int .i64 (i4.getD 5 0),.int .i64 (i4.getD 6 0),.int .i64 (i4.getD 7 0),.int .i64 (i4.getD 8 0),.int .i64 (i4.getD 9 0),.int .i64 (i4.getD 10 0),.int .i64 (i4.getD 11 0),.int .i64 (i4.getD 12 0)]),(45,.c (.int .i64 i6))],[(10004000,.rc [.nil,.int .i64 (0:Int)]),(10004001,.rc [.own 10004002 false,.int .i64 (0:Int)]),(10004002,.sl 155 y6_ i_02 .shallow)])) he ?_ ?_
      ·rintro⟨i8,i_02⟩ he
       refine Zh he fun he=>?_
       refine Zh he fun he=>?_
       exact ZNW
      ·skip
       refine Zh he fun he=>?_
       refine Zh he fun he=>?_
       refine Zh he fun he=>?_
       exact⟨_,he,(Za [(10004000,10002000),(10004001,10002001),(10004002,71)])⟩
     ·exact ZdC
   ·exact⟨_,(Zbn he :),(Za [(10005000,10002000),(10005001,10002001),(10005002,10002002)])⟩
 ·skip
  refine Zt (ZhK a0) (fun (i,i1,i2)=>(Zm [(1,.c (.int .i64 i)),(4,.c (.ptr 10000000 0)),(6,.c (.eptr 10000001 (0:Int) 0)),(12,.c (.imm y6_ a0)),(13,.c (.int .i64 (a0.length:Int))),(14,.c (.int .i64 i1))],[(10000000,.rc [.nil,.int .i64 (0:Int)]),(10000001,.sl 199 y0_ i2 .shallow)])) he (Za [(10000000,4),(10000001,6)]) ?_
  rintro⟨i,i1,i2⟩ _ he
  refine Zg he (fun he=>?_) fun he=>?_
  ·refine Zh he fun he=>?_
   refine Zg he (fun he=>?_) fun he=>?_
   ·refine Zh he fun he=>?_
    refine And.intro (by kernel_rfl) ?_
    obtain⟨hq1,he⟩:=ZD he
    obtain⟨hq2,he⟩:=ZD he
    obtain⟨hq3,he⟩:=ZD he
    obtain⟨hq4,he⟩:=ZD he
    refine Y5 ?_ ?_
    ·skip
     refine And.intro hq1 ?_
     refine And.intro hq2 ?_
     refine Y5 ?_ ?_
     ·skip
      exact ZFS
     ·skip
      exact ZFS
    ·skip
     refine Y4 ?_
     refine And.intro hq1 ?_
     refine And.intro hq2 ?_
     exact ZFS
   ·refine And.intro (by kernel_rfl) ?_
    obtain⟨hq1,he⟩:=ZD he
    obtain⟨hq2,he⟩:=ZD he
    obtain⟨hq3,he⟩:=ZD he
    exact ZLl
  ·exact⟨_,(Zbn he :),(Za [(10001000,10000000),(10001001,10000001)])⟩
end
end Go.AE.Y
