/-
  Walks: each function keeps the contract that its model gives. No conditions.
-/
import Derived.Test.YtaeeiddjpigemaaGreatR8Tab
import Derived.Test.YtaeeiddjpigemaaGreatR8W1
import Derived.Test.YtaeeiddjpigemaaGreatR8S
namespace Go.AE.Y
open Go Go.AE Go.Proofs
set_option linter.unusedVariables false
set_option maxHeartbeats 2000000
set_option maxRecDepth 100000
noncomputable section
def Zc7:Con:=fun
  |[.c (.imm (.sl (.int .i64)) s_),.c (.fn 201 [0])],[(0,.rc [.int .i64 o0_0,.imm (.int .i64) o0_1,.imm (.int .i64) o0_2,.int .i64 o0_3,.imm (.sl (.int .i64)) o0_4])]=>.opt _ (Zdu s_ (o0_0,(o0_1,(o0_2,(o0_3,o0_4))))) (fun r=>.ret (.c (.int .i64 r)) [(0,.rc [.int .i64 o0_0,.imm y0_ o0_1,.imm y0_ o0_2,.int .i64 o0_3,.imm (.sl y0_) o0_4])])
  |_,_=>.fail
def Zjy:Cfg:={ y:=tys,n:=19,h:=1,tab:=[(201,Zl5)] }
theorem ZF6 {P:Prop} (h:P:=by
  refine Zh he (fun he=>?_) fun he=>?_
  ·exact Zbg
  ·exact Zdy):P:=h
theorem ZJ7 {P:Prop} (h:P:=by
  refine Zg he fun he=>?_
  refine Zi he fun r1_ he=>?_
  exact ZF6):P:=h
theorem Zyn {P:Prop} (h:P:=by
  refine Zh he (fun he=>?_) fun he=>?_
  ·exact ZJ7
  ·exact Zbg):P:=h
theorem ZjO:Zn Tryz.prog 250 Zc7:=by
 refine Zp (C:=Zjy) Tryz.f250 (Zk Zxu Zq) fun _ a b k he=>?_
 unfold Zc7 at he;split at he;rotate_left;exact he.elim
 rename_i s_ o0_0 o0_1 o0_2 o0_3 o0_4
 refine Zs he fun he=>?_
 refine Zo (Zbp s_ (o0_0,(o0_1,(o0_2,(o0_3,o0_4))))) (fun i=>(Zm [(0,.c (.imm (.sl y0_) s_)),(1,.c (.fn 201 [0])),(7,.c (.int .i64 (s_.length:Int))),(8,.c (.int .i64 i))],[(0,.rc [.int .i64 (o0_0,(o0_1,(o0_2,(o0_3,o0_4)))).1,.imm y0_ (o0_0,(o0_1,(o0_2,(o0_3,o0_4)))).2.1,.imm y0_ (o0_0,(o0_1,(o0_2,(o0_3,o0_4)))).2.2.1,.int .i64 (o0_0,(o0_1,(o0_2,(o0_3,o0_4)))).2.2.2.1,.imm (.sl y0_) (o0_0,(o0_1,(o0_2,(o0_3,o0_4)))).2.2.2.2])])) he (Za []) ?_
 rintro i _ he
 exact Zyn
def ZcK:Con:=fun
  |[.c (.imm (.sl (.int .i64)) s_),.c (.fn 201 [0])],[(0,.rc [.int .i64 o0_0,.imm (.int .i64) o0_1,.imm (.int .i64) o0_2,.int .i64 o0_3,.imm (.sl (.int .i64)) o0_4])]=>.opt _ (Zb0 s_ (o0_0,(o0_1,(o0_2,(o0_3,o0_4))))) (fun r=>.ret (.c (.bool r)) [(0,.rc [.int .i64 o0_0,.imm y0_ o0_1,.imm y0_ o0_2,.int .i64 o0_3,.imm (.sl y0_) o0_4])])
  |_,_=>.fail
def Ziv:Cfg:={ y:=tys,n:=9,h:=1,tab:=[(250,Zc7)] }
theorem ZiL:Zn Tryz.prog 200 ZcK:=by
 refine Zp (C:=Ziv) Tryz.f200 (Zk ZjO Zq) fun _ a b k he=>?_
 unfold ZcK at he;split at he;rotate_left;exact he.elim
 rename_i s_ o0_0 o0_1 o0_2 o0_3 o0_4
 refine Zs he fun he=>?_
 refine Zi he fun r1_ he=>?_
 exact Zbg
def Zn2:Con:=fun
  |[.agg [.int .i64 a0_0,.imm (.int .i64) a0_1,.imm (.int .i64) a0_2,.int .i64 a0_3,.imm (.sl (.int .i64)) a0_4],.c (.int .i64 a1)],[]=>.opt _ (ZmM (a0_0,(a0_1,(a0_2,(a0_3,a0_4)))) a1) (fun r=>.ret (.c (.bool r)) [])
  |_,_=>.fail
def Zzu:Cfg:={ y:=tys,n:=104,h:=0,tab:=[(125,ZcW),(127,Zb7),(178,ZeE),(200,ZcK)],cut:=[9] }
theorem ZJ8 {P:Prop} (h:P:=by
  refine Zh he (fun he=>?_) fun he=>?_
  ·refine Zh he (fun he=>?_) fun he=>?_
   ·exact Zbg
   ·exact⟨_,he,(Za [(10001000,10000000)])⟩
  ·exact⟨_,he,(Za [(10001000,10000000)])⟩):P:=h
theorem ZzI:Zn Tryz.prog 140 Zn2:=by
 refine Zp (C:=Zzu) Tryz.f140 (Zk Zjd (Zk ZcF (Zk ZjL (Zk ZiL Zq)))) fun _ a b k he=>?_
 unfold Zn2 at he;split at he;rotate_left;exact he.elim
 rename_i a0_0 a0_1 a0_2 a0_3 a0_4 a1
 refine Zs he fun he=>?_
 refine Zo (Zjj (a0_0,(a0_1,(a0_2,(a0_3,a0_4)))) a1) (fun i=>(Zm [(1,.c (.int .i64 a1)),(2,.c (.ptr 10000000 0)),(8,.c (.imm y0_ (a0_0,(a0_1,(a0_2,(a0_3,a0_4)))).2.1)),(9,.c (.int .i64 ((a0_0,(a0_1,(a0_2,(a0_3,a0_4)))).2.1.length:Int))),(10,.c (.int .i64 i))],[(10000000,.rc [.int .i64 (a0_0,(a0_1,(a0_2,(a0_3,a0_4)))).1,.imm y0_ (a0_0,(a0_1,(a0_2,(a0_3,a0_4)))).2.1,.imm y0_ (a0_0,(a0_1,(a0_2,(a0_3,a0_4)))).2.2.1,.int .i64 (a0_0,(a0_1,(a0_2,(a0_3,a0_4)))).2.2.2.1,.imm (.sl y0_) (a0_0,(a0_1,(a0_2,(a0_3,a0_4)))).2.2.2.2])])) he (Za [(10000000,2)]) ?_
 rintro i _ he
 refine Zh he (fun he=>?_) fun he=>?_
 ·refine Zg he fun he=>?_
  refine Zg he fun he=>?_
  refine Zi he fun r1_ he=>?_
  refine ZI he (fun he=>?_) fun he=>?_
  ·refine Zg he fun he=>?_
   refine Zi he fun r2_ he=>?_
   exact ZF6
  ·exact Zbg
 ·refine ZL (Zej (a0_0,(a0_1,(a0_2,(a0_3,a0_4))))) (fun _=>(Zm [(2,.c (.ptr 10001000 0))],[(10001000,.rc [.int .i64 (a0_0,(a0_1,(a0_2,(a0_3,a0_4)))).1,.imm y0_ (a0_0,(a0_1,(a0_2,(a0_3,a0_4)))).2.1,.imm y0_ (a0_0,(a0_1,(a0_2,(a0_3,a0_4)))).2.2.1,.int .i64 (a0_0,(a0_1,(a0_2,(a0_3,a0_4)))).2.2.2.1,.imm (.sl y0_) (a0_0,(a0_1,(a0_2,(a0_3,a0_4)))).2.2.2.2])])) he ?_ ?_
  ·rintro⟨⟩ he
   refine Zh he (fun he=>?_) fun he=>?_
   ·refine Zh he (fun he=>?_) fun he=>?_
    ·refine Zi he fun r3_ he=>?_
     refine Zh he (fun he=>?_) fun he=>?_
     ·refine Zi he fun r4_ he=>?_
      exact Zbg
     ·exact Zbg
    ·exact Zbg
   ·refine Zh he (fun he=>?_) fun he=>?_
    ·refine Zh he (fun he=>?_) fun he=>?_
     ·refine Zi he fun r5_ he=>?_
      exact Zbg
     ·exact Zbg
    ·refine Zh he (fun he=>?_) fun he=>?_
     ·exact Zbg
     ·exact Zbg
  ·skip
   refine ZI he (fun he=>?_) fun he=>?_
   ·refine Zh he (fun he=>?_) fun he=>?_
    ·refine ZI he (fun he=>?_) fun he=>?_
     ·refine ZI he (fun he=>?_) fun he=>?_
      ·exact ZJ8
      ·exact Zbg
     ·exact Zbg
    ·exact ZJ8
   ·exact Zbg
def Zlg:Con:=fun
  |[.agg [.int .i64 r__0,.imm (.int .i64) r__1,.imm (.int .i64) r__2,.int .i64 r__3,.imm (.sl (.int .i64)) r__4],.c (.ptr 0 0)],[(0,.rc [.imm (.int .i64) o0_0,.imm (.pair (.int .i64) (.pair (.sl (.int .i64)) (.pair (.sl (.int .i64)) (.pair (.int .i64) (.sl (.sl (.int .i64))))))) o0_1])]=>.opt _ (Zm8 (r__0,(r__1,(r__2,(r__3,r__4)))) (o0_0,o0_1)) (fun r=>.ret (.c (.bool r)) [(0,.rc [.imm y0_ o0_0,.imm y5_ o0_1])])
  |_,_=>.fail
def Zwp:Cfg:={ y:=tys,n:=10,h:=1,tab:=[(140,Zn2)] }
theorem ZwF:Zn Tryz.prog 139 Zlg:=by
 refine Zp (C:=Zwp) Tryz.f139 (Zk ZzI Zq) fun _ a b k he=>?_
 unfold Zlg at he;split at he;rotate_left;exact he.elim
 rename_i r__0 r__1 r__2 r__3 r__4 o0_0 o0_1
 refine Zs he fun he=>?_
 refine Zi he fun r1_ he=>?_
 exact Zte
def Zcw:Con:=fun
  |[.c (.imm (.pair (.int .i64) (.pair (.sl (.int .i64)) (.pair (.sl (.int .i64)) (.pair (.int .i64) (.sl (.sl (.int .i64))))))) s_),.c (.fn 139 [0])],[(0,.rc [.imm (.int .i64) o0_0,.imm (.pair (.int .i64) (.pair (.sl (.int .i64)) (.pair (.sl (.int .i64)) (.pair (.int .i64) (.sl (.sl (.int .i64))))))) o0_1])]=>.opt _ (ZcP s_ (o0_0,o0_1)) (fun r=>.ret (.c (.int .i64 r)) [(0,.rc [.imm y0_ o0_0,.imm y5_ o0_1])])
  |_,_=>.fail
def Zh9:Cfg:={ y:=tys,n:=19,h:=1,tab:=[(139,Zlg)] }
theorem Zia:Zn Tryz.prog 198 Zcw:=by
 refine Zp (C:=Zh9) Tryz.f198 (Zk ZwF Zq) fun _ a b k he=>?_
 unfold Zcw at he;split at he;rotate_left;exact he.elim
 rename_i s_ o0_0 o0_1
 refine Zs he fun he=>?_
 refine Zo (Z8 s_ (o0_0,o0_1)) (fun i=>(Zm [(0,.c (.imm y5_ s_)),(1,.c (.fn 139 [0])),(7,.c (.int .i64 (s_.length:Int))),(8,.c (.int .i64 i))],[(0,.rc [.imm y0_ (o0_0,o0_1).1,.imm y5_ (o0_0,o0_1).2])])) he (Za []) ?_
 rintro i _ he
 exact Zyn
def Zci:Con:=fun
  |[.c (.imm (.pair (.int .i64) (.pair (.sl (.int .i64)) (.pair (.sl (.int .i64)) (.pair (.int .i64) (.sl (.sl (.int .i64))))))) s_),.c (.fn 139 [0])],[(0,.rc [.imm (.int .i64) o0_0,.imm (.pair (.int .i64) (.pair (.sl (.int .i64)) (.pair (.sl (.int .i64)) (.pair (.int .i64) (.sl (.sl (.int .i64))))))) o0_1])]=>.opt _ (ZbG s_ (o0_0,o0_1)) (fun r=>.ret (.c (.bool r)) [(0,.rc [.imm y0_ o0_0,.imm y5_ o0_1])])
  |_,_=>.fail
def ZgI:Cfg:={ y:=tys,n:=9,h:=1,tab:=[(198,Zcw)] }
theorem ZgX:Zn Tryz.prog 138 Zci:=by
 refine Zp (C:=ZgI) Tryz.f138 (Zk Zia Zq) fun _ a b k he=>?_
 unfold Zci at he;split at he;rotate_left;exact he.elim
 rename_i s_ o0_0 o0_1
 refine Zs he fun he=>?_
 refine Zi he fun r1_ he=>?_
 exact Zbg
def Ze7:Con:=fun
  |[.agg [.imm (.int .i64) m_0,.imm (.pair (.int .i64) (.pair (.sl (.int .i64)) (.pair (.sl (.int .i64)) (.pair (.int .i64) (.sl (.sl (.int .i64))))))) m_1]],[]=>.opt _ (ZeZ (m_0,m_1)) (fun r=>.ret (.c (.bool r)) [])
  |_,_=>.fail
def ZyU:Cfg:={ y:=tys,n:=41,h:=0,tab:=[(127,Zb7),(138,Zci)] }
theorem ZN {P:Prop} (h:P:=by
  exact Zv [(2,[])] (Zj he :) (Za [])):P:=h
theorem Zjk:Zn Tryz.prog 71 Ze7:=by
 refine Zp (C:=ZyU) Tryz.f71 (Zk ZcF (Zk ZgX Zq)) fun _ a b k he=>?_
 unfold Ze7 at he;split at he;rotate_left;exact he.elim
 rename_i m_0 m_1
 refine Zs he fun he=>?_
 refine Zi he fun r1_ he=>?_
 refine ZI he (fun he=>?_) fun he=>?_
 ·refine Zh he (fun he=>?_) fun he=>?_
  ·exact ZN
  ·refine Zo (Zmj (m_0,m_1)) (fun (count,i)=>(Zm [(1,.c (.ptr 10000000 0)),(3,.c (.int .i64 count)),(18,.c (.imm y0_ (m_0,m_1).1)),(19,.c (.int .i64 ((m_0,m_1).1.length:Int))),(20,.c (.int .i64 i))],[(10000000,.rc [.imm y0_ (m_0,m_1).1,.imm y5_ (m_0,m_1).2])])) he (Za [(10000000,1)]) ?_
   rintro⟨count,i⟩ _ he
   refine Zh he (fun he=>?_) fun he=>?_
   ·refine Zg he fun he=>?_
    refine Zi he fun r2_ he=>?_
    refine Zh he (fun he=>?_) fun he=>?_
    ·exact ZN
    ·exact ZuU
   ·refine Zh he (fun he=>?_) fun he=>?_
    ·refine Zi he fun r3_ he=>?_
     exact ZN
    ·exact ZN
 ·exact ZN
def Zd7:Con:=fun
  |[.agg [.imm (.int .i64) m_0,.imm (.pair (.int .i64) (.pair (.sl (.int .i64)) (.pair (.sl (.int .i64)) (.pair (.int .i64) (.sl (.sl (.int .i64))))))) m_1],.c (.int .i64 cell),.c (.int .i64 value)],[]=>.opt _ (Zdo (m_0,m_1) cell value) (fun r=>.ret (.c (.int .i64 r)) [])
  |_,_=>.fail
def Zu5:Cfg:={ y:=tys,n:=27,h:=0,tab:=[] }
theorem ZgW:Zn Tryz.prog 128 Zd7:=by
 refine Zp (C:=Zu5) Tryz.f128 Zq fun _ a b k he=>?_
 unfold Zd7 at he;split at he;rotate_left;exact he.elim
 rename_i m_0 m_1 cell value
 refine Zs he fun he=>?_
 refine Zg he fun he=>?_
 refine Zg he fun he=>?_
 refine Zo (ZjF (m_0,m_1) cell) (fun (v,i)=>(Zm [(7,.c (.int .i64 v)),(15,.c (.imm y0_ ((m_0,m_1).1.take cell.toNat))),(16,.c (.int .i64 (((m_0,m_1).1.take cell.toNat).length:Int))),(17,.c (.int .i64 i))],[])) he (Za []) ?_
 rintro⟨v,i⟩ _ he
 refine Zh he (fun he=>?_) fun he=>?_
 ·exact Ztb
 ·exact Z5
def ZhK:Con:=fun
  |[.agg [.imm (.int .i64) m_0,.imm (.pair (.int .i64) (.pair (.sl (.int .i64)) (.pair (.sl (.int .i64)) (.pair (.int .i64) (.sl (.sl (.int .i64))))))) m_1],.c (.int .i64 cell)],[]=>.opt _ (Zgw (m_0,m_1) cell) (fun r=>.ret (.c (.own 900 false)) [(900,.sl 3 y0_ r .shallow)])
  |_,_=>.fail
def Zwr:Cfg:={ y:=tys,n:=25,h:=0,tab:=[(128,Zd7)] }
theorem ZpE:Zn Tryz.prog 118 ZhK:=by
 refine Zp (C:=Zwr) Tryz.f118 (Zk ZgW Zq) fun _ a b k he=>?_
 unfold ZhK at he;split at he;rotate_left;exact he.elim
 rename_i m_0 m_1 cell
 refine Zs he fun he=>?_
 refine Zg he fun he=>?_
 refine Zg he fun he=>?_
 refine Zo (Ze1 (m_0,m_1) cell) (fun (i,out)=>(Zm [(1,.c (.int .i64 cell)),(2,.c (.ptr 10000000 0)),(5,.c (.own 10000001 false)),(12,.c (.int .i64 (((m_0,m_1).1.getD cell.toNat 0)+(1:Int)))),(13,.c (.int .i64 i))],[(10000000,.rc [.imm y0_ (m_0,m_1).1,.imm y5_ (m_0,m_1).2]),(10000001,.sl 3 y0_ out .shallow)])) he (Za [(10000000,2)]) ?_
 rintro⟨i,out⟩ _ he
 refine Zh he (fun he=>?_) fun he=>?_
 ·refine Zi he fun r2_ he=>?_
  refine Zg he fun he=>?_
  refine Zg he fun he=>?_
  exact⟨_,(Zj he :),(Za [(10000001,22)])⟩
 ·exact Zv [(4,[])] (Zj he :) (Za [(900,10000001)])
def Zhj:Con:=fun
  |[.c (.int .i64 l)],[]=>.opt _ (Zhd l) (fun r=>.ret (.c (.bool r)) [])
  |_,_=>.fail
def Zzs:Cfg:={ y:=tys,n:=9,h:=0,tab:=[(127,Zb7)] }
theorem Zn9:Zn Tryz.prog 177 Zhj:=by
 refine Zp (C:=Zzs) Tryz.f177 (Zk ZcF Zq) fun _ a b k he=>?_
 unfold Zhj at he;split at he;rotate_left;exact he.elim
 rename_i l
 refine Zs he fun he=>?_
 refine Zh he (fun he=>?_) fun he=>?_
 ·exact ZF5
 ·exact Z5
def Zdm:Con:=fun
  |[.c (.imm (.int .i64) s_)],[]=>.opt _ (ZbT s_) (fun r=>.ret (.c (.own 900 false)) [(900,.sl 3 y0_ r .shallow)])
  |_,_=>.fail
def ZwY:Cfg:={ y:=tys,n:=8,h:=0,tab:=[] }
theorem ZeI:Zn Tryz.prog 75 Zdm:=by
 refine Zp (C:=ZwY) Tryz.f75 Zq fun _ a b k he=>?_
 unfold Zdm at he;split at he;rotate_left;exact he.elim
 rename_i s_
 refine Zs he fun he=>?_
 refine fun b1_ hb1_=>?_
 have he:=ZIE he hb1_
 refine And.intro (fun hb=>?_) (fun hb=>?_)
 ·have he:=ZFp he hb
  exact ZN
 ·have he:=ZFo he hb
  refine Zg he fun he=>?_
  exact Zv [(2,[])] (Zj he :) (Za [(900,7)])
def Zeg:Con:=fun
  |[.c (.int .i64 l)],[]=>.opt _ (Zdg l) (fun r=>.ret (.c (.int .i64 r)) [])
  |_,_=>.fail
def ZyX:Cfg:={ y:=tys,n:=7,h:=0,tab:=[] }
theorem ZgA:Zn Tryz.prog 170 Zeg:=by
 refine Zp (C:=ZyX) Tryz.f170 Zq fun _ a b k he=>?_
 unfold Zeg at he;split at he;rotate_left;exact he.elim
 rename_i l
 refine Zs he fun he=>?_
 refine Zg he fun he=>?_
 exact Z5
def ZrH:Con:=fun
  |[.c (.int .i64 a),.c (.int .i64 b)],[]=>.opt _ (ZiE a b) (fun r=>.ret (.c (.int .i64 r)) [])
  |_,_=>.fail
def ZyS:Cfg:={ y:=tys,n:=10,h:=0,tab:=[(170,Zeg)] }
theorem ZBu {P:Prop} (h:P:=by
  refine Zg he fun he=>?_
  exact Z5):P:=h
theorem Zy1:Zn Tryz.prog 180 ZrH:=by
 refine Zp (C:=ZyS) Tryz.f180 (Zk ZgA Zq) fun _ a b k he=>?_
 unfold ZrH at he;split at he;rotate_left;exact he.elim
 rename_i a b
 refine Zs he fun he=>?_
 refine Zi he fun r1_ he=>?_
 refine Zi he fun r2_ he=>?_
 exact ZBu
def Zfk:Con:=ZFH 180 ZiE
theorem Zls:Zn Tryz.prog 179 Zfk:=ZGO ZLP Zy1 (fun x y=>rfl)
def Zkh:Con:=fun
  |[.c (.own 0 false)],[(0,.sl 3 (.int .i64) s_ .shallow)]=>.opt _ (ZiN s_) (fun r=>.ret (.c (.own 900 false)) [(0,.dead),(900,.sl 3 y0_ r .shallow)])
  |_,_=>.fail
def Zu8:Cfg:={ y:=tys,n:=61,h:=1,tab:=[],cut:=[14] }
theorem ZJ9 {P:Prop} (h:P:=by
  refine Zg he fun he=>?_
  refine Zg he fun he=>?_
  refine Zh he (fun he=>?_) fun he=>?_
  ·exact Ztb
  ·exact Zdy):P:=h
theorem ZvB:Zn Tryz.prog 181 Zkh:=by
 refine Zp (C:=Zu8) Tryz.f181 Zq fun _ a b k he=>?_
 unfold Zkh at he;split at he;rotate_left;exact he.elim
 rename_i s_
 refine Zs he fun he=>?_
 refine Zh he (fun he=>?_) fun he=>?_
 ·exact Zv [(2,[])] (Zj he :) (Za [(900,0)])
 ·refine Zo (Zgc s_) (fun k_=>(Zm [(0,.c (.own 0 false)),(3,.c (.int .i64 k_))],[(0,.sl 3 y0_ s_ .shallow)])) he (Za []) ?_
  rintro k_ _ he
  refine Zh he (fun he=>?_) fun he=>?_
  ·refine And.intro (by kernel_rfl) ?_
   refine Zg he fun he=>?_
   refine Zg he fun he=>?_
   refine Zg he fun he=>?_
   refine Zh he (fun he=>?_) fun he=>?_
   ·refine Zg he fun he=>?_
    refine ZL (ZjS) (fun (k_2,s_2)=>(Zm [(0,.c (.own 0 false)),(3,.c (.int .i64 k_2))],[(0,.sl 3 y0_ s_2 .shallow)])) he ?_ ?_
    ·rintro⟨k_2,s_2⟩ he
     refine Zg he fun he=>?_
     refine Zg he fun he=>?_
     exact Zv [(2,[])] (Zj he :) (Za [(900,59)])
    ·skip
     refine Zo (Zgd k_) (fun (k_1,k2_,s_1)=>(Zm [(0,.c (.own 0 false)),(3,.c (.int .i64 k_1)),(4,.c (.view 0 k_)),(5,.c (.int .i64 k2_))],[(0,.sl 3 y0_ s_1 .shallow)])) he (Za []) ?_
     rintro⟨k_1,k2_,s_1⟩ _ he
     refine Zh he (fun he=>?_) fun he=>?_
     ·refine And.intro (by kernel_rfl) ?_
      refine Zg he fun he=>?_
      exact ZJ9
     ·exact⟨_,(Zbh he :),(Za [])⟩
   ·exact Zdy
  ·exact Zv [(2,[])] (Zj he :) (Za [(900,0)])
def Zix:Con:=fun
  |[.c (.imm (.int .i64) lits)],[]=>.opt _ (Zip lits) (fun r=>.ret (.tup [.agg [.own 901 false,.int .i64 r.2.1],.c (.bool r.1)]) [(900,.rc [.own 901 false,.int .i64 r.2.1]),(901,.sl 155 y6_ r.2.2 .shallow)])
  |_,_=>.fail
def ZAc:Cfg:={ y:=tys,n:=52,h:=0,tab:=[(75,Zdm),(177,Zhj),(178,ZeE),(179,Zfk),(181,Zkh)],hand:=[(179,[0]),(181,[0])] }
theorem Ztf {P:Prop} (h:P:=by
  exact Zv [(2,[900]),(3,[])] (Zj he :) (Za [(900,2)])):P:=h
theorem ZBv {P:Prop} (h:P:=by
  exact Zv [(2,[900]),(3,[])] (Zj he :) (Za [(900,10000000)])):P:=h
theorem Zpg:Zn Tryz.prog 119 Zix:=by
 refine Zp (C:=ZAc) Tryz.f119 (Zk ZeI (Zk Zn9 (Zk ZjL (Zk Zls (Zk ZvB Zq))))) fun _ a b k he=>?_
 unfold Zix at he;split at he;rotate_left;exact he.elim
 rename_i lits
 refine Zs he fun he=>?_
 refine Zh he (fun he=>?_) fun he=>?_
 ·exact Ztf
 ·refine Zo (Zkn lits) (fun i=>(Zm [(0,.c (.imm y0_ lits)),(2,.c (.ptr 10000000 0)),(14,.c (.imm y0_ lits)),(15,.c (.int .i64 (lits.length:Int))),(16,.c (.int .i64 i))],[(10000000,.rc [.nil,.int .i64 (0:Int)])])) he (Za [(10000000,2)]) ?_
  rintro i _ he
  refine Zh he (fun he=>?_) fun he=>?_
  ·refine Zg he fun he=>?_
   refine Zi he fun r1_ he=>?_
   refine ZI he (fun he=>?_) fun he=>?_
   ·refine Zg he fun he=>?_
    refine Zi he fun r2_ he=>?_
    refine Zh he (fun he=>?_) fun he=>?_
    ·exact ZBv
    ·exact Zdy
   ·exact ZBv
  ·refine Zi he fun r3_ he=>?_
   refine Zi he fun r4_ he=>?_
   refine Zi he fun r5_ he=>?_
   refine Zo (Zko r5_) (fun (i1,c_0)=>(Zm [(2,.c (.ptr 10001000 0)),(7,.c (.ptr 10001001 0)),(37,.c (.own 10001002 false)),(38,.c (.int .i64 (r5_.length:Int))),(39,.c (.int .i64 i1))],[(10001000,.rc [.nil,.int .i64 (0:Int)]),(10001001,.rc [.own 10001003 false,.int .i64 (1:Int)]),(10001002,.sl 3 y0_ r5_ .shallow),(10001003,.sl 155 y6_ c_0 .shallow)])) he (Za [(10001000,10000000),(10001001,7),(10001002,38900)]) ?_
   rintro⟨i1,c_0⟩ _ he
   refine Zh he (fun he=>?_) fun he=>?_
   ·refine Zg he fun he=>?_
    refine Zg he fun he=>?_
    refine Zg he fun he=>?_
    exact⟨_,(Zj he :),(Za [(10001003,48)])⟩
   ·exact Zv [(2,[900]),(3,[])] (Zj he :) (Za [(900,10001000),(901,10001003)])
def Zke:Con:=fun
  |[.c (.imm (.int .i64) vars)],[]=>.opt _ (ZjG vars) (fun r=>.ret (.agg [.own 901 false,.int .i64 r.1]) [(900,.rc [.own 901 false,.int .i64 r.1]),(901,.sl 155 y6_ r.2 .shallow)])
  |_,_=>.fail
def Zzr:Cfg:={ y:=tys,n:=26,h:=0,tab:=[] }
theorem ZsR:Zn Tryz.prog 120 Zke:=by
 refine Zp (C:=Zzr) Tryz.f120 Zq fun _ a b k he=>?_
 unfold Zke at he;split at he;rotate_left;exact he.elim
 rename_i vars
 refine Zs he fun he=>?_
 refine Zg he fun he=>?_
 refine Zo (Zgz vars) (fun (i,c_0)=>(Zm [(2,.c (.ptr 10000000 0)),(3,.c (.ptr 10000001 0)),(10,.c (.imm y0_ vars)),(11,.c (.int .i64 (vars.length:Int))),(12,.c (.int .i64 i))],[(10000000,.rc [.nil,.int .i64 (0:Int)]),(10000001,.rc [.own 10000002 false,.int .i64 ((vars.length:Int) - (1:Int))]),(10000002,.sl 155 y6_ c_0 .shallow)])) he (Za [(10000000,2),(10000001,3)]) ?_
 rintro⟨i,c_0⟩ _ he
 refine Zh he (fun he=>?_) fun he=>?_
 ·refine Zg he fun he=>?_
  refine Zg he fun he=>?_
  refine Zg he fun he=>?_
  exact ZJ2
 ·exact Zv [(2,[900])] (Zj he :) (Za [(900,10000000),(901,10000002)])
def Z9:Con:=fun
  |[.agg [.imm (.pair (.int .i64) (.int .i64)) c__0,.int .i64 c__1]],[]=>.opt _ (Z3 (c__0,c__1)) (fun r=>.ret (.c (.bool r)) [])
  |_,_=>.fail
def Zt4:Cfg:={ y:=tys,n:=37,h:=0,tab:=[(127,Zb7),(170,Zeg),(177,Zhj)] }
theorem ZbD:Zn Tryz.prog 223 Z9:=by
 refine Zp (C:=Zt4) Tryz.f223 (Zk ZcF (Zk ZgA (Zk Zn9 Zq))) fun _ a b k he=>?_
 unfold Z9 at he;split at he;rotate_left;exact he.elim
 rename_i c__0 c__1
 refine Zs he fun he=>?_
 refine Zo (Zil (c__0,c__1)) (fun (before,i)=>(Zm [(1,.c (.ptr 10000000 0)),(3,.c (.int .i64 before)),(7,.c (.imm y6_ (c__0,c__1).1)),(8,.c (.int .i64 ((c__0,c__1).1.length:Int))),(9,.c (.int .i64 i))],[(10000000,.rc [.imm y6_ (c__0,c__1).1,.int .i64 (c__0,c__1).2])])) he (Za [(10000000,1)]) ?_
 rintro⟨before,i⟩ _ he
 refine Zh he (fun he=>?_) fun he=>?_
 ·refine Zg he fun he=>?_
  refine Zi he fun r1_ he=>?_
  refine ZI he (fun he=>?_) fun he=>?_
  ·refine Zi he fun r2_ he=>?_
   refine ZI he (fun he=>?_) fun he=>?_
   ·refine Zi he fun r3_ he=>?_
    refine Zh he (fun he=>?_) fun he=>?_
    ·exact ZN
    ·refine Zi he fun r4_ he=>?_
     exact Zdy
   ·exact ZN
  ·exact ZN
 ·refine Zi he fun r5_ he=>?_
  exact ZN
def Zgn:Con:=fun
  |[.agg [.own 0 false,.int .i64 c_1]],[(0,.sl 155 (.pair (.int .i64) (.int .i64)) o0 .shallow)]=>.opt _ (Zc9 c_1 o0) (fun r=>.ret (.tup [.agg [.own 901 false,.int .i64 r.2.1],.c (.bool r.1)]) [(0,.dead),(900,.rc [.own 901 false,.int .i64 r.2.1]),(901,.sl 155 y6_ r.2.2 .shallow)])
  |_,_=>.fail
def Zrf:Cfg:={ y:=tys,n:=9,h:=1,tab:=[(223,Z9)] }
theorem Zrv:Zn Tryz.prog 187 Zgn:=by
 refine Zp (C:=Zrf) Tryz.f187 (Zk ZbD Zq) fun _ a b k he=>?_
 unfold Zgn at he;split at he;rotate_left;exact he.elim
 rename_i c_1 o0
 refine Zs he fun he=>?_
 refine Zi he fun r1_ he=>?_
 refine Zh he (fun he=>?_) fun he=>?_
 ·exact Ztf
 ·exact Zv [(2,[900]),(3,[])] (Zj he :) (Za [(900,2),(901,0)])
def Zk5:Con:=fun
  |[.c (.imm (.pair (.int .i64) (.int .i64)) a0),.c (.int .i64 a1)],[]=>.opt _ (Zg8 a0 a1) (fun r=>.ret (.tup [.agg [.own 901 false,.int .i64 r.2.1],.c (.bool r.1)]) [(900,.rc [.own 901 false,.int .i64 r.2.1]),(901,.sl 155 y6_ r.2.2 .shallow)])
  |_,_=>.fail
def Zsl:Sched:=ZF [7,8] (.alt 9 .done .stop)
def Zsm:Sched:=.alt 4 Zsl .stop
def Zsn:Sched:=ZF [6,7] (.alt 8 .done .stop)
def Zso:Sched:=.alt 3 Zsn .stop
def ZDr:Cfg:={ y:=tys,n:=84,h:=0,tab:=[(187,Zgn)],cut:=[10,18,20],hand:=[(187,[0])],sched:=[(7,(ZF [0,5] (.alt 1 (ZF [2,3] (.alt 4 (.alt 6 Zsl .stop) (.alt 6 Zsm .stop))) (.alt 6 (.alt 1 (ZF [2,3] Zsm) .stop) .stop)))),(8,(ZF [0,4] (.alt 1 (.first 2 (.alt 3 (.alt 5 Zsn .stop) (.alt 5 Zso .stop))) (.alt 5 (.alt 1 (.first 2 Zso) .stop) .stop))))],nils:=[187] }
theorem ZnE {P:Prop} (h:P:=by
  refine Y4 ?_
  exact Zdy):P:=h
theorem ZF7 {P:Prop} (h:P:=by
  refine Y4 ?_
  refine And.intro hq3 ?_
  refine And.intro hq2 ?_
  exact ZnE):P:=h
theorem ZF8 {P:Prop} (h:P:=by
  refine Y4 ?_
  refine And.intro hq2 ?_
  refine And.intro hq1 ?_
  exact ZnE):P:=h
theorem Zrw:Zn Tryz.prog 129 Zk5:=by
 refine Zp (C:=ZDr) Tryz.f129 (Zk Zrv Zq) fun _ a b k he=>?_
 unfold Zk5 at he;split at he;rotate_left;exact he.elim
 rename_i a0 a1
 refine Zs he fun he=>?_
 refine ZL (ZjH) (fun (i3,i4)=>(Zm [(1,.c (.int .i64 i3)),(4,.c (.ptr 10001000 0)),(6,.c (.eptr 10001001 (0:Int) 0))],[(10001000,.rc [.nil,.int .i64 (0:Int)]),(10001001,.sl 199 y0_ i4 .shallow)])) he ?_ ?_
 ·rintro⟨i3,i4⟩ he
  refine ZL (ZmK) (fun (i9,i_03)=>(Zm [(1,.c (.int .i64 i9)),(4,.c (.ptr 10005000 0)),(9,.c (.ptr 10005001 0))],[(10005000,.rc [.nil,.int .i64 (0:Int)]),(10005001,.rc [.own 10005002 false,.int .i64 (0:Int)]),(10005002,.sl 155 y6_ i_03 .shallow)])) he ?_ ?_
  ·rintro⟨i9,i_03⟩ he
   refine Zi he fun r1_ he=>?_
   exact Zv [(4,[900]),(5,[])] (Zj he :) (Za [(900,10005000),(901,82901)])
  ·skip
   refine Zg he fun he=>?_
   refine Zo (ZfA i4) (fun (i5,i6,i_01)=>(Zm [(1,.c (.int .i64 i5)),(4,.c (.ptr 10002000 0)),(9,.c (.ptr 10002001 0)),(44,.agg [.int .i64 (i4.getD 0 0),.int .i64 (i4.getD 1 0),.int .i64 (i4.getD 2 0),.int .i64 (i4.getD 3 0),.int .i64 (i4.getD 4 0),.int .i64 (i4.getD 5 0),.int .i64 (i4.getD 6 0),.int .i64 (i4.getD 7 0),.int .i64 (i4.getD 8 0),.int .i64 (i4.getD 9 0),.int .i64 (i4.getD 10 0),.int .i64 (i4.getD 11 0),.int .i64 (i4.getD 12 0)]),(45,.c (.int .i64 i6))],[(10002000,.rc [.nil,.int .i64 (0:Int)]),(10002001,.rc [.own 10002002 false,.int .i64 (0:Int)]),(10002002,.sl 155 y6_ i_01 .shallow)])) he (Za [(10002000,10001000),(10002001,9)]) ?_
   rintro⟨i5,i6,i_01⟩ _ he
   refine Zh he (fun he=>?_) fun he=>?_
   ·refine Zg he fun he=>?_
    refine Zh he (fun he=>?_) fun he=>?_
    ·refine Zg he fun he=>?_
     refine Zg he fun he=>?_
     exact⟨_,(Zj he :),(Za [(10002002,58)])⟩
    ·refine Zh he (fun he=>?_) fun he=>?_
     ·refine ZL (ZmL i5 i6) (fun (i8,i_02)=>(Zm [(1,.c (.int .i64 i5)),(4,.c (.ptr 10004000 0)),(9,.c (.ptr 10004001 0)),(11,.c (.int .i64 i8)),(44,.agg [.int .i64 (i4.getD 0 0),.int .i64 (i4.getD 1 0),.int .i64 (i4.getD 2 0),.int .i64 (i4.getD 3 0),.int .i64 (i4.getD 4 0),.int .i64 (i4.getD 5 0),.int .i64 (i4.getD 6 0),.int .i64 (i4.getD 7 0),.int .i64 (i4.getD 8 0),.int .i64 (i4.getD 9 0),.int .i64 (i4.getD 10 0),.int .i64 (i4.getD 11 0),.int .i64 (i4.getD 12 0)]),(45,.c (.int .i64 i6))],[(10004000,.rc [.nil,.int .i64 (0:Int)]),(10004001,.rc [.own 10004002 false,.int .i64 (0:Int)]),(10004002,.sl 155 y6_ i_02 .shallow)])) he ?_ ?_
      ·rintro⟨i8,i_02⟩ he
       refine Zg he fun he=>?_
       refine Zg he fun he=>?_
       exact ZJ1
      ·skip
       refine Zg he fun he=>?_
       refine Zg he fun he=>?_
       refine Zg he fun he=>?_
       exact⟨_,he,(Za [(10004000,10002000),(10004001,10002001),(10004002,71)])⟩
     ·exact Zdy
   ·exact⟨_,(Zbh he :),(Za [(10005000,10002000),(10005001,10002001),(10005002,10002002)])⟩
 ·skip
  refine Zo (Zhe a0) (fun (i,i1,i2)=>(Zm [(1,.c (.int .i64 i)),(4,.c (.ptr 10000000 0)),(6,.c (.eptr 10000001 (0:Int) 0)),(12,.c (.imm y6_ a0)),(13,.c (.int .i64 (a0.length:Int))),(14,.c (.int .i64 i1))],[(10000000,.rc [.nil,.int .i64 (0:Int)]),(10000001,.sl 199 y0_ i2 .shallow)])) he (Za [(10000000,4),(10000001,6)]) ?_
  rintro⟨i,i1,i2⟩ _ he
  refine Zh he (fun he=>?_) fun he=>?_
  ·refine Zg he fun he=>?_
   refine Zh he (fun he=>?_) fun he=>?_
   ·refine Zg he fun he=>?_
    refine And.intro (by kernel_rfl) ?_
    obtain⟨hq1,he⟩:=ZO he
    obtain⟨hq2,he⟩:=ZO he
    obtain⟨hq3,he⟩:=ZO he
    obtain⟨hq4,he⟩:=ZO he
    refine Y5 ?_ ?_
    ·skip
     refine And.intro hq1 ?_
     refine And.intro hq2 ?_
     refine Y5 ?_ ?_
     ·skip
      exact ZF7
     ·skip
      exact ZF7
    ·skip
     refine Y4 ?_
     refine And.intro hq1 ?_
     refine And.intro hq2 ?_
     exact ZF7
   ·refine And.intro (by kernel_rfl) ?_
    obtain⟨hq1,he⟩:=ZO he
    obtain⟨hq2,he⟩:=ZO he
    obtain⟨hq3,he⟩:=ZO he
    refine Y5 ?_ ?_
    ·skip
     refine And.intro hq1 ?_
     refine Y5 ?_ ?_
     ·skip
      exact ZF8
     ·skip
      exact ZF8
    ·skip
     refine Y4 ?_
     refine And.intro hq1 ?_
     exact ZF8
  ·exact⟨_,(Zbh he :),(Za [(10001000,10000000),(10001001,10000001)])⟩
end
end Go.AE.Y
