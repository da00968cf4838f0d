/-
  Walks: each function keeps the contract that its model gives. No conditions.
-/
import Derived.Test.YtaeeiddjpigemaaGreatR8Tab
import Derived.Test.YtaeeiddjpigemaaGreatR8W1
import Derived.Test.YtaeeiddjpigemaaGreatR8S
namespace Go.AE.Y
open Go Go.AE Go.Proofs
set_option linter.unusedVariables false
set_option maxHeartbeats 2000000
set_option maxRecDepth 100000
noncomputable section
def Zdg:Con:=fun
  |[.c (.imm (.sl (.int .i64)) s_),.c (.fn 201 [0])],[(0,.rc [.int .i64 o0_0,.imm (.int .i64) o0_1,.imm (.int .i64) o0_2,.int .i64 o0_3,.imm (.sl (.int .i64)) o0_4])]=>.opt _ (ZdD s_ (o0_0,(o0_1,(o0_2,(o0_3,o0_4))))) (fun r=>.ret (.c (.int .i64 r)) [(0,.rc [.int .i64 o0_0,.imm y0_ o0_1,.imm y0_ o0_2,.int .i64 o0_3,.imm (.sl y0_) o0_4])])
  |_,_=>.fail
def ZjX:Cfg:={ y:=tys,n:=19,h:=1,tab:=[(201,ZmF)] }
theorem ZHc {P:Prop} (h:P:=by
  refine Zh he (fun he=>?_) fun he=>?_
  ·exact Zbd
  ·exact ZdH):P:=h
theorem ZLk {P:Prop} (h:P:=by
  refine Zg he fun he=>?_
  refine Zi he fun r1_ he=>?_
  exact ZHc):P:=h
theorem Zzg {P:Prop} (h:P:=by
  refine Zh he (fun he=>?_) fun he=>?_
  ·exact ZLk
  ·exact Zbd):P:=h
theorem Zkf:Zn Tryz.prog 250 Zdg:=by
 refine Zq (C:=ZjX) Tryz.f250 (Zk Zyo Zr) fun _ a b k he=>?_
 unfold Zdg at he;split at he;rotate_left;exact he.elim
 rename_i s_ o0_0 o0_1 o0_2 o0_3 o0_4
 refine Zs he fun he=>?_
 refine Zp (Zbs s_ (o0_0,(o0_1,(o0_2,(o0_3,o0_4))))) (fun i=>(Zm [(0,.c (.imm (.sl y0_) s_)),(1,.c (.fn 201 [0])),(7,.c (.int .i64 (s_.length:Int))),(8,.c (.int .i64 i))],[(0,.rc [.int .i64 (o0_0,(o0_1,(o0_2,(o0_3,o0_4)))).1,.imm y0_ (o0_0,(o0_1,(o0_2,(o0_3,o0_4)))).2.1,.imm y0_ (o0_0,(o0_1,(o0_2,(o0_3,o0_4)))).2.2.1,.int .i64 (o0_0,(o0_1,(o0_2,(o0_3,o0_4)))).2.2.2.1,.imm (.sl y0_) (o0_0,(o0_1,(o0_2,(o0_3,o0_4)))).2.2.2.2])])) he (Za []) ?_
 rintro i _ he
 exact Zzg
def ZcS:Con:=fun
  |[.c (.imm (.sl (.int .i64)) s_),.c (.fn 201 [0])],[(0,.rc [.int .i64 o0_0,.imm (.int .i64) o0_1,.imm (.int .i64) o0_2,.int .i64 o0_3,.imm (.sl (.int .i64)) o0_4])]=>.opt _ (Zb5 s_ (o0_0,(o0_1,(o0_2,(o0_3,o0_4))))) (fun r=>.ret (.c (.bool r)) [(0,.rc [.int .i64 o0_0,.imm y0_ o0_1,.imm y0_ o0_2,.int .i64 o0_3,.imm (.sl y0_) o0_4])])
  |_,_=>.fail
def ZiU:Cfg:={ y:=tys,n:=9,h:=1,tab:=[(250,Zdg)] }
theorem Zi9:Zn Tryz.prog 200 ZcS:=by
 refine Zq (C:=ZiU) Tryz.f200 (Zk Zkf Zr) fun _ a b k he=>?_
 unfold ZcS at he;split at he;rotate_left;exact he.elim
 rename_i s_ o0_0 o0_1 o0_2 o0_3 o0_4
 refine Zs he fun he=>?_
 refine Zi he fun r1_ he=>?_
 exact Zbd
def ZoQ:Con:=fun
  |[.agg [.int .i64 a0_0,.imm (.int .i64) a0_1,.imm (.int .i64) a0_2,.int .i64 a0_3,.imm (.sl (.int .i64)) a0_4],.c (.int .i64 a1)],[]=>.opt _ (Zno (a0_0,(a0_1,(a0_2,(a0_3,a0_4)))) a1) (fun r=>.ret (.c (.bool r)) [])
  |_,_=>.fail
def ZAo:Cfg:={ y:=tys,n:=104,h:=0,tab:=[(125,Zc4),(127,ZbY),(178,ZeU),(200,ZcS)],cut:=[9] }
theorem ZLl {P:Prop} (h:P:=by
  refine Zg he fun he=>?_
  refine Zi he fun r2_ he=>?_
  exact ZHc):P:=h
theorem ZLm {P:Prop} (h:P:=by
  refine Zh he (fun he=>?_) fun he=>?_
  ·refine Zh he (fun he=>?_) fun he=>?_
   ·exact Zbd
   ·exact⟨_,he,(Za [(10001000,10000000)])⟩
  ·exact⟨_,he,(Za [(10001000,10000000)])⟩):P:=h
theorem ZAD:Zn Tryz.prog 140 ZoQ:=by
 refine Zq (C:=ZAo) Tryz.f140 (Zk ZjD (Zk Zcz (Zk Zkc (Zk Zi9 Zr)))) fun _ a b k he=>?_
 unfold ZoQ at he;split at he;rotate_left;exact he.elim
 rename_i a0_0 a0_1 a0_2 a0_3 a0_4 a1
 refine Zs he fun he=>?_
 refine Zp (ZjJ (a0_0,(a0_1,(a0_2,(a0_3,a0_4)))) a1) (fun i=>(Zm [(1,.c (.int .i64 a1)),(2,.c (.ptr 10000000 0)),(8,.c (.imm y0_ (a0_0,(a0_1,(a0_2,(a0_3,a0_4)))).2.1)),(9,.c (.int .i64 ((a0_0,(a0_1,(a0_2,(a0_3,a0_4)))).2.1.length:Int))),(10,.c (.int .i64 i))],[(10000000,.rc [.int .i64 (a0_0,(a0_1,(a0_2,(a0_3,a0_4)))).1,.imm y0_ (a0_0,(a0_1,(a0_2,(a0_3,a0_4)))).2.1,.imm y0_ (a0_0,(a0_1,(a0_2,(a0_3,a0_4)))).2.2.1,.int .i64 (a0_0,(a0_1,(a0_2,(a0_3,a0_4)))).2.2.2.1,.imm (.sl y0_) (a0_0,(a0_1,(a0_2,(a0_3,a0_4)))).2.2.2.2])])) he (Za [(10000000,2)]) ?_
 rintro i _ he
 refine Zh he (fun he=>?_) fun he=>?_
 ·refine Zg he fun he=>?_
  refine Zg he fun he=>?_
  refine Zi he fun r1_ he=>?_
  refine ZD he (fun he=>?_) fun he=>?_
  ·exact ZLl
  ·exact Zbd
 ·refine ZN (Zey (a0_0,(a0_1,(a0_2,(a0_3,a0_4))))) (fun _=>(Zm [(2,.c (.ptr 10001000 0))],[(10001000,.rc [.int .i64 (a0_0,(a0_1,(a0_2,(a0_3,a0_4)))).1,.imm y0_ (a0_0,(a0_1,(a0_2,(a0_3,a0_4)))).2.1,.imm y0_ (a0_0,(a0_1,(a0_2,(a0_3,a0_4)))).2.2.1,.int .i64 (a0_0,(a0_1,(a0_2,(a0_3,a0_4)))).2.2.2.1,.imm (.sl y0_) (a0_0,(a0_1,(a0_2,(a0_3,a0_4)))).2.2.2.2])])) he ?_ ?_
  ·rintro⟨⟩ he
   refine Zh he (fun he=>?_) fun he=>?_
   ·refine Zh he (fun he=>?_) fun he=>?_
    ·refine Zi he fun r3_ he=>?_
     refine Zh he (fun he=>?_) fun he=>?_
     ·refine Zi he fun r4_ he=>?_
      exact Zbd
     ·exact Zbd
    ·exact Zbd
   ·refine Zh he (fun he=>?_) fun he=>?_
    ·refine Zh he (fun he=>?_) fun he=>?_
     ·refine Zi he fun r5_ he=>?_
      exact Zbd
     ·exact Zbd
    ·refine Zh he (fun he=>?_) fun he=>?_
     ·exact Zbd
     ·exact Zbd
  ·skip
   refine ZD he (fun he=>?_) fun he=>?_
   ·refine Zh he (fun he=>?_) fun he=>?_
    ·refine ZD he (fun he=>?_) fun he=>?_
     ·refine ZD he (fun he=>?_) fun he=>?_
      ·exact ZLm
      ·exact Zbd
     ·exact Zbd
    ·exact ZLm
   ·exact Zbd
def ZlN:Con:=fun
  |[.agg [.int .i64 r__0,.imm (.int .i64) r__1,.imm (.int .i64) r__2,.int .i64 r__3,.imm (.sl (.int .i64)) r__4],.c (.ptr 0 0)],[(0,.rc [.imm (.int .i64) o0_0,.imm (.pair (.int .i64) (.pair (.sl (.int .i64)) (.pair (.sl (.int .i64)) (.pair (.int .i64) (.sl (.sl (.int .i64))))))) o0_1])]=>.opt _ (ZnQ (r__0,(r__1,(r__2,(r__3,r__4)))) (o0_0,o0_1)) (fun r=>.ret (.c (.bool r)) [(0,.rc [.imm y0_ o0_0,.imm y5_ o0_1])])
  |_,_=>.fail
def Zxh:Cfg:={ y:=tys,n:=10,h:=1,tab:=[(140,ZoQ)] }
theorem Zxz:Zn Tryz.prog 139 ZlN:=by
 refine Zq (C:=Zxh) Tryz.f139 (Zk ZAD Zr) fun _ a b k he=>?_
 unfold ZlN at he;split at he;rotate_left;exact he.elim
 rename_i r__0 r__1 r__2 r__3 r__4 o0_0 o0_1
 refine Zs he fun he=>?_
 refine Zi he fun r1_ he=>?_
 exact ZtQ
def ZcD:Con:=fun
  |[.c (.imm (.pair (.int .i64) (.pair (.sl (.int .i64)) (.pair (.sl (.int .i64)) (.pair (.int .i64) (.sl (.sl (.int .i64))))))) s_),.c (.fn 139 [0])],[(0,.rc [.imm (.int .i64) o0_0,.imm (.pair (.int .i64) (.pair (.sl (.int .i64)) (.pair (.sl (.int .i64)) (.pair (.int .i64) (.sl (.sl (.int .i64))))))) o0_1])]=>.opt _ (ZcX s_ (o0_0,o0_1)) (fun r=>.ret (.c (.int .i64 r)) [(0,.rc [.imm y0_ o0_0,.imm y5_ o0_1])])
  |_,_=>.fail
def Zix:Cfg:={ y:=tys,n:=19,h:=1,tab:=[(139,ZlN)] }
theorem Ziy:Zn Tryz.prog 198 ZcD:=by
 refine Zq (C:=Zix) Tryz.f198 (Zk Zxz Zr) fun _ a b k he=>?_
 unfold ZcD at he;split at he;rotate_left;exact he.elim
 rename_i s_ o0_0 o0_1
 refine Zs he fun he=>?_
 refine Zp (Zba s_ (o0_0,o0_1)) (fun i=>(Zm [(0,.c (.imm y5_ s_)),(1,.c (.fn 139 [0])),(7,.c (.int .i64 (s_.length:Int))),(8,.c (.int .i64 i))],[(0,.rc [.imm y0_ (o0_0,o0_1).1,.imm y5_ (o0_0,o0_1).2])])) he (Za []) ?_
 rintro i _ he
 exact Zzg
def Zcm:Con:=fun
  |[.c (.imm (.pair (.int .i64) (.pair (.sl (.int .i64)) (.pair (.sl (.int .i64)) (.pair (.int .i64) (.sl (.sl (.int .i64))))))) s_),.c (.fn 139 [0])],[(0,.rc [.imm (.int .i64) o0_0,.imm (.pair (.int .i64) (.pair (.sl (.int .i64)) (.pair (.sl (.int .i64)) (.pair (.int .i64) (.sl (.sl (.int .i64))))))) o0_1])]=>.opt _ (ZbM s_ (o0_0,o0_1)) (fun r=>.ret (.c (.bool r)) [(0,.rc [.imm y0_ o0_0,.imm y5_ o0_1])])
  |_,_=>.fail
def Zg0:Cfg:={ y:=tys,n:=9,h:=1,tab:=[(198,ZcD)] }
theorem Zhf:Zn Tryz.prog 138 Zcm:=by
 refine Zq (C:=Zg0) Tryz.f138 (Zk Ziy Zr) fun _ a b k he=>?_
 unfold Zcm at he;split at he;rotate_left;exact he.elim
 rename_i s_ o0_0 o0_1
 refine Zs he fun he=>?_
 refine Zi he fun r1_ he=>?_
 exact Zbd
def Zev:Con:=fun
  |[.agg [.imm (.int .i64) m_0,.imm (.pair (.int .i64) (.pair (.sl (.int .i64)) (.pair (.sl (.int .i64)) (.pair (.int .i64) (.sl (.sl (.int .i64))))))) m_1]],[]=>.opt _ (ZeB (m_0,m_1)) (fun r=>.ret (.c (.bool r)) [])
  |_,_=>.fail
def ZzO:Cfg:={ y:=tys,n:=41,h:=0,tab:=[(127,ZbY),(138,Zcm)] }
theorem ZL {P:Prop} (h:P:=by
  exact Zt [(2,[])] (Zj he :) (Za [])):P:=h
theorem ZgR:Zn Tryz.prog 71 Zev:=by
 refine Zq (C:=ZzO) Tryz.f71 (Zk Zcz (Zk Zhf Zr)) fun _ a b k he=>?_
 unfold Zev at he;split at he;rotate_left;exact he.elim
 rename_i m_0 m_1
 refine Zs he fun he=>?_
 refine Zi he fun r1_ he=>?_
 refine ZD he (fun he=>?_) fun he=>?_
 ·refine Zh he (fun he=>?_) fun he=>?_
  ·exact ZL
  ·refine Zp (ZmT (m_0,m_1)) (fun (count,i)=>(Zm [(1,.c (.ptr 10000000 0)),(3,.c (.int .i64 count)),(18,.c (.imm y0_ (m_0,m_1).1)),(19,.c (.int .i64 ((m_0,m_1).1.length:Int))),(20,.c (.int .i64 i))],[(10000000,.rc [.imm y0_ (m_0,m_1).1,.imm y5_ (m_0,m_1).2])])) he (Za [(10000000,1)]) ?_
   rintro⟨count,i⟩ _ he
   refine Zh he (fun he=>?_) fun he=>?_
   ·refine Zg he fun he=>?_
    refine Zi he fun r2_ he=>?_
    refine Zh he (fun he=>?_) fun he=>?_
    ·exact ZL
    ·exact ZvF
   ·refine Zh he (fun he=>?_) fun he=>?_
    ·refine Zi he fun r3_ he=>?_
     exact ZL
    ·exact ZL
 ·exact ZL
def Zem:Con:=fun
  |[.agg [.imm (.int .i64) m_0,.imm (.pair (.int .i64) (.pair (.sl (.int .i64)) (.pair (.sl (.int .i64)) (.pair (.int .i64) (.sl (.sl (.int .i64))))))) m_1],.c (.int .i64 cell),.c (.int .i64 value)],[]=>.opt _ (Zdy (m_0,m_1) cell value) (fun r=>.ret (.c (.int .i64 r)) [])
  |_,_=>.fail
def ZvT:Cfg:={ y:=tys,n:=27,h:=0,tab:=[] }
theorem Zhe:Zn Tryz.prog 128 Zem:=by
 refine Zq (C:=ZvT) Tryz.f128 Zr fun _ a b k he=>?_
 unfold Zem at he;split at he;rotate_left;exact he.elim
 rename_i m_0 m_1 cell value
 refine Zs he fun he=>?_
 refine Zg he fun he=>?_
 refine Zg he fun he=>?_
 refine Zp (Zj6 (m_0,m_1) cell) (fun (v,i)=>(Zm [(7,.c (.int .i64 v)),(15,.c (.imm y0_ ((m_0,m_1).1.take cell.toNat))),(16,.c (.int .i64 (((m_0,m_1).1.take cell.toNat).length:Int))),(17,.c (.int .i64 i))],[])) he (Za []) ?_
 rintro⟨v,i⟩ _ he
 refine Zh he (fun he=>?_) fun he=>?_
 ·exact ZtN
 ·exact Z5
def Zh8:Con:=fun
  |[.agg [.imm (.int .i64) m_0,.imm (.pair (.int .i64) (.pair (.sl (.int .i64)) (.pair (.sl (.int .i64)) (.pair (.int .i64) (.sl (.sl (.int .i64))))))) m_1],.c (.int .i64 cell)],[]=>.opt _ (ZgN (m_0,m_1) cell) (fun r=>.ret (.c (.own 900 false)) [(900,.sl 3 y0_ r .shallow)])
  |_,_=>.fail
def Zxj:Cfg:={ y:=tys,n:=25,h:=0,tab:=[(128,Zem)] }
theorem Zqp:Zn Tryz.prog 118 Zh8:=by
 refine Zq (C:=Zxj) Tryz.f118 (Zk Zhe Zr) fun _ a b k he=>?_
 unfold Zh8 at he;split at he;rotate_left;exact he.elim
 rename_i m_0 m_1 cell
 refine Zs he fun he=>?_
 refine Zg he fun he=>?_
 refine Zg he fun he=>?_
 refine Zp (Zfe (m_0,m_1) cell) (fun (i,out)=>(Zm [(1,.c (.int .i64 cell)),(2,.c (.ptr 10000000 0)),(5,.c (.own 10000001 false)),(12,.c (.int .i64 (((m_0,m_1).1.getD cell.toNat 0)+(1:Int)))),(13,.c (.int .i64 i))],[(10000000,.rc [.imm y0_ (m_0,m_1).1,.imm y5_ (m_0,m_1).2]),(10000001,.sl 3 y0_ out .shallow)])) he (Za [(10000000,2)]) ?_
 rintro⟨i,out⟩ _ he
 refine Zh he (fun he=>?_) fun he=>?_
 ·refine Zi he fun r2_ he=>?_
  refine Zg he fun he=>?_
  refine Zg he fun he=>?_
  exact⟨_,(Zj he :),(Za [(10000001,22)])⟩
 ·exact Zt [(4,[])] (Zj he :) (Za [(900,10000001)])
def ZhI:Con:=fun
  |[.c (.int .i64 l)],[]=>.opt _ (ZhC l) (fun r=>.ret (.c (.bool r)) [])
  |_,_=>.fail
def ZAm:Cfg:={ y:=tys,n:=9,h:=0,tab:=[(127,ZbY)] }
theorem ZoX:Zn Tryz.prog 177 ZhI:=by
 refine Zq (C:=ZAm) Tryz.f177 (Zk Zcz Zr) fun _ a b k he=>?_
 unfold ZhI at he;split at he;rotate_left;exact he.elim
 rename_i l
 refine Zs he fun he=>?_
 refine Zh he (fun he=>?_) fun he=>?_
 ·exact ZHb
 ·exact Z5
def ZcP:Con:=fun
  |[.c (.imm (.int .i64) s_)],[]=>.opt _ (Zbu s_) (fun r=>.ret (.c (.own 900 false)) [(900,.sl 3 y0_ r .shallow)])
  |_,_=>.fail
def ZxR:Cfg:={ y:=tys,n:=8,h:=0,tab:=[] }
theorem Zeg:Zn Tryz.prog 75 ZcP:=by
 refine Zq (C:=ZxR) Tryz.f75 Zr fun _ a b k he=>?_
 unfold ZcP at he;split at he;rotate_left;exact he.elim
 rename_i s_
 refine Zs he fun he=>?_
 refine fun b1_ hb1_=>?_
 have he:=ZJN he hb1_
 refine And.intro (fun hb=>?_) (fun hb=>?_)
 ·have he:=ZGv he hb
  exact ZL
 ·have he:=ZGu he hb
  refine Zg he fun he=>?_
  exact Zt [(2,[])] (Zj he :) (Za [(900,7)])
def Zew:Con:=fun
  |[.c (.int .i64 l)],[]=>.opt _ (Zdr l) (fun r=>.ret (.c (.int .i64 r)) [])
  |_,_=>.fail
def ZzR:Cfg:={ y:=tys,n:=7,h:=0,tab:=[] }
theorem ZgS:Zn Tryz.prog 170 Zew:=by
 refine Zq (C:=ZzR) Tryz.f170 Zr fun _ a b k he=>?_
 unfold Zew at he;split at he;rotate_left;exact he.elim
 rename_i l
 refine Zs he fun he=>?_
 refine Zg he fun he=>?_
 exact Z5
def Zsp:Con:=fun
  |[.c (.int .i64 a),.c (.int .i64 b)],[]=>.opt _ (Zi3 a b) (fun r=>.ret (.c (.int .i64 r)) [])
  |_,_=>.fail
def ZzN:Cfg:={ y:=tys,n:=10,h:=0,tab:=[(170,Zew)] }
theorem ZCr {P:Prop} (h:P:=by
  refine Zg he fun he=>?_
  exact Z5):P:=h
theorem ZzV:Zn Tryz.prog 180 Zsp:=by
 refine Zq (C:=ZzN) Tryz.f180 (Zk ZgS Zr) fun _ a b k he=>?_
 unfold Zsp at he;split at he;rotate_left;exact he.elim
 rename_i a b
 refine Zs he fun he=>?_
 refine Zi he fun r1_ he=>?_
 refine Zi he fun r2_ he=>?_
 exact ZCr
def Zfy:Con:=ZGN 180 Zi3
theorem ZlY:Zn Tryz.prog 179 Zfy:=ZHT ZM5 ZzV (fun x y=>rfl)
def ZkI:Con:=fun
  |[.c (.own 0 false)],[(0,.sl 3 (.int .i64) s_ .shallow)]=>.opt _ (Zjb s_) (fun r=>.ret (.c (.own 900 false)) [(0,.dead),(900,.sl 3 y0_ r .shallow)])
  |_,_=>.fail
def ZvW:Cfg:={ y:=tys,n:=61,h:=1,tab:=[],cut:=[14] }
theorem ZLn {P:Prop} (h:P:=by
  refine Zg he fun he=>?_
  refine Zg he fun he=>?_
  refine Zh he (fun he=>?_) fun he=>?_
  ·exact ZtN
  ·exact ZdH):P:=h
theorem Zwq:Zn Tryz.prog 181 ZkI:=by
 refine Zq (C:=ZvW) Tryz.f181 Zr fun _ a b k he=>?_
 unfold ZkI at he;split at he;rotate_left;exact he.elim
 rename_i s_
 refine Zs he fun he=>?_
 refine Zh he (fun he=>?_) fun he=>?_
 ·exact Zt [(2,[])] (Zj he :) (Za [(900,0)])
 ·refine Zp (Zgr s_) (fun k_=>(Zm [(0,.c (.own 0 false)),(3,.c (.int .i64 k_))],[(0,.sl 3 y0_ s_ .shallow)])) he (Za []) ?_
  rintro k_ _ he
  refine Zh he (fun he=>?_) fun he=>?_
  ·refine And.intro (by kernel_rfl) ?_
   refine Zg he fun he=>?_
   refine Zg he fun he=>?_
   refine Zg he fun he=>?_
   refine Zh he (fun he=>?_) fun he=>?_
   ·refine Zg he fun he=>?_
    refine ZN (Zkk) (fun (k_2,s_2)=>(Zm [(0,.c (.own 0 false)),(3,.c (.int .i64 k_2))],[(0,.sl 3 y0_ s_2 .shallow)])) he ?_ ?_
    ·rintro⟨k_2,s_2⟩ he
     refine Zg he fun he=>?_
     refine Zg he fun he=>?_
     exact Zt [(2,[])] (Zj he :) (Za [(900,59)])
    ·skip
     refine Zp (Zgs k_) (fun (k_1,k2_,s_1)=>(Zm [(0,.c (.own 0 false)),(3,.c (.int .i64 k_1)),(4,.c (.view 0 k_)),(5,.c (.int .i64 k2_))],[(0,.sl 3 y0_ s_1 .shallow)])) he (Za []) ?_
     rintro⟨k_1,k2_,s_1⟩ _ he
     refine Zh he (fun he=>?_) fun he=>?_
     ·refine And.intro (by kernel_rfl) ?_
      refine Zg he fun he=>?_
      exact ZLn
     ·exact⟨_,(Zbp he :),(Za [])⟩
   ·exact ZdH
  ·exact Zt [(2,[])] (Zj he :) (Za [(900,0)])
def ZiW:Con:=fun
  |[.c (.imm (.int .i64) lits)],[]=>.opt _ (ZiO lits) (fun r=>.ret (.tup [.agg [.own 901 false,.int .i64 r.2.1],.c (.bool r.1)]) [(900,.rc [.own 901 false,.int .i64 r.2.1]),(901,.sl 155 y6_ r.2.2 .shallow)])
  |_,_=>.fail
def ZA7:Cfg:={ y:=tys,n:=52,h:=0,tab:=[(75,ZcP),(177,ZhI),(178,ZeU),(179,Zfy),(181,ZkI)],hand:=[(179,[0]),(181,[0])] }
theorem ZtR {P:Prop} (h:P:=by
  exact Zt [(2,[900]),(3,[])] (Zj he :) (Za [(900,2)])):P:=h
theorem ZCs {P:Prop} (h:P:=by
  exact Zt [(2,[900]),(3,[])] (Zj he :) (Za [(900,10000000)])):P:=h
theorem Zp1:Zn Tryz.prog 119 ZiW:=by
 refine Zq (C:=ZA7) Tryz.f119 (Zk Zeg (Zk ZoX (Zk Zkc (Zk ZlY (Zk Zwq Zr))))) fun _ a b k he=>?_
 unfold ZiW at he;split at he;rotate_left;exact he.elim
 rename_i lits
 refine Zs he fun he=>?_
 refine Zh he (fun he=>?_) fun he=>?_
 ·exact ZtR
 ·refine Zp (ZkP lits) (fun i=>(Zm [(0,.c (.imm y0_ lits)),(2,.c (.ptr 10000000 0)),(14,.c (.imm y0_ lits)),(15,.c (.int .i64 (lits.length:Int))),(16,.c (.int .i64 i))],[(10000000,.rc [.nil,.int .i64 (0:Int)])])) he (Za [(10000000,2)]) ?_
  rintro i _ he
  refine Zh he (fun he=>?_) fun he=>?_
  ·refine Zg he fun he=>?_
   refine Zi he fun r1_ he=>?_
   refine ZD he (fun he=>?_) fun he=>?_
   ·refine Zg he fun he=>?_
    refine Zi he fun r2_ he=>?_
    refine Zh he (fun he=>?_) fun he=>?_
    ·exact ZCs
    ·exact ZdH
   ·exact ZCs
  ·refine Zi he fun r3_ he=>?_
   refine Zi he fun r4_ he=>?_
   refine Zi he fun r5_ he=>?_
   refine Zp (ZkQ r5_) (fun (i1,c_0)=>(Zm [(2,.c (.ptr 10001000 0)),(7,.c (.ptr 10001001 0)),(37,.c (.own 10001002 false)),(38,.c (.int .i64 (r5_.length:Int))),(39,.c (.int .i64 i1))],[(10001000,.rc [.nil,.int .i64 (0:Int)]),(10001001,.rc [.own 10001003 false,.int .i64 (1:Int)]),(10001002,.sl 3 y0_ r5_ .shallow),(10001003,.sl 155 y6_ c_0 .shallow)])) he (Za [(10001000,10000000),(10001001,7),(10001002,38900)]) ?_
   rintro⟨i1,c_0⟩ _ he
   refine Zh he (fun he=>?_) fun he=>?_
   ·refine Zg he fun he=>?_
    refine Zg he fun he=>?_
    refine Zg he fun he=>?_
    exact⟨_,(Zj he :),(Za [(10001003,48)])⟩
   ·exact Zt [(2,[900]),(3,[])] (Zj he :) (Za [(900,10001000),(901,10001003)])
def ZkF:Con:=fun
  |[.c (.imm (.int .i64) vars)],[]=>.opt _ (Zj7 vars) (fun r=>.ret (.agg [.own 901 false,.int .i64 r.1]) [(900,.rc [.own 901 false,.int .i64 r.1]),(901,.sl 155 y6_ r.2 .shallow)])
  |_,_=>.fail
def ZAl:Cfg:={ y:=tys,n:=26,h:=0,tab:=[] }
theorem Ztt:Zn Tryz.prog 120 ZkF:=by
 refine Zq (C:=ZAl) Tryz.f120 Zr fun _ a b k he=>?_
 unfold ZkF at he;split at he;rotate_left;exact he.elim
 rename_i vars
 refine Zs he fun he=>?_
 refine Zg he fun he=>?_
 refine Zp (ZgQ vars) (fun (i,c_0)=>(Zm [(2,.c (.ptr 10000000 0)),(3,.c (.ptr 10000001 0)),(10,.c (.imm y0_ vars)),(11,.c (.int .i64 (vars.length:Int))),(12,.c (.int .i64 i))],[(10000000,.rc [.nil,.int .i64 (0:Int)]),(10000001,.rc [.own 10000002 false,.int .i64 ((vars.length:Int) - (1:Int))]),(10000002,.sl 155 y6_ c_0 .shallow)])) he (Za [(10000000,2),(10000001,3)]) ?_
 rintro⟨i,c_0⟩ _ he
 refine Zh he (fun he=>?_) fun he=>?_
 ·refine Zg he fun he=>?_
  refine Zg he fun he=>?_
  refine Zg he fun he=>?_
  exact ZLf
 ·exact Zt [(2,[900])] (Zj he :) (Za [(900,10000000),(901,10000002)])
def Zbb:Con:=fun
  |[.agg [.imm (.pair (.int .i64) (.int .i64)) c__0,.int .i64 c__1]],[]=>.opt _ (Z6 (c__0,c__1)) (fun r=>.ret (.c (.bool r)) [])
  |_,_=>.fail
def ZuG:Cfg:={ y:=tys,n:=37,h:=0,tab:=[(127,ZbY),(170,Zew),(177,ZhI)] }
theorem ZbH:Zn Tryz.prog 223 Zbb:=by
 refine Zq (C:=ZuG) Tryz.f223 (Zk Zcz (Zk ZgS (Zk ZoX Zr))) fun _ a b k he=>?_
 unfold Zbb at he;split at he;rotate_left;exact he.elim
 rename_i c__0 c__1
 refine Zs he fun he=>?_
 refine Zp (ZiK (c__0,c__1)) (fun (before,i)=>(Zm [(1,.c (.ptr 10000000 0)),(3,.c (.int .i64 before)),(7,.c (.imm y6_ (c__0,c__1).1)),(8,.c (.int .i64 ((c__0,c__1).1.length:Int))),(9,.c (.int .i64 i))],[(10000000,.rc [.imm y6_ (c__0,c__1).1,.int .i64 (c__0,c__1).2])])) he (Za [(10000000,1)]) ?_
 rintro⟨before,i⟩ _ he
 refine Zh he (fun he=>?_) fun he=>?_
 ·refine Zg he fun he=>?_
  refine Zi he fun r1_ he=>?_
  refine ZD he (fun he=>?_) fun he=>?_
  ·refine Zi he fun r2_ he=>?_
   refine ZD he (fun he=>?_) fun he=>?_
   ·refine Zi he fun r3_ he=>?_
    refine Zh he (fun he=>?_) fun he=>?_
    ·exact ZL
    ·refine Zi he fun r4_ he=>?_
     exact ZdH
   ·exact ZL
  ·exact ZL
 ·refine Zi he fun r5_ he=>?_
  exact ZL
def ZgC:Con:=fun
  |[.agg [.own 0 false,.int .i64 c_1]],[(0,.sl 155 (.pair (.int .i64) (.int .i64)) o0 .shallow)]=>.opt _ (Zdj c_1 o0) (fun r=>.ret (.tup [.agg [.own 901 false,.int .i64 r.2.1],.c (.bool r.1)]) [(0,.dead),(900,.rc [.own 901 false,.int .i64 r.2.1]),(901,.sl 155 y6_ r.2.2 .shallow)])
  |_,_=>.fail
def ZrV:Cfg:={ y:=tys,n:=9,h:=1,tab:=[(223,Zbb)] }
theorem Zsd:Zn Tryz.prog 187 ZgC:=by
 refine Zq (C:=ZrV) Tryz.f187 (Zk ZbH Zr) fun _ a b k he=>?_
 unfold ZgC at he;split at he;rotate_left;exact he.elim
 rename_i c_1 o0
 refine Zs he fun he=>?_
 refine Zi he fun r1_ he=>?_
 refine Zh he (fun he=>?_) fun he=>?_
 ·exact ZtR
 ·exact Zt [(2,[900]),(3,[])] (Zj he :) (Za [(900,2),(901,0)])
def ZlB:Con:=fun
  |[.c (.imm (.pair (.int .i64) (.int .i64)) a0),.c (.int .i64 a1)],[]=>.opt _ (Zhv a0 a1) (fun r=>.ret (.tup [.agg [.own 901 false,.int .i64 r.2.1],.c (.bool r.1)]) [(900,.rc [.own 901 false,.int .i64 r.2.1]),(901,.sl 155 y6_ r.2.2 .shallow)])
  |_,_=>.fail
def Zs1:Sched:=ZB [7,8] (.alt 9 .done .stop)
def Zs2:Sched:=.alt 4 Zs1 .stop
def Zs3:Sched:=ZB [6,7] (.alt 8 .done .stop)
def Zs4:Sched:=.alt 3 Zs3 .stop
def ZEu:Cfg:={ y:=tys,n:=84,h:=0,tab:=[(187,ZgC)],cut:=[10,18,20],hand:=[(187,[0])],sched:=[(7,(ZB [0,5] (.alt 1 (ZB [2,3] (.alt 4 (.alt 6 Zs1 .stop) (.alt 6 Zs2 .stop))) (.alt 6 (.alt 1 (ZB [2,3] Zs2) .stop) .stop)))),(8,(ZB [0,4] (.alt 1 (.first 2 (.alt 3 (.alt 5 Zs3 .stop) (.alt 5 Zs4 .stop))) (.alt 5 (.alt 1 (.first 2 Zs4) .stop) .stop))))],nils:=[187] }
theorem Zos {P:Prop} (h:P:=by
  refine Y4 ?_
  exact ZdH):P:=h
theorem ZHd {P:Prop} (h:P:=by
  refine Y4 ?_
  refine And.intro hq3 ?_
  refine And.intro hq2 ?_
  exact Zos):P:=h
theorem ZHe {P:Prop} (h:P:=by
  refine Y4 ?_
  refine And.intro hq2 ?_
  refine And.intro hq1 ?_
  exact Zos):P:=h
theorem Zse:Zn Tryz.prog 129 ZlB:=by
 refine Zq (C:=ZEu) Tryz.f129 (Zk Zsd Zr) fun _ a b k he=>?_
 unfold ZlB at he;split at he;rotate_left;exact he.elim
 rename_i a0 a1
 refine Zs he fun he=>?_
 refine ZN (Zj8) (fun (i3,i4)=>(Zm [(1,.c (.int .i64 i3)),(4,.c (.ptr 10001000 0)),(6,.c (.eptr 10001001 (0:Int) 0))],[(10001000,.rc [.nil,.int .i64 (0:Int)]),(10001001,.sl 199 y0_ i4 .shallow)])) he ?_ ?_
 ·rintro⟨i3,i4⟩ he
  refine ZN (Znm) (fun (i9,i_03)=>(Zm [(1,.c (.int .i64 i9)),(4,.c (.ptr 10005000 0)),(9,.c (.ptr 10005001 0))],[(10005000,.rc [.nil,.int .i64 (0:Int)]),(10005001,.rc [.own 10005002 false,.int .i64 (0:Int)]),(10005002,.sl 155 y6_ i_03 .shallow)])) he ?_ ?_
  ·rintro⟨i9,i_03⟩ he
   refine Zi he fun r1_ he=>?_
   exact Zt [(4,[900]),(5,[])] (Zj he :) (Za [(900,10005000),(901,82901)])
  ·skip
   refine Zg he fun he=>?_
   refine Zp (ZfM i4) (fun (i5,i6,i_01)=>(Zm [(1,.c (.int .i64 i5)),(4,.c (.ptr 10002000 0)),(9,.c (.ptr 10002001 0)),(44,.agg [.int .i64 (i4.getD 0 0),.int .i64 (i4.getD 1 0),.int .i64 (i4.getD 2 0),.int .i64 (i4.getD 3 0),.int .i64 (i4.getD 4 0),.int .i64 (i4.getD 5 0),.int .i64 (i4.getD 6 0),.int .i64 (i4.getD 7 0),.int .i64 (i4.getD 8 0),.int .i64 (i4.getD 9 0),.int .i64 (i4.getD 10 0),.int .i64 (i4.getD 11 0),.int .i64 (i4.getD 12 0)]),(45,.c (.int .i64 i6))],[(10002000,.rc [.nil,.int .i64 (0:Int)]),(10002001,.rc [.own 10002002 false,.int .i64 (0:Int)]),(10002002,.sl 155 y6_ i_01 .shallow)])) he (Za [(10002000,10001000),(10002001,9)]) ?_
   rintro⟨i5,i6,i_01⟩ _ he
   refine Zh he (fun he=>?_) fun he=>?_
   ·refine Zg he fun he=>?_
    refine Zh he (fun he=>?_) fun he=>?_
    ·refine Zg he fun he=>?_
     refine Zg he fun he=>?_
     exact⟨_,(Zj he :),(Za [(10002002,58)])⟩
    ·refine Zh he (fun he=>?_) fun he=>?_
     ·refine ZN (Znn i5 i6) (fun (i8,i_02)=>(Zm [(1,.c (.int .i64 i5)),(4,.c (.ptr 10004000 0)),(9,.c (.ptr 10004001 0)),(11,.c (.int .i64 i8)),(44,.agg [.int .i64 (i4.getD 0 0),.int .i64 (i4.getD 1 0),.int .i64 (i4.getD 2 0),.int .i64 (i4.getD 3 0),.int .i64 (i4.getD 4 0),.int .i64 (i4.getD 5 0),.int .i64 (i4.getD 6 0),.int .i64 (i4.getD 7 0),.int .i64 (i4.getD 8 0),.int .i64 (i4.getD 9 0),.int .i64 (i4.getD 10 0),.int .i64 (i4.getD 11 0),.int .i64 (i4.getD 12 0)]),(45,.c (.int .i64 i6))],[(10004000,.rc [.nil,.int .i64 (0:Int)]),(10004001,.rc [.own 10004002 false,.int .i64 (0:Int)]),(10004002,.sl 155 y6_ i_02 .shallow)])) he ?_ ?_
      ·rintro⟨i8,i_02⟩ he
       refine Zg he fun he=>?_
       refine Zg he fun he=>?_
       exact ZLe
      ·skip
       refine Zg he fun he=>?_
       refine Zg he fun he=>?_
       refine Zg he fun he=>?_
       exact⟨_,he,(Za [(10004000,10002000),(10004001,10002001),(10004002,71)])⟩
     ·exact ZdH
   ·exact⟨_,(Zbp he :),(Za [(10005000,10002000),(10005001,10002001),(10005002,10002002)])⟩
 ·skip
  refine Zp (ZhD a0) (fun (i,i1,i2)=>(Zm [(1,.c (.int .i64 i)),(4,.c (.ptr 10000000 0)),(6,.c (.eptr 10000001 (0:Int) 0)),(12,.c (.imm y6_ a0)),(13,.c (.int .i64 (a0.length:Int))),(14,.c (.int .i64 i1))],[(10000000,.rc [.nil,.int .i64 (0:Int)]),(10000001,.sl 199 y0_ i2 .shallow)])) he (Za [(10000000,4),(10000001,6)]) ?_
  rintro⟨i,i1,i2⟩ _ he
  refine Zh he (fun he=>?_) fun he=>?_
  ·refine Zg he fun he=>?_
   refine Zh he (fun he=>?_) fun he=>?_
   ·refine Zg he fun he=>?_
    refine And.intro (by kernel_rfl) ?_
    obtain⟨hq1,he⟩:=ZP he
    obtain⟨hq2,he⟩:=ZP he
    obtain⟨hq3,he⟩:=ZP he
    obtain⟨hq4,he⟩:=ZP he
    refine Y5 ?_ ?_
    ·skip
     refine And.intro hq1 ?_
     refine And.intro hq2 ?_
     refine Y5 ?_ ?_
     ·skip
      exact ZHd
     ·skip
      exact ZHd
    ·skip
     refine Y4 ?_
     refine And.intro hq1 ?_
     refine And.intro hq2 ?_
     exact ZHd
   ·refine And.intro (by kernel_rfl) ?_
    obtain⟨hq1,he⟩:=ZP he
    obtain⟨hq2,he⟩:=ZP he
    obtain⟨hq3,he⟩:=ZP he
    refine Y5 ?_ ?_
    ·skip
     refine And.intro hq1 ?_
     refine Y5 ?_ ?_
     ·skip
      exact ZHe
     ·skip
      exact ZHe
    ·skip
     refine Y4 ?_
     refine And.intro hq1 ?_
     exact ZHe
  ·exact⟨_,(Zbp he :),(Za [(10001000,10000000),(10001001,10000001)])⟩
end
end Go.AE.Y
