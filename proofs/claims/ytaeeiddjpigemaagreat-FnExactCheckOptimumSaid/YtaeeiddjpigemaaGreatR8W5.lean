/-
  Walks: each function keeps the contract that its model gives. No conditions.
-/
import Derived.Test.YtaeeiddjpigemaaGreatR8Tab
import Derived.Test.YtaeeiddjpigemaaGreatR8W4
import Derived.Test.YtaeeiddjpigemaaGreatR8S
namespace Go.AE.Y
open Go Go.AE Go.Proofs
set_option linter.unusedVariables false
set_option maxHeartbeats 2000000
set_option maxRecDepth 100000
noncomputable section
def ZkN:Con:=fun
  |[.c (.int .i64 n)],[]=>.opt _ (ZmV n) (fun r=>.ret (.c (.bool r)) [])
  |_,_=>.fail
def Zws:Cfg:={ y:=tys,n:=10,h:=0,tab:=[(127,ZbF)] }
theorem ZB3 {P:Prop} (h:P:=by
  refine Zh he fun r1_ he=>?_
  exact Z6):P:=h
theorem ZwU:Zl Tryz.prog 199 ZkN:=by
 refine Zn (C:=Zws) Tryz.f199 (Zj Zb5 Zo) fun _ a b k he=>?_
 unfold ZkN at he;split at he;rotate_left;exact he.elim
 rename_i n
 refine Zq he fun he=>?_
 refine ZC he (fun he=>?_) fun he=>?_
 ·exact ZB3
 ·exact Z6
def ZcI:Con:=fun
  |[.c (.imm (.int .i64) s_),.c (.fn 199 [])],[]=>.opt _ (ZcW s_) (fun r=>.ret (.c (.int .i64 r)) [])
  |_,_=>.fail
def ZiL:Cfg:={ y:=tys,n:=19,h:=0,tab:=[(199,ZkN)] }
theorem ZiZ:Zl Tryz.prog 186 ZcI:=by
 refine Zn (C:=ZiL) Tryz.f186 (Zj ZwU Zo) fun _ a b k he=>?_
 unfold ZcI at he;split at he;rotate_left;exact he.elim
 rename_i s_
 refine Zq he fun he=>?_
 refine Zr (Zbh s_) (fun i=>(Zm [(0,.c (.imm y0_ s_)),(1,.c (.fn 199 [])),(7,.c (.int .i64 (s_.length:Int))),(8,.c (.int .i64 i))],[])) he (Za []) ?_
 exact ZxF
def Zcd:Con:=fun
  |[.c (.imm (.int .i64) s_),.c (.fn 199 [])],[]=>.opt _ (ZbJ s_) (fun r=>.ret (.c (.bool r)) [])
  |_,_=>.fail
def ZhK:Cfg:={ y:=tys,n:=9,h:=0,tab:=[(186,ZcI)] }
theorem ZhM:Zl Tryz.prog 125 Zcd:=by
 refine Zn (C:=ZhK) Tryz.f125 (Zj ZiZ Zo) fun _ a b k he=>?_
 unfold Zcd at he;split at he;rotate_left;exact he.elim
 rename_i s_
 refine Zq he fun he=>?_
 refine Zh he fun r1_ he=>?_
 exact Z6
def ZiP:Con:=fun
  |[.c (.int .i64 n)],[]=>.opt _ (Zk5 n) (fun r=>.ret (.c (.bool r)) [])
  |_,_=>.fail
def ZuG:Cfg:={ y:=tys,n:=6,h:=0,tab:=[(127,ZbF)] }
theorem Zu7:Zl Tryz.prog 202 ZiP:=by
 refine Zn (C:=ZuG) Tryz.f202 (Zj Zb5 Zo) fun _ a b k he=>?_
 unfold ZiP at he;split at he;rotate_left;exact he.elim
 rename_i n
 refine Zq he fun he=>?_
 refine Zh he fun r1_ he=>?_
 exact Z6
def Zcm:Con:=fun
  |[.c (.imm (.int .i64) s_),.c (.fn 202 [])],[]=>.opt _ (ZcL s_) (fun r=>.ret (.c (.int .i64 r)) [])
  |_,_=>.fail
def Zh6:Cfg:={ y:=tys,n:=19,h:=0,tab:=[(202,ZiP)] }
theorem Zio:Zl Tryz.prog 186 Zcm:=by
 refine Zn (C:=Zh6) Tryz.f186 (Zj Zu7 Zo) fun _ a b k he=>?_
 unfold Zcm at he;split at he;rotate_left;exact he.elim
 rename_i s_
 refine Zq he fun he=>?_
 refine Zr (Zbb s_) (fun i=>(Zm [(0,.c (.imm y0_ s_)),(1,.c (.fn 202 [])),(7,.c (.int .i64 (s_.length:Int))),(8,.c (.int .i64 i))],[])) he (Za []) ?_
 exact ZxF
def Zb8:Con:=fun
  |[.c (.imm (.int .i64) s_),.c (.fn 202 [])],[]=>.opt _ (ZbA s_) (fun r=>.ret (.c (.bool r)) [])
  |_,_=>.fail
def Zg5:Cfg:={ y:=tys,n:=9,h:=0,tab:=[(186,Zcm)] }
theorem Zhi:Zl Tryz.prog 125 Zb8:=by
 refine Zn (C:=Zg5) Tryz.f125 (Zj Zio Zo) fun _ a b k he=>?_
 unfold Zb8 at he;split at he;rotate_left;exact he.elim
 rename_i s_
 refine Zq he fun he=>?_
 refine Zh he fun r1_ he=>?_
 exact Z6
def ZkO:Con:=fun
  |[.c (.imm (.int .i64) row),.c (.ptr 0 0)],[(0,.rc [.int .i64 o0_0,.imm (.int .i64) o0_1,.imm (.int .i64) o0_2,.int .i64 o0_3,.imm (.sl (.int .i64)) o0_4])]=>.opt _ (ZmW row (o0_0,(o0_1,(o0_2,(o0_3,o0_4))))) (fun r=>.ret (.c (.bool r)) [(0,.rc [.int .i64 o0_0,.imm y0_ o0_1,.imm y0_ o0_2,.int .i64 o0_3,.imm (.sl y0_) o0_4])])
  |_,_=>.fail
def Zwt:Cfg:={ y:=tys,n:=14,h:=1,tab:=[(125,Zb8)] }
theorem ZoZ {P:Prop} (h:P:=by
  exact Zy [(3,[])] (Zk he :) (Za [])):P:=h
theorem ZLf {P:Prop} (h:P:=by
  refine Zh he fun r1_ he=>?_
  exact ZoZ):P:=h
theorem ZwV:Zl Tryz.prog 201 ZkO:=by
 refine Zn (C:=Zwt) Tryz.f201 (Zj Zhi Zo) fun _ a b k he=>?_
 unfold ZkO at he;split at he;rotate_left;exact he.elim
 rename_i row o0_0 o0_1 o0_2 o0_3 o0_4
 refine Zq he fun he=>?_
 refine ZC he (fun he=>?_) fun he=>?_
 ·exact ZLf
 ·exact ZoZ
def Zcn:Con:=fun
  |[.c (.imm (.sl (.int .i64)) s_),.c (.fn 201 [0])],[(0,.rc [.int .i64 o0_0,.imm (.int .i64) o0_1,.imm (.int .i64) o0_2,.int .i64 o0_3,.imm (.sl (.int .i64)) o0_4])]=>.opt _ (ZcM s_ (o0_0,(o0_1,(o0_2,(o0_3,o0_4))))) (fun r=>.ret (.c (.int .i64 r)) [(0,.rc [.int .i64 o0_0,.imm y0_ o0_1,.imm y0_ o0_2,.int .i64 o0_3,.imm (.sl y0_) o0_4])])
  |_,_=>.fail
def Zh7:Cfg:={ y:=tys,n:=19,h:=1,tab:=[(201,ZkO)] }
theorem Zip:Zl Tryz.prog 250 Zcn:=by
 refine Zn (C:=Zh7) Tryz.f250 (Zj ZwV Zo) fun _ a b k he=>?_
 unfold Zcn at he;split at he;rotate_left;exact he.elim
 rename_i s_ o0_0 o0_1 o0_2 o0_3 o0_4
 refine Zq he fun he=>?_
 refine Zr (Zbc s_ (o0_0,(o0_1,(o0_2,(o0_3,o0_4))))) (fun i=>(Zm [(0,.c (.imm (.sl y0_) s_)),(1,.c (.fn 201 [0])),(7,.c (.int .i64 (s_.length:Int))),(8,.c (.int .i64 i))],[(0,.rc [.int .i64 (o0_0,(o0_1,(o0_2,(o0_3,o0_4)))).1,.imm y0_ (o0_0,(o0_1,(o0_2,(o0_3,o0_4)))).2.1,.imm y0_ (o0_0,(o0_1,(o0_2,(o0_3,o0_4)))).2.2.1,.int .i64 (o0_0,(o0_1,(o0_2,(o0_3,o0_4)))).2.2.2.1,.imm (.sl y0_) (o0_0,(o0_1,(o0_2,(o0_3,o0_4)))).2.2.2.2])])) he (Za []) ?_
 exact ZxE
def Zb9:Con:=fun
  |[.c (.imm (.sl (.int .i64)) s_),.c (.fn 201 [0])],[(0,.rc [.int .i64 o0_0,.imm (.int .i64) o0_1,.imm (.int .i64) o0_2,.int .i64 o0_3,.imm (.sl (.int .i64)) o0_4])]=>.opt _ (ZbB s_ (o0_0,(o0_1,(o0_2,(o0_3,o0_4))))) (fun r=>.ret (.c (.bool r)) [(0,.rc [.int .i64 o0_0,.imm y0_ o0_1,.imm y0_ o0_2,.int .i64 o0_3,.imm (.sl y0_) o0_4])])
  |_,_=>.fail
def Zg6:Cfg:={ y:=tys,n:=9,h:=1,tab:=[(250,Zcn)] }
theorem Zhj:Zl Tryz.prog 200 Zb9:=by
 refine Zn (C:=Zg6) Tryz.f200 (Zj Zip Zo) fun _ a b k he=>?_
 unfold Zb9 at he;split at he;rotate_left;exact he.elim
 rename_i s_ o0_0 o0_1 o0_2 o0_3 o0_4
 refine Zq he fun he=>?_
 refine Zh he fun r1_ he=>?_
 exact ZK
def ZmS:Con:=fun
  |[.agg [.int .i64 a0_0,.imm (.int .i64) a0_1,.imm (.int .i64) a0_2,.int .i64 a0_3,.imm (.sl (.int .i64)) a0_4],.c (.int .i64 a1)],[]=>.opt _ (Zly (a0_0,(a0_1,(a0_2,(a0_3,a0_4)))) a1) (fun r=>.ret (.c (.bool r)) [])
  |_,_=>.fail
def ZyF:Cfg:={ y:=tys,n:=104,h:=0,tab:=[(125,Zcd),(127,ZbF),(178,ZdA),(200,Zb9)],cut:=[9] }
theorem ZHm {P:Prop} (h:P:=by
  refine Zi he fun he=>?_
  refine Zh he fun r2_ he=>?_
  exact ZFF):P:=h
theorem ZHn {P:Prop} (h:P:=by
  refine Zf he (fun he=>?_) fun he=>?_
  ·refine Zf he (fun he=>?_) fun he=>?_
   ·exact ZK
   ·exact⟨_,he,(Za [(10001000,10000000)])⟩
  ·exact⟨_,he,(Za [(10001000,10000000)])⟩):P:=h
theorem ZyS:Zl Tryz.prog 140 ZmS:=by
 refine Zn (C:=ZyF) Tryz.f140 (Zj ZhM (Zj Zb5 (Zj Zim (Zj Zhj Zo)))) fun _ a b k he=>?_
 unfold ZmS at he;split at he;rotate_left;exact he.elim
 rename_i a0_0 a0_1 a0_2 a0_3 a0_4 a1
 refine Zq he fun he=>?_
 refine Zr (ZhU (a0_0,(a0_1,(a0_2,(a0_3,a0_4)))) a1) (fun i=>(Zm [(1,.c (.int .i64 a1)),(2,.c (.ptr 10000000 0)),(8,.c (.imm y0_ (a0_0,(a0_1,(a0_2,(a0_3,a0_4)))).2.1)),(9,.c (.int .i64 ((a0_0,(a0_1,(a0_2,(a0_3,a0_4)))).2.1.length:Int))),(10,.c (.int .i64 i))],[(10000000,.rc [.int .i64 (a0_0,(a0_1,(a0_2,(a0_3,a0_4)))).1,.imm y0_ (a0_0,(a0_1,(a0_2,(a0_3,a0_4)))).2.1,.imm y0_ (a0_0,(a0_1,(a0_2,(a0_3,a0_4)))).2.2.1,.int .i64 (a0_0,(a0_1,(a0_2,(a0_3,a0_4)))).2.2.2.1,.imm (.sl y0_) (a0_0,(a0_1,(a0_2,(a0_3,a0_4)))).2.2.2.2])])) he (Za [(10000000,2)]) ?_
 rintro i _ he
 refine Zf he (fun he=>?_) fun he=>?_
 ·refine Zi he fun he=>?_
  refine Zi he fun he=>?_
  refine Zh he fun r1_ he=>?_
  refine ZC he (fun he=>?_) fun he=>?_
  ·exact ZHm
  ·exact ZK
 ·refine ZT (Zdl (a0_0,(a0_1,(a0_2,(a0_3,a0_4))))) (fun _=>(Zm [(2,.c (.ptr 10001000 0))],[(10001000,.rc [.int .i64 (a0_0,(a0_1,(a0_2,(a0_3,a0_4)))).1,.imm y0_ (a0_0,(a0_1,(a0_2,(a0_3,a0_4)))).2.1,.imm y0_ (a0_0,(a0_1,(a0_2,(a0_3,a0_4)))).2.2.1,.int .i64 (a0_0,(a0_1,(a0_2,(a0_3,a0_4)))).2.2.2.1,.imm (.sl y0_) (a0_0,(a0_1,(a0_2,(a0_3,a0_4)))).2.2.2.2])])) he ?_ ?_
  ·rintro⟨⟩ he
   refine Zf he (fun he=>?_) fun he=>?_
   ·refine Zf he (fun he=>?_) fun he=>?_
    ·refine Zh he fun r3_ he=>?_
     refine Zf he (fun he=>?_) fun he=>?_
     ·refine Zh he fun r4_ he=>?_
      exact ZK
     ·exact ZK
    ·exact ZK
   ·refine Zf he (fun he=>?_) fun he=>?_
    ·refine Zf he (fun he=>?_) fun he=>?_
     ·refine Zh he fun r5_ he=>?_
      exact ZK
     ·exact ZK
    ·exact Zpn
  ·skip
   refine ZC he (fun he=>?_) fun he=>?_
   ·refine Zf he (fun he=>?_) fun he=>?_
    ·refine ZC he (fun he=>?_) fun he=>?_
     ·refine ZC he (fun he=>?_) fun he=>?_
      ·exact ZHn
      ·exact ZK
     ·exact ZK
    ·exact ZHn
   ·exact ZK
def ZjT:Con:=fun
  |[.agg [.int .i64 r__0,.imm (.int .i64) r__1,.imm (.int .i64) r__2,.int .i64 r__3,.imm (.sl (.int .i64)) r__4],.c (.ptr 0 0)],[(0,.rc [.imm (.int .i64) o0_0,.imm (.pair (.int .i64) (.pair (.sl (.int .i64)) (.pair (.sl (.int .i64)) (.pair (.int .i64) (.sl (.sl (.int .i64))))))) o0_1])]=>.opt _ (ZlX (r__0,(r__1,(r__2,(r__3,r__4)))) (o0_0,o0_1)) (fun r=>.ret (.c (.bool r)) [(0,.rc [.imm y0_ o0_0,.imm y4_ o0_1])])
  |_,_=>.fail
def ZvT:Cfg:={ y:=tys,n:=10,h:=1,tab:=[(140,ZmS)] }
theorem Zwa:Zl Tryz.prog 139 ZjT:=by
 refine Zn (C:=ZvT) Tryz.f139 (Zj ZyS Zo) fun _ a b k he=>?_
 unfold ZjT at he;split at he;rotate_left;exact he.elim
 rename_i r__0 r__1 r__2 r__3 r__4 o0_0 o0_1
 refine Zq he fun he=>?_
 refine Zh he fun r1_ he=>?_
 exact ZoZ
def Zb0:Con:=fun
  |[.c (.imm (.pair (.int .i64) (.pair (.sl (.int .i64)) (.pair (.sl (.int .i64)) (.pair (.int .i64) (.sl (.sl (.int .i64))))))) s_),.c (.fn 139 [0])],[(0,.rc [.imm (.int .i64) o0_0,.imm (.pair (.int .i64) (.pair (.sl (.int .i64)) (.pair (.sl (.int .i64)) (.pair (.int .i64) (.sl (.sl (.int .i64))))))) o0_1])]=>.opt _ (Zca s_ (o0_0,o0_1)) (fun r=>.ret (.c (.int .i64 r)) [(0,.rc [.imm y0_ o0_0,.imm y4_ o0_1])])
  |_,_=>.fail
def ZgL:Cfg:={ y:=tys,n:=19,h:=1,tab:=[(139,ZjT)] }
theorem ZgM:Zl Tryz.prog 198 Zb0:=by
 refine Zn (C:=ZgL) Tryz.f198 (Zj Zwa Zo) fun _ a b k he=>?_
 unfold Zb0 at he;split at he;rotate_left;exact he.elim
 rename_i s_ o0_0 o0_1
 refine Zq he fun he=>?_
 refine Zr (Z0 s_ (o0_0,o0_1)) (fun i=>(Zm [(0,.c (.imm y4_ s_)),(1,.c (.fn 139 [0])),(7,.c (.int .i64 (s_.length:Int))),(8,.c (.int .i64 i))],[(0,.rc [.imm y0_ (o0_0,o0_1).1,.imm y4_ (o0_0,o0_1).2])])) he (Za []) ?_
 exact ZxE
def ZbN:Con:=fun
  |[.c (.imm (.pair (.int .i64) (.pair (.sl (.int .i64)) (.pair (.sl (.int .i64)) (.pair (.int .i64) (.sl (.sl (.int .i64))))))) s_),.c (.fn 139 [0])],[(0,.rc [.imm (.int .i64) o0_0,.imm (.pair (.int .i64) (.pair (.sl (.int .i64)) (.pair (.sl (.int .i64)) (.pair (.int .i64) (.sl (.sl (.int .i64))))))) o0_1])]=>.opt _ (Zbo s_ (o0_0,o0_1)) (fun r=>.ret (.c (.bool r)) [(0,.rc [.imm y0_ o0_0,.imm y4_ o0_1])])
  |_,_=>.fail
def Zfs:Cfg:={ y:=tys,n:=9,h:=1,tab:=[(198,Zb0)] }
theorem ZfJ:Zl Tryz.prog 138 ZbN:=by
 refine Zn (C:=Zfs) Tryz.f138 (Zj ZgM Zo) fun _ a b k he=>?_
 unfold ZbN at he;split at he;rotate_left;exact he.elim
 rename_i s_ o0_0 o0_1
 refine Zq he fun he=>?_
 refine Zh he fun r1_ he=>?_
 exact ZK
def Zfl:Con:=fun
  |[.agg [.imm (.int .i64) m_0,.imm (.pair (.int .i64) (.pair (.sl (.int .i64)) (.pair (.sl (.int .i64)) (.pair (.int .i64) (.sl (.sl (.int .i64))))))) m_1]],[]=>.opt _ (Ze1 (m_0,m_1)) (fun r=>.ret (.c (.bool r)) [])
  |_,_=>.fail
def Zya:Cfg:={ y:=tys,n:=41,h:=0,tab:=[(127,ZbF),(138,ZbN)] }
theorem Zl0:Zl Tryz.prog 71 Zfl:=by
 refine Zn (C:=Zya) Tryz.f71 (Zj Zb5 (Zj ZfJ Zo)) fun _ a b k he=>?_
 unfold Zfl at he;split at he;rotate_left;exact he.elim
 rename_i m_0 m_1
 refine Zq he fun he=>?_
 refine Zh he fun r1_ he=>?_
 refine ZC he (fun he=>?_) fun he=>?_
 ·refine Zf he (fun he=>?_) fun he=>?_
  ·exact ZA
  ·refine Zr (Zk2 (m_0,m_1)) (fun (count,i)=>(Zm [(1,.c (.ptr 10000000 0)),(3,.c (.int .i64 count)),(18,.c (.imm y0_ (m_0,m_1).1)),(19,.c (.int .i64 ((m_0,m_1).1.length:Int))),(20,.c (.int .i64 i))],[(10000000,.rc [.imm y0_ (m_0,m_1).1,.imm y4_ (m_0,m_1).2])])) he (Za [(10000000,1)]) ?_
   rintro⟨count,i⟩ _ he
   refine Zf he (fun he=>?_) fun he=>?_
   ·refine Zi he fun he=>?_
    refine Zh he fun r2_ he=>?_
    refine Zf he (fun he=>?_) fun he=>?_
    ·exact ZA
    ·exact Zp0
   ·refine Zf he (fun he=>?_) fun he=>?_
    ·refine Zh he fun r3_ he=>?_
     exact ZA
    ·exact ZA
 ·exact ZA
def Zdd:Con:=fun
  |[.agg [.imm (.int .i64) m_0,.imm (.pair (.int .i64) (.pair (.sl (.int .i64)) (.pair (.sl (.int .i64)) (.pair (.int .i64) (.sl (.sl (.int .i64))))))) m_1],.c (.int .i64 cell),.c (.int .i64 value)],[]=>.opt _ (ZcD (m_0,m_1) cell value) (fun r=>.ret (.c (.int .i64 r)) [])
  |_,_=>.fail
def ZuE:Cfg:={ y:=tys,n:=27,h:=0,tab:=[] }
theorem ZfI:Zl Tryz.prog 128 Zdd:=by
 refine Zn (C:=ZuE) Tryz.f128 Zo fun _ a b k he=>?_
 unfold Zdd at he;split at he;rotate_left;exact he.elim
 rename_i m_0 m_1 cell value
 refine Zq he fun he=>?_
 refine Zi he fun he=>?_
 refine Zi he fun he=>?_
 refine Zr (Zii (m_0,m_1) cell) (fun (v,i)=>(Zm [(7,.c (.int .i64 v)),(15,.c (.imm y0_ ((m_0,m_1).1.take cell.toNat))),(16,.c (.int .i64 (((m_0,m_1).1.take cell.toNat).length:Int))),(17,.c (.int .i64 i))],[])) he (Za []) ?_
 rintro⟨v,i⟩ _ he
 refine Zf he (fun he=>?_) fun he=>?_
 ·exact ZuA
 ·exact Z6
def ZjV:Con:=fun
  |[.agg [.imm (.int .i64) m_0,.imm (.pair (.int .i64) (.pair (.sl (.int .i64)) (.pair (.sl (.int .i64)) (.pair (.int .i64) (.sl (.sl (.int .i64))))))) m_1],.c (.int .i64 cell)],[]=>.opt _ (ZhS (m_0,m_1) cell) (fun r=>.ret (.c (.own 900 false)) [(900,.sl 3 y0_ r .shallow)])
  |_,_=>.fail
def ZvV:Cfg:={ y:=tys,n:=25,h:=0,tab:=[(128,Zdd)] }
theorem Zwc:Zl Tryz.prog 118 ZjV:=by
 refine Zn (C:=ZvV) Tryz.f118 (Zj ZfI Zo) fun _ a b k he=>?_
 unfold ZjV at he;split at he;rotate_left;exact he.elim
 rename_i m_0 m_1 cell
 refine Zq he fun he=>?_
 refine Zi he fun he=>?_
 refine Zi he fun he=>?_
 refine Zr (ZdT (m_0,m_1) cell) (fun (i,out)=>(Zm [(1,.c (.int .i64 cell)),(2,.c (.ptr 10000000 0)),(5,.c (.own 10000001 false)),(12,.c (.int .i64 (((m_0,m_1).1.getD cell.toNat 0)+(1:Int)))),(13,.c (.int .i64 i))],[(10000000,.rc [.imm y0_ (m_0,m_1).1,.imm y4_ (m_0,m_1).2]),(10000001,.sl 3 y0_ out .shallow)])) he (Za [(10000000,2)]) ?_
 rintro⟨i,out⟩ _ he
 refine Zf he (fun he=>?_) fun he=>?_
 ·refine Zh he fun r2_ he=>?_
  refine Zi he fun he=>?_
  refine Zi he fun he=>?_
  exact⟨_,(Zk he :),(Za [(10000001,22)])⟩
 ·exact Zy [(4,[])] (Zk he :) (Za [(900,10000001)])
def Zf1:Con:=fun
  |[.c (.int .i64 l)],[]=>.opt _ (ZfX l) (fun r=>.ret (.c (.bool r)) [])
  |_,_=>.fail
def ZyD:Cfg:={ y:=tys,n:=9,h:=0,tab:=[(127,ZbF)] }
theorem ZmY:Zl Tryz.prog 177 Zf1:=by
 refine Zn (C:=ZyD) Tryz.f177 (Zj Zb5 Zo) fun _ a b k he=>?_
 unfold Zf1 at he;split at he;rotate_left;exact he.elim
 rename_i l
 refine Zq he fun he=>?_
 refine Zf he (fun he=>?_) fun he=>?_
 ·exact ZB3
 ·exact Z6
def ZeI:Con:=fun
  |[.c (.imm (.int .i64) s_)],[]=>.opt _ (Zcb s_) (fun r=>.ret (.c (.own 900 false)) [(900,.sl 3 y0_ r .shallow)])
  |_,_=>.fail
def Zwu:Cfg:={ y:=tys,n:=8,h:=0,tab:=[] }
theorem Zk6:Zl Tryz.prog 75 ZeI:=by
 refine Zn (C:=Zwu) Tryz.f75 Zo fun _ a b k he=>?_
 unfold ZeI at he;split at he;rotate_left;exact he.elim
 rename_i s_
 refine Zq he fun he=>?_
 refine fun b1_ hb1_=>?_
 have he:=ZH4 he hb1_
 refine And.intro (fun hb=>?_) (fun hb=>?_)
 ·have he:=ZE5 he hb
  exact ZA
 ·have he:=ZE4 he hb
  refine Zi he fun he=>?_
  exact Zy [(2,[])] (Zk he :) (Za [(900,7)])
def Zfm:Con:=fun
  |[.c (.int .i64 l)],[]=>.opt _ (Zdm l) (fun r=>.ret (.c (.int .i64 r)) [])
  |_,_=>.fail
def Zyd:Cfg:={ y:=tys,n:=7,h:=0,tab:=[] }
theorem Zl1:Zl Tryz.prog 170 Zfm:=by
 refine Zn (C:=Zyd) Tryz.f170 Zo fun _ a b k he=>?_
 unfold Zfm at he;split at he;rotate_left;exact he.elim
 rename_i l
 refine Zq he fun he=>?_
 refine Zi he fun he=>?_
 exact Z6
def ZqE:Con:=fun
  |[.c (.int .i64 a),.c (.int .i64 b)],[]=>.opt _ (Zhd a b) (fun r=>.ret (.c (.int .i64 r)) [])
  |_,_=>.fail
def Zx9:Cfg:={ y:=tys,n:=10,h:=0,tab:=[(170,Zfm)] }
theorem Zyj:Zl Tryz.prog 180 ZqE:=by
 refine Zn (C:=Zx9) Tryz.f180 (Zj Zl1 Zo) fun _ a b k he=>?_
 unfold ZqE at he;split at he;rotate_left;exact he.elim
 rename_i a b
 refine Zq he fun he=>?_
 refine Zh he fun r1_ he=>?_
 refine Zh he fun r2_ he=>?_
 exact ZFH
end
end Go.AE.Y
