/-
  Walks: each function keeps the contract that its model gives. No conditions.
-/
import Derived.Test.YtaeeiddjpigemaaGreatR8Tab
import Derived.Test.YtaeeiddjpigemaaGreatR8M
import Derived.Test.YtaeeiddjpigemaaGreatR8S
namespace Go.AE.Y
open Go Go.AE Go.Proofs
set_option linter.unusedVariables false
set_option maxHeartbeats 2000000
set_option maxRecDepth 100000
noncomputable section
def ZjG:Con:=fun
  |[.c (.imm (.int .i64) a),.c (.int .i64 left)],[]=>.opt _ (ZhC a left) (fun r=>.ret (.c (.int .i64 r)) [])
  |_,_=>.fail
def ZCW:Cfg:={ y:=tys,n:=12,h:=0,tab:=[] }
theorem Z6 {P:Prop} (h:P:=by
  exact ZLE he):P:=h
theorem ZAq {P:Prop} (h:P:=by
  refine Zf he (fun he=>?_) fun he=>?_
  ·exact Z6
  ·exact Z6):P:=h
theorem Zqt:Zl Tryz.prog 78 ZjG:=by
 refine Zn (C:=ZCW) Tryz.f78 Zo fun _ a b k he=>?_
 unfold ZjG at he;split at he;rotate_left;exact he.elim
 rename_i a left
 refine Zq he fun he=>?_
 refine Zi he fun he=>?_
 exact ZAq
def ZoB:Con:=fun
  |[.c (.imm (.sl (.int .i64)) a),.c (.int .i64 left)],[]=>.opt _ (ZnW a left) (fun r=>.ret (.c (.int .i64 r)) [])
  |_,_=>.fail
def ZAN:Cfg:={ y:=tys,n:=27,h:=0,tab:=[(78,ZjG)] }
theorem Zdh {P:Prop} (h:P:=by
  refine Zi he fun he=>?_
  exact⟨_,(Zk he :),(Za [])⟩):P:=h
theorem ZAt {P:Prop} (h:P:=by
  refine Zf he (fun he=>?_) fun he=>?_
  ·exact Z6
  ·exact Zdh):P:=h
theorem ZDV {P:Prop} (h:P:=by
  refine Zf he (fun he=>?_) fun he=>?_
  ·refine Zi he fun he=>?_
   refine Zh he fun r1_ he=>?_
   exact ZAt
  ·exact Z6):P:=h
theorem ZBs:Zl Tryz.prog 203 ZoB:=by
 refine Zn (C:=ZAN) Tryz.f203 (Zj Zqt Zo) fun _ a b k he=>?_
 unfold ZoB at he;split at he;rotate_left;exact he.elim
 rename_i a left
 refine Zq he fun he=>?_
 refine Zi he fun he=>?_
 refine Zf he (fun he=>?_) fun he=>?_
 ·exact Z6
 ·refine Zr (ZnX a) (fun (left1,i)=>(Zm [(0,.c (.imm (.sl y0_) a)),(1,.c (.int .i64 left1)),(5,.c (.int .i64 i))],[])) he (Za []) ?_
  rintro⟨left1,i⟩ _ he
  exact ZDV
def Zp9:Con:=fun
  |[.agg [.int .i64 a_0,.imm (.int .i64) a_1,.imm (.int .i64) a_2,.int .i64 a_3,.imm (.sl (.int .i64)) a_4],.c (.int .i64 left)],[]=>.opt _ (Zo6 (a_0,(a_1,(a_2,(a_3,a_4)))) left) (fun r=>.ret (.c (.int .i64 r)) [])
  |_,_=>.fail
def ZCX:Cfg:={ y:=tys,n:=24,h:=0,tab:=[(78,ZjG),(203,ZoB)] }
theorem ZK {P:Prop} (h:P:=by
  exact Zy [(4,[])] (Zk he :) (Za [])):P:=h
theorem Zpn {P:Prop} (h:P:=by
  refine Zf he (fun he=>?_) fun he=>?_
  ·exact ZK
  ·exact ZK):P:=h
theorem ZKM {P:Prop} (h:P:=by
  refine Zf he (fun he=>?_) fun he=>?_
  ·exact ZK
  ·refine Zh he fun r3_ he=>?_
   exact Zpn):P:=h
theorem ZDl:Zl Tryz.prog 143 Zp9:=by
 refine Zn (C:=ZCX) Tryz.f143 (Zj Zqt (Zj ZBs Zo)) fun _ a b k he=>?_
 unfold Zp9 at he;split at he;rotate_left;exact he.elim
 rename_i a_0 a_1 a_2 a_3 a_4 left
 refine Zq he fun he=>?_
 refine Zh he fun r1_ he=>?_
 refine Zf he (fun he=>?_) fun he=>?_
 ·exact ZK
 ·refine Zh he fun r2_ he=>?_
  exact ZKM
def ZoD:Con:=fun
  |[.c (.imm (.pair (.int .i64) (.pair (.sl (.int .i64)) (.pair (.sl (.int .i64)) (.pair (.int .i64) (.sl (.sl (.int .i64))))))) a),.c (.int .i64 left)],[]=>.opt _ (ZnZ a left) (fun r=>.ret (.c (.int .i64 r)) [])
  |_,_=>.fail
def ZAP:Cfg:={ y:=tys,n:=27,h:=0,tab:=[(143,Zp9)] }
theorem ZBu:Zl Tryz.prog 79 ZoD:=by
 refine Zn (C:=ZAP) Tryz.f79 (Zj ZDl Zo) fun _ a b k he=>?_
 unfold ZoD at he;split at he;rotate_left;exact he.elim
 rename_i a left
 refine Zq he fun he=>?_
 refine Zi he fun he=>?_
 refine Zf he (fun he=>?_) fun he=>?_
 ·exact Z6
 ·refine Zr (Zn0 a) (fun (left1,i)=>(Zm [(0,.c (.imm y4_ a)),(1,.c (.int .i64 left1)),(5,.c (.int .i64 i))],[])) he (Za []) ?_
  rintro⟨left1,i⟩ _ he
  exact ZDV
def ZoC:Con:=fun
  |[.agg [.imm (.int .i64) a_0,.imm (.pair (.int .i64) (.pair (.sl (.int .i64)) (.pair (.sl (.int .i64)) (.pair (.int .i64) (.sl (.sl (.int .i64))))))) a_1],.c (.int .i64 left)],[]=>.opt _ (ZnY (a_0,a_1) left) (fun r=>.ret (.c (.int .i64 r)) [])
  |_,_=>.fail
def ZAO:Cfg:={ y:=tys,n:=18,h:=0,tab:=[(78,ZjG),(79,ZoD)] }
theorem ZBt:Zl Tryz.prog 19 ZoC:=by
 refine Zn (C:=ZAO) Tryz.f19 (Zj Zqt (Zj ZBu Zo)) fun _ a b k he=>?_
 unfold ZoC at he;split at he;rotate_left;exact he.elim
 rename_i a_0 a_1 left
 refine Zq he fun he=>?_
 refine Zh he fun r1_ he=>?_
 refine Zf he (fun he=>?_) fun he=>?_
 ·exact ZK
 ·refine Zh he fun r2_ he=>?_
  exact Zpn
def ZoF:Con:=fun
  |[.c (.imm (.pair (.int .i64) (.int .i64)) a),.c (.int .i64 left)],[]=>.opt _ (Zn2 a left) (fun r=>.ret (.c (.int .i64 r)) [])
  |_,_=>.fail
def ZAR:Cfg:={ y:=tys,n:=12,h:=0,tab:=[] }
theorem ZBw:Zl Tryz.prog 149 ZoF:=by
 refine Zn (C:=ZAR) Tryz.f149 Zo fun _ a b k he=>?_
 unfold ZoF at he;split at he;rotate_left;exact he.elim
 rename_i a left
 refine Zq he fun he=>?_
 refine Zi he fun he=>?_
 exact ZAq
def Zj0:Con:=fun
  |[.agg [.imm (.pair (.int .i64) (.int .i64)) a_0,.int .i64 a_1],.c (.int .i64 left)],[]=>.opt _ (Zl4 (a_0,a_1) left) (fun r=>.ret (.c (.int .i64 r)) [])
  |_,_=>.fail
def Zv0:Cfg:={ y:=tys,n:=12,h:=0,tab:=[(149,ZoF)] }
theorem Zwh:Zl Tryz.prog 89 Zj0:=by
 refine Zn (C:=Zv0) Tryz.f89 (Zj ZBw Zo) fun _ a b k he=>?_
 unfold Zj0 at he;split at he;rotate_left;exact he.elim
 rename_i a_0 a_1 left
 refine Zq he fun he=>?_
 refine Zh he fun r1_ he=>?_
 exact Zpn
def Zqa:Con:=fun
  |[.agg [.int .i64 a_0,.int .i64 a_1,.int .i64 a_2,.imm (.pair (.int .i64) (.int .i64)) a_3,.int .i64 a_4],.c (.int .i64 left)],[]=>.opt _ (Zo7 (a_0,(a_1,(a_2,(a_3,a_4)))) left) (fun r=>.ret (.c (.int .i64 r)) [])
  |_,_=>.fail
def ZCY:Cfg:={ y:=tys,n:=12,h:=0,tab:=[(89,Zj0)] }
theorem ZDm:Zl Tryz.prog 80 Zqa:=by
 refine Zn (C:=ZCY) Tryz.f80 (Zj Zwh Zo) fun _ a b k he=>?_
 unfold Zqa at he;split at he;rotate_left;exact he.elim
 rename_i a_0 a_1 a_2 a_3 a_4 left
 refine Zq he fun he=>?_
 refine Zh he fun r1_ he=>?_
 exact Zpn
def ZoE:Con:=fun
  |[.c (.imm (.pair (.int .i64) (.pair (.int .i64) (.pair (.int .i64) (.pair (.sl (.pair (.int .i64) (.int .i64))) (.int .i64))))) a),.c (.int .i64 left)],[]=>.opt _ (Zn1 a left) (fun r=>.ret (.c (.int .i64 r)) [])
  |_,_=>.fail
def ZAQ:Cfg:={ y:=tys,n:=27,h:=0,tab:=[(80,Zqa)] }
theorem ZBv:Zl Tryz.prog 20 ZoE:=by
 refine Zn (C:=ZAQ) Tryz.f20 (Zj ZDm Zo) fun _ a b k he=>?_
 unfold ZoE at he;split at he;rotate_left;exact he.elim
 rename_i a left
 refine Zq he fun he=>?_
 refine Zi he fun he=>?_
 refine Zf he (fun he=>?_) fun he=>?_
 ·exact Z6
 ·refine Zr (Zkq a) (fun (left1,i)=>(Zm [(0,.c (.imm y9_ a)),(1,.c (.int .i64 left1)),(5,.c (.int .i64 i))],[])) he (Za []) ?_
  rintro⟨left1,i⟩ _ he
  exact ZDV
def Zg2:Con:=fun
  |[.c (.imm (.int .i64) a)],[]=>.opt _ (ZcU a) (fun r=>.ret (.c (.own 900 false)) [(900,.sl 3 y0_ r .shallow)])
  |_,_=>.fail
def ZCZ:Cfg:={ y:=tys,n:=22,h:=0,tab:=[] }
theorem Zx7 {P:Prop} (h:P:=by
  refine Zi he fun he=>?_
  exact Zdh):P:=h
theorem Zp0 {P:Prop} (h:P:=by
  refine Zi he fun he=>?_
  exact Zx7):P:=h
theorem ZmC:Zl Tryz.prog 23 Zg2:=by
 refine Zn (C:=ZCZ) Tryz.f23 Zo fun _ a b k he=>?_
 unfold Zg2 at he;split at he;rotate_left;exact he.elim
 rename_i a
 refine Zq he fun he=>?_
 refine Zi he fun he=>?_
 refine Zr (ZlA a) (fun (i,out)=>(Zm [(0,.c (.imm y0_ a)),(3,.c (.own 10000000 false)),(4,.c (.int .i64 i))],[(10000000,.sl 3 y0_ out .shallow)])) he (Za [(10000000,7)]) ?_
 rintro⟨i,out⟩ _ he
 refine Zf he (fun he=>?_) fun he=>?_
 ·exact Zp0
 ·exact Zy [(2,[])] (Zk he :) (Za [(900,10000000)])
def ZoG:Con:=fun
  |[.c (.imm (.sl (.int .i64)) a)],[]=>.opt _ (Zn3 a) (fun r=>.ret (.c (.own 900 false)) [(900,.sl 23 (.sl y0_) r (.deep true .no))])
  |_,_=>.fail
def ZAS:Cfg:={ y:=tys,n:=23,h:=0,tab:=[(23,Zg2)],deep:=[7] }
theorem ZAp {P:Prop} (h:P:=by
  rintro⟨i,out⟩ _ he
  refine Zf he (fun he=>?_) fun he=>?_
  ·refine Zi he fun he=>?_
   refine Zh he fun r2_ he=>?_
   exact Zx7
  ·exact Zy [(2,[])] (Zk he :) (Za [(900,10000000)])):P:=h
theorem ZBx:Zl Tryz.prog 206 ZoG:=by
 refine Zn (C:=ZAS) Tryz.f206 (Zj ZmC Zo) fun _ a b k he=>?_
 unfold ZoG at he;split at he;rotate_left;exact he.elim
 rename_i a
 refine Zq he fun he=>?_
 refine Zi he fun he=>?_
 refine Zr (Zkr a) (fun (i,out)=>(Zm [(0,.c (.imm (.sl y0_) a)),(3,.c (.own 10000000 false)),(4,.c (.int .i64 i))],[(10000000,.sl 23 (.sl y0_) out (.deep true .no))])) he (Za [(10000000,7)]) ?_
 exact ZAp
def Zqb:Con:=fun
  |[.agg [.int .i64 a_0,.imm (.int .i64) a_1,.imm (.int .i64) a_2,.int .i64 a_3,.imm (.sl (.int .i64)) a_4]],[]=>.opt _ (Zo8 (a_0,(a_1,(a_2,(a_3,a_4))))) (fun r=>.ret (.agg [.int .i64 r.1,.own 901 false,.own 902 false,.int .i64 r.2.1,.own 903 false]) [(900,.rc [.int .i64 r.1,.own 901 false,.own 902 false,.int .i64 r.2.1,.own 903 false]),(901,.sl 3 y0_ r.2.2.1 .shallow),(902,.sl 3 y0_ r.2.2.2.1 .shallow),(903,.sl 23 (.sl y0_) r.2.2.2.2 (.deep true .no))])
  |_,_=>.fail
def ZC0:Cfg:={ y:=tys,n:=23,h:=0,tab:=[(23,Zg2),(206,ZoG)] }
theorem ZDn:Zl Tryz.prog 147 Zqb:=by
 refine Zn (C:=ZC0) Tryz.f147 (Zj ZmC (Zj ZBx Zo)) fun _ a b k he=>?_
 unfold Zqb at he;split at he;rotate_left;exact he.elim
 rename_i a_0 a_1 a_2 a_3 a_4
 refine Zq he fun he=>?_
 refine Zh he fun r1_ he=>?_
 refine Zh he fun r2_ he=>?_
 refine Zh he fun r3_ he=>?_
 exact Zy [(2,[900])] (Zk he :) (Za [(900,2),(901,10900),(902,14900),(903,21900)])
def ZoI:Con:=fun
  |[.c (.imm (.pair (.int .i64) (.pair (.sl (.int .i64)) (.pair (.sl (.int .i64)) (.pair (.int .i64) (.sl (.sl (.int .i64))))))) a)],[]=>.opt _ (Zn4 a) (fun r=>.ret (.c (.own 900 false)) [(900,.sl 145 y4_ r (.deep true .no))])
  |_,_=>.fail
def ZAU:Cfg:={ y:=tys,n:=23,h:=0,tab:=[(147,Zqb)],deep:=[7] }
theorem ZBz:Zl Tryz.prog 83 ZoI:=by
 refine Zn (C:=ZAU) Tryz.f83 (Zj ZDn Zo) fun _ a b k he=>?_
 unfold ZoI at he;split at he;rotate_left;exact he.elim
 rename_i a
 refine Zq he fun he=>?_
 refine Zi he fun he=>?_
 refine Zr (Zks a) (fun (i,out)=>(Zm [(0,.c (.imm y4_ a)),(3,.c (.own 10000000 false)),(4,.c (.int .i64 i))],[(10000000,.sl 145 y4_ out (.deep true .no))])) he (Za [(10000000,7)]) ?_
 exact ZAp
def ZoH:Con:=fun
  |[.agg [.imm (.int .i64) a_0,.imm (.pair (.int .i64) (.pair (.sl (.int .i64)) (.pair (.sl (.int .i64)) (.pair (.int .i64) (.sl (.sl (.int .i64))))))) a_1]],[]=>.opt _ (Ziq (a_0,a_1)) (fun r=>.ret (.agg [.own 901 false,.own 902 false]) [(900,.rc [.own 901 false,.own 902 false]),(901,.sl 3 y0_ r.1 .shallow),(902,.sl 145 y4_ r.2 (.deep true .no))])
  |_,_=>.fail
def ZAT:Cfg:={ y:=tys,n:=13,h:=0,tab:=[(23,Zg2),(83,ZoI)] }
theorem ZBy:Zl Tryz.prog 22 ZoH:=by
 refine Zn (C:=ZAT) Tryz.f22 (Zj ZmC (Zj ZBz Zo)) fun _ a b k he=>?_
 unfold ZoH at he;split at he;rotate_left;exact he.elim
 rename_i a_0 a_1
 refine Zq he fun he=>?_
 refine Zh he fun r1_ he=>?_
 refine Zh he fun r2_ he=>?_
 exact Zy [(2,[900])] (Zk he :) (Za [(900,2),(901,7900),(902,11900)])
def Zqd:Con:=fun
  |[.agg [.int .i64 a_0,.int .i64 a_1]],[]=>.opt _ (ZtQ (a_0,a_1)) (fun r=>.ret (.agg [.int .i64 r.1,.int .i64 r.2]) [(900,.rc [.int .i64 r.1,.int .i64 r.2])])
  |_,_=>.fail
def ZC2:Cfg:={ y:=tys,n:=11,h:=0,tab:=[] }
theorem ZDp:Zl Tryz.prog 217 Zqd:=by
 refine Zn (C:=ZC2) Tryz.f217 Zo fun _ a b k he=>?_
 unfold Zqd at he;split at he;rotate_left;exact he.elim
 rename_i a_0 a_1
 refine Zq he fun he=>?_
 exact Zy [(2,[900])] (Zk he :) (Za [(900,2)])
def ZoK:Con:=fun
  |[.c (.imm (.pair (.int .i64) (.int .i64)) a)],[]=>.opt _ (Zn5 a) (fun r=>.ret (.c (.own 900 false)) [(900,.sl 155 y5_ r .shallow)])
  |_,_=>.fail
def ZAW:Cfg:={ y:=tys,n:=23,h:=0,tab:=[(217,Zqd)] }
theorem ZBB:Zl Tryz.prog 154 ZoK:=by
 refine Zn (C:=ZAW) Tryz.f154 (Zj ZDp Zo) fun _ a b k he=>?_
 unfold ZoK at he;split at he;rotate_left;exact he.elim
 rename_i a
 refine Zq he fun he=>?_
 refine Zi he fun he=>?_
 refine Zr (Zkt a) (fun (i,out)=>(Zm [(0,.c (.imm y5_ a)),(3,.c (.own 10000000 false)),(4,.c (.int .i64 i))],[(10000000,.sl 155 y5_ out .shallow)])) he (Za [(10000000,7)]) ?_
 exact ZAp
def Zj1:Con:=fun
  |[.agg [.imm (.pair (.int .i64) (.int .i64)) a_0,.int .i64 a_1]],[]=>.opt _ (Zl5 (a_0,a_1)) (fun r=>.ret (.agg [.own 901 false,.int .i64 r.1]) [(900,.rc [.own 901 false,.int .i64 r.1]),(901,.sl 155 y5_ r.2 .shallow)])
  |_,_=>.fail
def Zv1:Cfg:={ y:=tys,n:=12,h:=0,tab:=[(154,ZoK)] }
theorem Zwi:Zl Tryz.prog 93 Zj1:=by
 refine Zn (C:=Zv1) Tryz.f93 (Zj ZBB Zo) fun _ a b k he=>?_
 unfold Zj1 at he;split at he;rotate_left;exact he.elim
 rename_i a_0 a_1
 refine Zq he fun he=>?_
 refine Zh he fun r1_ he=>?_
 exact Zy [(2,[900])] (Zk he :) (Za [(900,2),(901,7900)])
def Zqc:Con:=fun
  |[.agg [.int .i64 a_0,.int .i64 a_1,.int .i64 a_2,.imm (.pair (.int .i64) (.int .i64)) a_3,.int .i64 a_4]],[]=>.opt _ (Zo9 (a_0,(a_1,(a_2,(a_3,a_4))))) (fun r=>.ret (.agg [.int .i64 r.1,.int .i64 r.2.1,.int .i64 r.2.2.1,.own 901 false,.int .i64 r.2.2.2.1]) [(900,.rc [.int .i64 r.1,.int .i64 r.2.1,.int .i64 r.2.2.1,.own 901 false,.int .i64 r.2.2.2.1]),(901,.sl 155 y5_ r.2.2.2.2 .shallow)])
  |_,_=>.fail
def ZC1:Cfg:={ y:=tys,n:=18,h:=0,tab:=[(93,Zj1)] }
theorem ZDo:Zl Tryz.prog 84 Zqc:=by
 refine Zn (C:=ZC1) Tryz.f84 (Zj Zwi Zo) fun _ a b k he=>?_
 unfold Zqc at he;split at he;rotate_left;exact he.elim
 rename_i a_0 a_1 a_2 a_3 a_4
 refine Zq he fun he=>?_
 refine Zh he fun r1_ he=>?_
 exact Zy [(2,[900])] (Zk he :) (Za [(900,2),(901,16901)])
def ZoJ:Con:=fun
  |[.c (.imm (.pair (.int .i64) (.pair (.int .i64) (.pair (.int .i64) (.pair (.sl (.pair (.int .i64) (.int .i64))) (.int .i64))))) a)],[]=>.opt _ (Zir a) (fun r=>.ret (.c (.own 900 false)) [(900,.sl 96 y9_ r (.deep true .no))])
  |_,_=>.fail
def ZAV:Cfg:={ y:=tys,n:=23,h:=0,tab:=[(84,Zqc)],deep:=[7] }
theorem ZBA:Zl Tryz.prog 24 ZoJ:=by
 refine Zn (C:=ZAV) Tryz.f24 (Zj ZDo Zo) fun _ a b k he=>?_
 unfold ZoJ at he;split at he;rotate_left;exact he.elim
 rename_i a
 refine Zq he fun he=>?_
 refine Zi he fun he=>?_
 refine Zr (Zhk a) (fun (i,out)=>(Zm [(0,.c (.imm y9_ a)),(3,.c (.own 10000000 false)),(4,.c (.int .i64 i))],[(10000000,.sl 96 y9_ out (.deep true .no))])) he (Za [(10000000,7)]) ?_
 exact ZAp
def Zqk:Con:=fun
  |[.agg [.imm (.int .i64) m_0,.imm (.pair (.int .i64) (.pair (.sl (.int .i64)) (.pair (.sl (.int .i64)) (.pair (.int .i64) (.sl (.sl (.int .i64))))))) m_1],.c (.imm (.int .i64) list_)],[]=>.opt _ (Zpj (m_0,m_1) list_) (fun r=>.ret (.c (.bool r)) [])
  |_,_=>.fail
def ZDa:Cfg:={ y:=tys,n:=45,h:=0,tab:=[] }
theorem ZFF {P:Prop} (h:P:=by
  refine Zf he (fun he=>?_) fun he=>?_
  ·exact ZK
  ·exact Zdh):P:=h
theorem ZFG {P:Prop} (h:P:=by
  refine Zi he fun he=>?_
  refine Zi he fun he=>?_
  exact ZFF):P:=h
theorem ZDw:Zl Tryz.prog 243 Zqk:=by
 refine Zn (C:=ZDa) Tryz.f243 Zo fun _ a b k he=>?_
 unfold Zqk at he;split at he;rotate_left;exact he.elim
 rename_i m_0 m_1 list_
 refine Zq he fun he=>?_
 refine Zr (ZlL (m_0,m_1) list_) (fun i=>(Zm [(1,.c (.imm y0_ list_)),(2,.c (.ptr 10000000 0)),(5,.c (.int .i64 i))],[(10000000,.rc [.imm y0_ (m_0,m_1).1,.imm y4_ (m_0,m_1).2])])) he (Za [(10000000,2)]) ?_
 rintro i _ he
 refine Zf he (fun he=>?_) fun he=>?_
 ·refine And.intro (by kernel_rfl) ?_
  refine Zi he fun he=>?_
  refine ZC he (fun he=>?_) fun he=>?_
  ·refine Zi he fun he=>?_
   refine Zf he (fun he=>?_) fun he=>?_
   ·exact ZK
   ·refine Zr (Zix list_ i) (fun k_=>(Zm [(1,.c (.imm y0_ list_)),(2,.c (.ptr 10001000 0)),(5,.c (.int .i64 i)),(6,.c (.int .i64 k_))],[(10001000,.rc [.imm y0_ (m_0,m_1).1,.imm y4_ (m_0,m_1).2])])) he (Za [(10001000,10000000)]) ?_
    rintro k_ _ he
    refine Zf he (fun he=>?_) fun he=>?_
    ·refine And.intro (by kernel_rfl) ?_
     exact ZFG
    ·refine Zi he fun he=>?_
     exact⟨_,(Zk he :),(Za [(10000000,10001000)])⟩
  ·exact ZK
 ·exact ZK
end
end Go.AE.Y
