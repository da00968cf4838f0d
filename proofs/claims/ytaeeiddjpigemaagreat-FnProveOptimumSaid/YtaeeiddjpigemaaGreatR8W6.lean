/-
  Walks: each function keeps the contract that its model gives. No conditions.
-/
import Derived.Test.YtaeeiddjpigemaaGreatR8Tab
import Derived.Test.YtaeeiddjpigemaaGreatR8W5
import Derived.Test.YtaeeiddjpigemaaGreatR8S
namespace Go.AE.Y
open Go Go.AE Go.Proofs
set_option linter.unusedVariables false
set_option maxHeartbeats 2000000
set_option maxRecDepth 100000
noncomputable section
def ZqD:Con:=fun
  |[.c (.imm (.int .i64) coefs),.c (.imm (.int .i64) cells)],[]=>.opt _ (Zqf coefs cells) (fun r=>.ret (.c (.int .i64 r)) [])
  |_,_=>.fail
def ZCM:Cfg:={ y:=tys,n:=25,h:=0,tab:=[] }
theorem ZC6:Zn Tryz.prog 65 ZqD:=by
 refine Zq (C:=ZCM) Tryz.f65 Zr fun _ a b k he=>?_
 unfold ZqD at he;split at he;rotate_left;exact he.elim
 rename_i coefs cells
 refine Zs he fun he=>?_
 refine Zp (Zqg coefs cells) (fun (n,i)=>(Zm [(0,.c (.imm y0_ coefs)),(1,.c (.imm y0_ cells)),(5,.c (.int .i64 n)),(6,.c (.int .i64 i))],[])) he (Za []) ?_
 rintro⟨n,i⟩ _ he
 refine Zh he (fun he=>?_) fun he=>?_
 ·refine And.intro (by kernel_rfl) ?_
  exact Zzh
 ·exact Z5
def ZiI:Con:=fun
  |[.agg [.imm (.int .i64) m_0,.imm (.pair (.int .i64) (.pair (.sl (.int .i64)) (.pair (.sl (.int .i64)) (.pair (.int .i64) (.sl (.sl (.int .i64))))))) m_1],.c (.imm (.int .i64) coefs),.c (.int .i64 most)],[]=>.opt _ (Zgu (m_0,m_1) coefs most) (fun r=>.ret (.tup [.agg [.own 901 false,.int .i64 r.2.1],.c (.bool r.1)]) [(900,.rc [.own 901 false,.int .i64 r.2.1]),(901,.sl 155 y6_ r.2.2 .shallow)])
  |_,_=>.fail
def Zt1:Cfg:={ y:=tys,n:=59,h:=0,tab:=[(63,Zng),(133,Zf5),(134,Zmd)],cut:=[11],sched:=[(10,(ZB [0,2,3,5,6,7,8,9,10,11] (.alt 1 (.alt 4 (.first 12 (.alt 13 .done .stop)) .stop) .stop)))] }
theorem Zt9:Zn Tryz.prog 64 ZiI:=by
 refine Zq (C:=Zt1) Tryz.f64 (Zk Zvm (Zk Zkg (Zk Zut Zr))) fun _ a b k he=>?_
 unfold ZiI at he;split at he;rotate_left;exact he.elim
 rename_i m_0 m_1 coefs most
 refine Zs he fun he=>?_
 refine Zi he fun r1_ he=>?_
 refine ZD he (fun he=>?_) fun he=>?_
 ·refine ZD he (fun he=>?_) fun he=>?_
  ·refine Zh he (fun he=>?_) fun he=>?_
   ·exact ZvP
   ·refine Zg he fun he=>?_
    refine ZN (ZhY most) (fun net3=>(Zm [(2,.c (.int .i64 most)),(6,.c (.ptr 10003000 0)),(8,.c (.own 10003001 false))],[(10003000,.rc [.nil,.int .i64 (0:Int)]),(10003001,.sl 3 y0_ net3 .shallow)])) he ?_ ?_
    ·rintro net3 he
     refine Zg he fun he=>?_
     refine Zi he fun r7_ he=>?_
     exact Zt [(6,[900]),(7,[])] (Zj he :) (Za [(900,10003000),(901,57901)])
    ·skip
     refine Zp (Zfj (m_0,m_1) coefs most) (fun (i,net1)=>(Zm [(1,.c (.imm y0_ coefs)),(2,.c (.int .i64 most)),(3,.c (.ptr 10000000 0)),(6,.c (.ptr 10000001 0)),(8,.c (.own 10000002 false)),(9,.c (.int .i64 i))],[(10000000,.rc [.imm y0_ (m_0,m_1).1,.imm y5_ (m_0,m_1).2]),(10000001,.rc [.nil,.int .i64 (0:Int)]),(10000002,.sl 3 y0_ net1 .shallow)])) he (Za [(10000000,3),(10000001,6),(10000002,24)]) ?_
     rintro⟨i,net1⟩ _ he
     refine Zh he (fun he=>?_) fun he=>?_
     ·refine Zp (Zfk (m_0,m_1) coefs i) (fun (k_1,net2)=>(Zm [(1,.c (.imm y0_ coefs)),(2,.c (.int .i64 most)),(3,.c (.ptr 10002000 0)),(6,.c (.ptr 10002001 0)),(8,.c (.own 10002002 false)),(9,.c (.int .i64 i)),(10,.c (.int .i64 k_1))],[(10002000,.rc [.imm y0_ (m_0,m_1).1,.imm y5_ (m_0,m_1).2]),(10002001,.rc [.nil,.int .i64 (0:Int)]),(10002002,.sl 3 y0_ net2 .shallow)])) he (Za [(10002000,10000000),(10002001,10000001),(10002002,10000002)]) ?_
      rintro⟨k_1,net2⟩ _ he
      refine Zg he fun he=>?_
      refine Zh he (fun he=>?_) fun he=>?_
      ·refine And.intro (by kernel_rfl) ?_
       refine Zg he fun he=>?_
       refine Zg he fun he=>?_
       refine Zg he fun he=>?_
       refine Y4 ?_
       refine Y4 ?_
       refine Zi he fun r6_ he=>?_
       refine Zg he fun he=>?_
       exact Zos
      ·refine Zg he fun he=>?_
       exact⟨_,(Zj he :),(Za [(10000000,10002000),(10000001,10002001),(10000002,10002002)])⟩
     ·exact⟨_,(Zbp he :),(Za [(10003000,10000001),(10003001,10000002)])⟩
  ·exact ZvP
 ·exact ZvP
def ZlT:Con:=fun
  |[.c (.imm (.pair (.sl (.pair (.int .i64) (.int .i64))) (.int .i64)) list_)],[]=>.opt _ (ZjM list_) (fun r=>.ret (.c (.bool r)) [])
  |_,_=>.fail
def Zxq:Cfg:={ y:=tys,n:=19,h:=0,tab:=[(168,ZfS)] }
theorem ZxF:Zn Tryz.prog 109 ZlT:=by
 refine Zq (C:=Zxq) Tryz.f109 (Zk Zon Zr) fun _ a b k he=>?_
 unfold ZlT at he;split at he;rotate_left;exact he.elim
 rename_i list_
 refine Zs he fun he=>?_
 refine Zp (Zhk list_) (fun i=>(Zm [(0,.c (.imm y7_ list_)),(3,.c (.int .i64 i))],[])) he (Za []) ?_
 exact Zzf
def ZiY:Con:=fun
  |[.c (.own 0 false),.c (.int .i64 lit)],[(0,.sl 3 (.int .i64) p .shallow)]=>.opt _ (ZgH lit p) (fun r=>.ret (.tup []) [(0,.sl 3 y0_ r .shallow)])
  |_,_=>.fail
def ZBd:Cfg:={ y:=tys,n:=15,h:=1,tab:=[] }
theorem Zp4:Zn Tryz.prog 194 ZiY:=by
 refine Zq (C:=ZBd) Tryz.f194 Zr fun _ a b k he=>?_
 unfold ZiY at he;split at he;rotate_left;exact he.elim
 rename_i lit p
 refine Zs he fun he=>?_
 refine Zh he (fun he=>?_) fun he=>?_
 ·refine Zg he fun he=>?_
  refine Zg he fun he=>?_
  exact Zt [] (Zj he :) (Za [] (l:=[]) (st':=[(0,.sl 3 y0_ (p.set (lit - (1:Int)).toNat (1:Int)) .shallow)]))
 ·refine Zg he fun he=>?_
  refine Zg he fun he=>?_
  refine Zg he fun he=>?_
  exact Zt [] (Zj he :) (Za [] (l:=[]) (st':=[(0,.sl 3 y0_ (p.set ((0 - lit) - (1:Int)).toNat (-1:Int)) .shallow)]))
def Znf:Con:=fun
  |[.c (.imm (.int .i64) p),.c (.int .i64 lit)],[]=>.opt _ (Zm9 p lit) (fun r=>.ret (.c (.int .i64 r)) [])
  |_,_=>.fail
def ZCH:Cfg:={ y:=tys,n:=19,h:=0,tab:=[] }
theorem Zvl:Zn Tryz.prog 288 Znf:=by
 refine Zq (C:=ZCH) Tryz.f288 Zr fun _ a b k he=>?_
 unfold Znf at he;split at he;rotate_left;exact he.elim
 rename_i p lit
 refine Zs he fun he=>?_
 refine Zh he (fun he=>?_) fun he=>?_
 ·exact ZHj
 ·exact ZLt
def Zne:Con:=fun
  |[.agg [.imm (.pair (.int .i64) (.int .i64)) c__0,.int .i64 c__1],.c (.imm (.int .i64) p)],[]=>.opt _ (Zm8 (c__0,c__1) p) (fun r=>.ret (.c (.int .i64 r)) [])
  |_,_=>.fail
def ZCG:Cfg:={ y:=tys,n:=35,h:=0,tab:=[(288,Znf)] }
theorem Zvk:Zn Tryz.prog 248 Zne:=by
 refine Zq (C:=ZCG) Tryz.f248 (Zk Zvl Zr) fun _ a b k he=>?_
 unfold Zne at he;split at he;rotate_left;exact he.elim
 rename_i c__0 c__1 p
 refine Zs he fun he=>?_
 refine Zg he fun he=>?_
 refine Zp (Zmj (c__0,c__1) p) (fun (n,i)=>(Zm [(1,.c (.imm y0_ p)),(2,.c (.ptr 10000000 0)),(5,.c (.int .i64 n)),(6,.c (.int .i64 i))],[(10000000,.rc [.imm y6_ (c__0,c__1).1,.int .i64 (c__0,c__1).2])])) he (Za [(10000000,2)]) ?_
 rintro⟨n,i⟩ _ he
 refine Zh he (fun he=>?_) fun he=>?_
 ·refine Zg he fun he=>?_
  refine Zi he fun r1_ he=>?_
  refine Zh he (fun he=>?_) fun he=>?_
  ·exact ZvF
  ·exact ZdH
 ·exact Zbd
def ZoR:Con:=fun
  |[.agg [.imm (.pair (.int .i64) (.int .i64)) c__0,.int .i64 c__1],.c (.imm (.int .i64) p)],[]=>.opt _ (ZhG (c__0,c__1) p) (fun r=>.ret (.c (.own 900 false)) [(900,.sl 3 y0_ r .shallow)])
  |_,_=>.fail
def ZAq:Cfg:={ y:=tys,n:=52,h:=0,tab:=[(248,Zne),(288,Znf)] }
theorem ZAE:Zn Tryz.prog 249 ZoR:=by
 refine Zq (C:=ZAq) Tryz.f249 (Zk Zvk (Zk Zvl Zr)) fun _ a b k he=>?_
 unfold ZoR at he;split at he;rotate_left;exact he.elim
 rename_i c__0 c__1 p
 refine Zs he fun he=>?_
 refine Zi he fun r1_ he=>?_
 refine Zp (ZgX (c__0,c__1) p r1_) (fun (i,out)=>(Zm [(1,.c (.imm y0_ p)),(2,.c (.ptr 10000000 0)),(5,.c (.own 10000001 false)),(6,.c (.int .i64 r1_)),(7,.c (.int .i64 i))],[(10000000,.rc [.imm y6_ (c__0,c__1).1,.int .i64 (c__0,c__1).2]),(10000001,.sl 3 y0_ out .shallow)])) he (Za [(10000000,2),(10000001,8)]) ?_
 rintro⟨i,out⟩ _ he
 refine Zh he (fun he=>?_) fun he=>?_
 ·refine Zh he (fun he=>?_) fun he=>?_
  ·refine Zg he fun he=>?_
   refine Zi he fun r3_ he=>?_
   refine Zh he (fun he=>?_) fun he=>?_
   ·refine Zg he fun he=>?_
    refine Zh he (fun he=>?_) fun he=>?_
    ·refine Zg he fun he=>?_
     refine Zg he fun he=>?_
     refine Zg he fun he=>?_
     exact⟨_,(Zj he :),(Za [(10000001,50)])⟩
    ·exact ZdH
   ·exact ZdH
  ·exact Zt [(4,[])] (Zj he :) (Za [(900,10000001)])
 ·exact Zt [(4,[])] (Zj he :) (Za [(900,10000001)])
def ZiZ:Con:=fun
  |[.c (.imm (.pair (.sl (.pair (.int .i64) (.int .i64))) (.int .i64)) list_),.c (.own 0 false)],[(0,.sl 3 (.int .i64) p .shallow)]=>.opt _ (ZeS list_ p) (fun r=>.ret (.c (.int .i64 r.1)) [(0,.sl 3 y0_ r.2 .shallow)])
  |_,_=>.fail
def ZxV:Cfg:={ y:=tys,n:=42,h:=1,tab:=[(194,ZiY),(248,Zne),(249,ZoR)],hand:=[(194,[0])] }
theorem ZrM:Zn Tryz.prog 195 ZiZ:=by
 refine Zq (C:=ZxV) Tryz.f195 (Zk Zp4 (Zk Zvk (Zk ZAE Zr))) fun _ a b k he=>?_
 unfold ZiZ at he;split at he;rotate_left;exact he.elim
 rename_i list_ p
 refine Zs he fun he=>?_
 refine Zp (ZfD list_) (fun (changed,p4)=>(Zm [(0,.c (.imm y7_ list_)),(1,.c (.own 0 false)),(5,.c (.bool changed))],[(0,.sl 3 y0_ p4 .shallow)])) he (Za []) ?_
 rintro⟨changed,p4⟩ _ he
 refine Zh he (fun he=>?_) fun he=>?_
 ·refine Zp (ZdV list_) (fun (changed4,i1,p6)=>(Zm [(0,.c (.imm y7_ list_)),(1,.c (.own 0 false)),(5,.c (.bool changed4)),(6,.c (.int .i64 i1))],[(0,.sl 3 y0_ p6 .shallow)])) he (Za []) ?_
  rintro⟨changed4,i1,p6⟩ _ he
  refine Zh he (fun he=>?_) fun he=>?_
  ·refine Zg he fun he=>?_
   refine Zi he fun r13_ he=>?_
   refine Zh he (fun he=>?_) fun he=>?_
   ·exact Zbd
   ·refine Zg he fun he=>?_
    refine Zi he fun r14_ he=>?_
    refine Zp (ZdW i1 r14_) (fun (changed6,k_3,p7)=>(Zm [(0,.c (.imm y7_ list_)),(1,.c (.own 0 false)),(5,.c (.bool changed6)),(6,.c (.int .i64 i1)),(7,.c (.own 10006000 false)),(8,.c (.int .i64 k_3))],[(0,.sl 3 y0_ p7 .shallow),(10006000,.sl 3 y0_ r14_ .shallow)])) he (Za [(10006000,30900)]) ?_
    rintro⟨changed6,k_3,p7⟩ _ he
    refine Zh he (fun he=>?_) fun he=>?_
    ·refine Zg he fun he=>?_
     refine Zi he fun r16_ he=>?_
     exact ZdH
    ·exact ZdH
  ·exact⟨_,(Zj he :),(Za [])⟩
 ·exact Zbd
def Zi0:Con:=fun
  |[.agg [.own 0 false,.own 1 false,.int .i64 s_2],.c (.imm (.int .i64) decisions)],[(0,.sl 89 (.pair (.sl (.pair (.int .i64) (.int .i64))) (.int .i64)) o0 .shallow),(1,.sl 96 (.pair (.int .i64) (.pair (.int .i64) (.pair (.int .i64) (.pair (.sl (.pair (.int .i64) (.int .i64))) (.int .i64))))) o1 .shallow)]=>.opt _ (ZdE s_2 decisions o0 o1) (fun r=>.ret (.agg [.own 901 false,.own 902 false,.int .i64 r.1]) [(0,.dead),(1,.dead),(900,.rc [.own 901 false,.own 902 false,.int .i64 r.1]),(901,.sl 89 y7_ r.2.1 .shallow),(902,.sl 96 Zb7 r.2.2 .shallow)])
  |_,_=>.fail
def ZxW:Cfg:={ y:=tys,n:=43,h:=2,tab:=[(189,ZiX)],cut:=[6] }
theorem ZrN:Zn Tryz.prog 196 Zi0:=by
 refine Zq (C:=ZxW) Tryz.f196 (Zk Zp3 Zr) fun _ a b k he=>?_
 unfold Zi0 at he;split at he;rotate_left;exact he.elim
 rename_i s_2 decisions o0 o1
 refine Zs he fun he=>?_
 refine ZN (Zim s_2 o0 o1) (fun lits1=>(Zm [(2,.c (.ptr 10001000 0)),(4,.c (.ptr 10001001 0)),(5,.c (.own 10001002 false))],[(0,.sl 89 y7_ o0 .shallow),(1,.sl 96 Zb7 o1 .shallow),(10001000,.rc [.own 0 false,.own 1 false,.int .i64 s_2]),(10001001,.rc [.nil,.nil,.int .i64 (0:Int)]),(10001002,.sl 3 y0_ lits1 .shallow)])) he ?_ ?_
 ·rintro lits1 he
  refine Zi he fun r1_ he=>?_
  refine Zg he fun he=>?_
  refine Zg he fun he=>?_
  exact Zt [(4,[900])] (Zj he :) (Za [(900,10001001),(901,33),(902,40)])
 ·skip
  refine Zp (Zdb s_2 decisions o0 o1) (fun (i,lits)=>(Zm [(1,.c (.imm y0_ decisions)),(2,.c (.ptr 10000000 0)),(4,.c (.ptr 10000001 0)),(5,.c (.own 10000002 false)),(6,.c (.int .i64 i))],[(0,.sl 89 y7_ o0 .shallow),(1,.sl 96 Zb7 o1 .shallow),(10000000,.rc [.own 0 false,.own 1 false,.int .i64 s_2]),(10000001,.rc [.nil,.nil,.int .i64 (0:Int)]),(10000002,.sl 3 y0_ lits .shallow)])) he (Za [(10000000,2),(10000001,4),(10000002,9)]) ?_
  rintro⟨i,lits⟩ _ he
  refine Zh he (fun he=>?_) fun he=>?_
  ·refine Zg he fun he=>?_
   refine Zg he fun he=>?_
   refine Zg he fun he=>?_
   refine Zg he fun he=>?_
   exact⟨_,(Zj he :),(Za [(10000002,23)])⟩
  ·exact⟨_,(Zbp he :),(Za [(10001000,10000000),(10001001,10000001),(10001002,10000002)])⟩
def Zow:Con:=fun
  |[.c (.imm (.int .i64) p)],[]=>.opt _ (Zjr p) (fun r=>.ret (.c (.int .i64 r)) [])
  |_,_=>.fail
def ZEz:Cfg:={ y:=tys,n:=17,h:=0,tab:=[] }
theorem Zw8:Zn Tryz.prog 197 Zow:=by
 refine Zq (C:=ZEz) Tryz.f197 Zr fun _ a b k he=>?_
 unfold Zow at he;split at he;rotate_left;exact he.elim
 rename_i p
 refine Zs he fun he=>?_
 refine Zp (Zkl p) (fun i=>(Zm [(0,.c (.imm y0_ p)),(3,.c (.int .i64 i))],[])) he (Za []) ?_
 rintro i _ he
 refine Zh he (fun he=>?_) fun he=>?_
 ·refine Zg he fun he=>?_
  refine Zh he (fun he=>?_) fun he=>?_
  ·exact ZCr
  ·exact ZdH
 ·exact Z5
def ZdS (n_:Nat):Con:=fun
  |[.agg [.own 0 false,.own 1 false,.int .i64 a0_2],.c (.imm (.int .i64) a1)],[(0,.sl 89 (.pair (.sl (.pair (.int .i64) (.int .i64))) (.int .i64)) o0 .shallow),(1,.sl 96 (.pair (.int .i64) (.pair (.int .i64) (.pair (.int .i64) (.pair (.sl (.pair (.int .i64) (.int .i64))) (.int .i64))))) o1 .shallow)]=>.opt _ (Z9 n_ a0_2 a1 o0 o1) (fun r=>.ret (.tup [.agg [.own 902 false,.own 903 false,.int .i64 r.2.1],.c (.int .i64 r.1),.c (.own 901 false)]) [(0,.dead),(1,.dead),(900,.rc [.own 902 false,.own 903 false,.int .i64 r.2.1]),(901,.sl 4 .bool r.2.2.1 .shallow),(902,.sl 89 y7_ r.2.2.2.1 .shallow),(903,.sl 96 Zb7 r.2.2.2.2 .shallow)])
  |_,_=>.fail
def Zoa:Sched:=.alt 7 (ZB [8,9,10,11] (.alt 12 (ZB [13,14] .done) .stop)) .stop
def Zjl:Sched:=.alt 6 Zoa .stop
def Zob:Sched:=.alt 5 Zjl .stop
def Zjm:Sched:=.alt 3 Zjl .stop
def Zoc:Sched:=.alt 3 Zob (.alt 5 Zjm .stop)
def Zod:Sched:=.alt 1 Zjm .stop
def Zoe:Sched:=.alt 0 Zjl (.alt 6 (.alt 0 Zoa .stop) .stop)
def Zof:Sched:=.alt 0 Zjm (.alt 3 Zoe .stop)
def Zxt (n_:Nat):Cfg:={ y:=tys,n:=112,h:=2,tab:=[(135,ZdS n_),(194,ZiY),(195,ZiZ),(196,Zi0),(197,Zow)],cut:=[9,18,25,28],hand:=[(135,[0]),(194,[0]),(195,[1]),(196,[0])],sched:=[(24,(ZB [2,4] (.alt 0 (.alt 1 Zoc (.alt 5 Zod .stop)) (.alt 1 (.alt 0 Zoc (.alt 3 (.alt 0 Zob (.alt 5 Zoe .stop)) (.alt 5 Zof .stop))) (.alt 5 (.alt 0 Zod (.alt 1 Zof .stop)) .stop)))))],nils:=[135,196] }
theorem ZIQ {P:Prop} (h:P:=by
  exact Zt [(4,[900]),(5,[]),(6,[])] (Zj he :) (Za [(900,4),(901,26),(902,0),(903,1)])):P:=h
theorem ZIR {P:Prop} (h:P:=by
  refine Zi he fun r4_ he=>?_
  exact Zt [(4,[900]),(5,[]),(6,[])] (Zj he :) (Za [(900,10001001),(901,52),(902,52901),(903,52902)])):P:=h
theorem ZIS {P:Prop} (h:P:=by
  refine Zg he fun he=>?_
  refine Zg he fun he=>?_
  refine Zg he fun he=>?_
  exact⟨_,(Zj he :),(Za [(10002003,71)])⟩):P:=h
theorem ZIT {P:Prop} (h:P:=by
  rintro⟨i_23,i_03,i_13⟩ he
  refine Zh he (fun he=>?_) fun he=>?_
  ·exact Zt [(4,[900]),(5,[]),(6,[])] (Zj he :) (Za [(900,10007001),(901,107),(902,10007002),(903,10007003)])
  ·refine Zi he fun r9_ he=>?_
   exact Zt [(4,[900]),(5,[]),(6,[])] (Zj he :) (Za [(900,10007001),(901,111),(902,111901),(903,111902)])):P:=h
theorem ZIU {P:Prop} (h:P:=by
  refine Y4 ?_
  refine⟨r8_,hq3,?_⟩
  refine Y4 ?_
  exact⟨_,he,(Za [(10006000,10004000),(10006001,10004001),(10006002,93901),(10006003,10004002),(10006004,93902),(10006005,93903)])⟩):P:=h
theorem ZsZ {P:Prop} (h:P:=by
  refine Y4 ?_
  refine And.intro hq2 ?_
  exact ZIU):P:=h
theorem ZvI {P:Prop} (h:P:=by
  skip
  refine Y4 ?_
  refine And.intro hq1 ?_
  exact ZsZ):P:=h
theorem ZzA {P:Prop} (h:P:=by
  skip
  refine Y5 ?_ ?_
  ·skip
   refine And.intro hq1 ?_
   refine Y4 ?_
   exact ZsZ
  ·exact ZvI):P:=h
theorem ZzB {P:Prop} (h:P:=by
  skip
  refine Y4 ?_
  refine Y4 ?_
  refine And.intro hq1 ?_
  exact ZsZ):P:=h
theorem Zs0 {P:Prop} (h:P:=by
  refine Y5 ?_ ?_
  ·skip
   exact ZsZ
  ·skip
   refine And.intro hq2 ?_
   refine Y4 ?_
   exact ZIU):P:=h
theorem ZIV {P:Prop} (h:P:=by
  refine Zg he fun he=>?_
  refine Zi he fun r2_ he=>?_
  exact ZdH):P:=h
theorem Ztx (n_:Nat) (ih:Zn Tryz.prog 135 (ZdS n_)):Zn Tryz.prog 135 (ZdS (n_+1)):=by
 refine Zq (C:=(Zxt n_)) Tryz.f135 (Zk ih (Zk Zp4 (Zk ZrM (Zk ZrN (Zk Zw8 Zr))))) fun _ a b k he=>?_
 unfold ZdS at he;split at he;rotate_left;exact he.elim
 rename_i a0_2 a1 o0 o1
 have he:Ok (ZbA (Z9 n_) a0_2 a1 o0 o1) (fun r=>k (.tup [.agg [.own 902 false,.own 903 false,.int .i64 r.2.1],.c (.int .i64 r.1),.c (.own 901 false)]) [(0,.dead),(1,.dead),(900,.rc [.own 902 false,.own 903 false,.int .i64 r.2.1]),(901,.sl 4 .bool r.2.2.1 .shallow),(902,.sl 89 y7_ r.2.2.2.1 .shallow),(903,.sl 96 Zb7 r.2.2.2.2 .shallow)]):=he
 refine⟨rfl,rfl,?_⟩
 refine ZD he (fun he=>?_) fun he=>?_
 ·refine Zh he (fun he=>?_) fun he=>?_
  ·exact ZIQ
  ·refine Zg he fun he=>?_
   refine Zg he fun he=>?_
   refine ZN (Zct a0_2 a1 o0 o1 (Z9 n_)) (fun i2=>(Zm [(1,.c (.imm y0_ a1)),(2,.c (.ptr 10001000 0)),(4,.c (.ptr 10001001 0)),(7,.c (.own 10001002 false))],[(0,.sl 89 y7_ o0 .shallow),(1,.sl 96 Zb7 o1 .shallow),(10001000,.rc [.own 0 false,.own 1 false,.int .i64 (a0_2 - (1:Int))]),(10001001,.rc [.nil,.nil,.int .i64 (0:Int)]),(10001002,.sl 3 y0_ i2 .shallow)])) he ?_ ?_
   ·rintro i2 he
    refine Zi he fun r3_ he=>?_
    refine Zh he (fun he=>?_) fun he=>?_
    ·exact ZIR
    ·refine Zi he fun r5_ he=>?_
     refine Zh he (fun he=>?_) fun he=>?_
     ·refine ZN (Zle a0_2 o0 o1) (fun i5=>(Zm [(2,.c (.ptr 10003000 0)),(4,.c (.ptr 10003001 0)),(10,.c (.own 10003002 false))],[(0,.sl 89 y7_ o0 .shallow),(1,.sl 96 Zb7 o1 .shallow),(10003000,.rc [.own 0 false,.own 1 false,.int .i64 (a0_2 - (1:Int))]),(10003001,.rc [.nil,.nil,.int .i64 (0:Int)]),(10003002,.sl 4 .bool i5 .shallow)])) he ?_ ?_
      ·rintro i5 he
       exact Zt [(4,[900]),(5,[]),(6,[])] (Zj he :) (Za [(900,10003001),(901,10003002),(902,0),(903,1)])
      ·skip
       refine Zp (ZcZ a0_2 o0 o1 r3_) (fun (i3,i4)=>(Zm [(2,.c (.ptr 10002000 0)),(4,.c (.ptr 10002001 0)),(7,.c (.own 10002002 false)),(10,.c (.own 10002003 false)),(11,.c (.int .i64 i3))],[(0,.sl 89 y7_ o0 .shallow),(1,.sl 96 Zb7 o1 .shallow),(10002000,.rc [.own 0 false,.own 1 false,.int .i64 (a0_2 - (1:Int))]),(10002001,.rc [.nil,.nil,.int .i64 (0:Int)]),(10002002,.sl 3 y0_ r3_.2 .shallow),(10002003,.sl 4 .bool i4 .shallow)])) he (Za [(10002000,10001000),(10002001,10001001),(10002002,10001002),(10002003,57)]) ?_
       rintro⟨i3,i4⟩ _ he
       refine Zh he (fun he=>?_) fun he=>?_
       ·exact ZIS
       ·exact⟨_,(Zbp he :),(Za [(10003000,10002000),(10003001,10002001),(10003002,10002003)])⟩
     ·refine ZN (Zhl a1) (fun (i_23,i_03,i_13)=>(Zm [(1,.c (.imm y0_ a1)),(2,.c (.ptr 10007000 0)),(4,.c (.ptr 10007001 0))],[(0,.dead),(1,.dead),(10007000,.rc [.own 10007002 false,.own 10007003 false,.int .i64 i_23]),(10007001,.rc [.nil,.nil,.int .i64 (0:Int)]),(10007002,.sl 89 y7_ i_03 .shallow),(10007003,.sl 96 Zb7 i_13 .shallow)])) he ?_ ?_
      ·exact ZIT
      ·skip
       refine Zg he fun he=>?_
       refine Zp (Zet a1 r5_ (Z9 n_)) (fun (i6,i_21,i_01,i_11)=>(Zm [(1,.c (.imm y0_ a1)),(2,.c (.ptr 10004000 0)),(4,.c (.ptr 10004001 0)),(77,.c (.own 10004002 false)),(78,.c (.int .i64 ([r5_,(0 - r5_)].length:Int))),(79,.c (.int .i64 i6))],[(0,.dead),(1,.dead),(10004000,.rc [.own 10004003 false,.own 10004004 false,.int .i64 i_21]),(10004001,.rc [.nil,.nil,.int .i64 (0:Int)]),(10004002,.sl 3 y0_ [r5_,(0 - r5_)] .shallow),(10004003,.sl 89 y7_ i_01 .shallow),(10004004,.sl 96 Zb7 i_11 .shallow)])) he (Za [(10004000,10001000),(10004001,10001001),(10004002,77),(10004003,0),(10004004,1)]) ?_
       rintro⟨i6,i_21,i_01,i_11⟩ _ he
       refine Zh he (fun he=>?_) fun he=>?_
       ·refine Zg he fun he=>?_
        refine ZN (Zhm i6) (fun (i9,i_22,i10,i_02,i_12)=>(Zm [(1,.c (.imm y0_ a1)),(2,.c (.ptr 10006000 0)),(4,.c (.ptr 10006001 0)),(14,.c (.int .i64 i9)),(15,.c (.own 10006002 false)),(77,.c (.own 10006003 false)),(78,.c (.int .i64 ([r5_,(0 - r5_)].length:Int))),(79,.c (.int .i64 i6))],[(0,.dead),(1,.dead),(10006000,.rc [.own 10006004 false,.own 10006005 false,.int .i64 i_22]),(10006001,.rc [.nil,.nil,.int .i64 (0:Int)]),(10006002,.sl 4 .bool i10 .shallow),(10006003,.sl 3 y0_ [r5_,(0 - r5_)] .shallow),(10006004,.sl 89 y7_ i_02 .shallow),(10006005,.sl 96 Zb7 i_12 .shallow)])) he ?_ ?_
        ·rintro⟨i9,i_22,i10,i_02,i_12⟩ he
         refine Zh he (fun he=>?_) fun he=>?_
         ·exact Zt [(4,[900]),(5,[]),(6,[])] (Zj he :) (Za [(900,10006001),(901,10006002),(902,10006004),(903,10006005)])
         ·refine Zg he fun he=>?_
          exact⟨_,(Zj he :),(Za [(10004000,10006000),(10004001,10006001),(10004002,10006003),(10004003,10006004),(10004004,10006005)])⟩
        ·skip
         refine And.intro (by kernel_rfl) ?_
         obtain⟨hq1,he⟩:=ZP he
         obtain⟨hq2,he⟩:=ZP he
         obtain⟨r8_,hq3,he⟩:=ZX he
         refine And.intro ?_ (And.intro ?_ (And.intro ?_ (Y1)))
         ·skip
          refine Y5 ?_ ?_
          ·exact ZzA
          ·exact ZzB
         ·skip
          refine And.intro ?_ (And.intro ?_ (And.intro ?_ (Y1)))
          ·exact ZzA
          ·skip
           refine And.intro hq1 ?_
           refine Y5 ?_ ?_
           ·skip
            refine Y4 ?_
            exact ZsZ
           ·skip
            exact Zs0
          ·skip
           refine Y5 ?_ ?_
           ·exact ZvI
           ·skip
            refine And.intro hq1 ?_
            exact Zs0
         ·skip
          refine Y5 ?_ ?_
          ·exact ZzB
          ·skip
           refine Y5 ?_ ?_
           ·exact ZvI
           ·skip
            refine And.intro hq1 ?_
            exact Zs0
       ·exact⟨_,(Zbp he :),(Za [(10007000,10004000),(10007001,10004001),(10007002,10004003),(10007003,10004004)])⟩
   ·skip
    refine Zp (ZdF a0_2 a1 o0 o1 (Z9 n_)) (fun (i,i1)=>(Zm [(1,.c (.imm y0_ a1)),(2,.c (.ptr 10000000 0)),(4,.c (.ptr 10000001 0)),(7,.c (.own 10000002 false)),(8,.c (.int .i64 i))],[(0,.sl 89 y7_ o0 .shallow),(1,.sl 96 Zb7 o1 .shallow),(10000000,.rc [.own 0 false,.own 1 false,.int .i64 (a0_2 - (1:Int))]),(10000001,.rc [.nil,.nil,.int .i64 (0:Int)]),(10000002,.sl 3 y0_ i1 .shallow)])) he (Za [(10000000,2),(10000001,4),(10000002,31)]) ?_
    rintro⟨i,i1⟩ _ he
    refine Zh he (fun he=>?_) fun he=>?_
    ·exact ZIV
    ·exact⟨_,(Zbp he :),(Za [(10001000,10000000),(10001001,10000001),(10001002,10000002)])⟩
 ·exact ZIQ
theorem Zqr:∀n_,Zn Tryz.prog 135 (ZdS n_)
  |0=>by
    refine Zq (C:={ y:=tys,n:=112,h:=2,tab:=[] }) Tryz.f135 Zr fun _ a b k he=>?_
    unfold ZdS at he
    split at he
    · obtain⟨x,hx,_⟩:=he
      cases hx
    · exact he.elim
  |n_+1=>Ztx n_ (Zqr n_)
def ZmJ:Con:=fun
  |[.agg [.own 0 false,.nil,.int .i64 a0_2],.c (.imm (.int .i64) a1)],[(0,.sl 89 (.pair (.sl (.pair (.int .i64) (.int .i64))) (.int .i64)) o0 .shallow)]=>.opt _ (Zld a0_2 a1 o0) (fun r=>.ret (.tup [.agg [.own 902 false,.own 903 false,.int .i64 r.2.1],.c (.int .i64 r.1),.c (.own 901 false)]) [(0,.dead),(900,.rc [.own 902 false,.own 903 false,.int .i64 r.2.1]),(901,.sl 4 .bool r.2.2.1 .shallow),(902,.sl 89 y7_ r.2.2.2.1 .shallow),(903,.sl 96 Zb7 r.2.2.2.2 .shallow)])
  |_,_=>.fail
def Zpe:Sched:=.alt 7 (ZB [8,9,10,11] (.alt 12 (ZB [13,14] .done) .stop)) .stop
def ZjY:Sched:=.alt 6 Zpe .stop
def Zpf:Sched:=.alt 5 ZjY .stop
def ZjZ:Sched:=.alt 3 ZjY .stop
def Zpg:Sched:=.alt 3 Zpf (.alt 5 ZjZ .stop)
def Zph:Sched:=.alt 1 ZjZ .stop
def Zpi:Sched:=.alt 0 ZjY (.alt 6 (.alt 0 Zpe .stop) .stop)
def Zpj:Sched:=.alt 0 ZjZ (.alt 3 Zpi .stop)
def ZxX:Cfg:={ y:=tys,n:=112,h:=1,tab:=[(135,(ZdS 64)),(194,ZiY),(195,ZiZ),(196,Zi0),(197,Zow)],cut:=[9,18,25,28],hand:=[(135,[0]),(194,[0]),(195,[1]),(196,[0])],sched:=[(24,(ZB [2,4] (.alt 0 (.alt 1 Zpg (.alt 5 Zph .stop)) (.alt 1 (.alt 0 Zpg (.alt 3 (.alt 0 Zpf (.alt 5 Zpi .stop)) (.alt 5 Zpj .stop))) (.alt 5 (.alt 0 Zph (.alt 1 Zpj .stop)) .stop)))))],nils:=[135,196] }
theorem ZIW {P:Prop} (h:P:=by
  exact Zt [(4,[900]),(5,[]),(6,[])] (Zj he :) (Za [(900,4),(901,26),(902,0)])):P:=h
theorem Zyv:Zn Tryz.prog 135 ZmJ:=by
 refine Zq (C:=ZxX) Tryz.f135 (Zk (Zqr 64) (Zk Zp4 (Zk ZrM (Zk ZrN (Zk Zw8 Zr))))) fun _ a b k he=>?_
 unfold ZmJ at he;split at he;rotate_left;exact he.elim
 rename_i a0_2 a1 o0
 refine Zs he fun he=>?_
 refine ZD he (fun he=>?_) fun he=>?_
 ·refine Zh he (fun he=>?_) fun he=>?_
  ·exact ZIW
  ·refine Zg he fun he=>?_
   refine Zg he fun he=>?_
   refine ZN (Zin a0_2 a1 o0) (fun i2=>(Zm [(1,.c (.imm y0_ a1)),(2,.c (.ptr 10001000 0)),(4,.c (.ptr 10001001 0)),(7,.c (.own 10001002 false))],[(0,.sl 89 y7_ o0 .shallow),(10001000,.rc [.own 0 false,.own 10001003 false,.int .i64 (a0_2 - (1:Int))]),(10001001,.rc [.nil,.nil,.int .i64 (0:Int)]),(10001002,.sl 3 y0_ i2 .shallow),(10001003,.sl 96 Zb7 ([]:List Zw) .shallow)])) he ?_ ?_
   ·rintro i2 he
    refine Zi he fun r3_ he=>?_
    refine Zh he (fun he=>?_) fun he=>?_
    ·exact ZIR
    ·refine Zi he fun r5_ he=>?_
     refine Zh he (fun he=>?_) fun he=>?_
     ·refine ZN (Zqs a0_2 o0) (fun i5=>(Zm [(2,.c (.ptr 10003000 0)),(4,.c (.ptr 10003001 0)),(10,.c (.own 10003002 false))],[(0,.sl 89 y7_ o0 .shallow),(10003000,.rc [.own 0 false,.own 10003003 false,.int .i64 (a0_2 - (1:Int))]),(10003001,.rc [.nil,.nil,.int .i64 (0:Int)]),(10003002,.sl 4 .bool i5 .shallow),(10003003,.sl 96 Zb7 ([]:List Zw) .shallow)])) he ?_ ?_
      ·rintro i5 he
       exact Zt [(4,[900]),(5,[]),(6,[])] (Zj he :) (Za [(900,10003001),(901,10003002),(902,0),(903,10003003)])
      ·skip
       refine Zp (Zqv a0_2 o0 r3_) (fun (i3,i4)=>(Zm [(2,.c (.ptr 10002000 0)),(4,.c (.ptr 10002001 0)),(7,.c (.own 10002002 false)),(10,.c (.own 10002003 false)),(11,.c (.int .i64 i3))],[(0,.sl 89 y7_ o0 .shallow),(10002000,.rc [.own 0 false,.own 10002004 false,.int .i64 (a0_2 - (1:Int))]),(10002001,.rc [.nil,.nil,.int .i64 (0:Int)]),(10002002,.sl 3 y0_ r3_.2 .shallow),(10002003,.sl 4 .bool i4 .shallow),(10002004,.sl 96 Zb7 ([]:List Zw) .shallow)])) he (Za [(10002000,10001000),(10002001,10001001),(10002002,10001002),(10002003,57),(10002004,10001003)]) ?_
       rintro⟨i3,i4⟩ _ he
       refine Zh he (fun he=>?_) fun he=>?_
       ·exact ZIS
       ·exact⟨_,(Zbp he :),(Za [(10003000,10002000),(10003001,10002001),(10003002,10002003),(10003003,10002004)])⟩
     ·refine ZN (Zqt a1) (fun (i_23,i_03,i_13)=>(Zm [(1,.c (.imm y0_ a1)),(2,.c (.ptr 10007000 0)),(4,.c (.ptr 10007001 0))],[(0,.dead),(10007000,.rc [.own 10007002 false,.own 10007003 false,.int .i64 i_23]),(10007001,.rc [.nil,.nil,.int .i64 (0:Int)]),(10007002,.sl 89 y7_ i_03 .shallow),(10007003,.sl 96 Zb7 i_13 .shallow)])) he ?_ ?_
      ·exact ZIT
      ·skip
       refine Zg he fun he=>?_
       refine Zp (Zl1 a1 r5_) (fun (i6,i_21,i_01,i_11)=>(Zm [(1,.c (.imm y0_ a1)),(2,.c (.ptr 10004000 0)),(4,.c (.ptr 10004001 0)),(77,.c (.own 10004002 false)),(78,.c (.int .i64 ([r5_,(0 - r5_)].length:Int))),(79,.c (.int .i64 i6))],[(0,.dead),(10004000,.rc [.own 10004003 false,.own 10004004 false,.int .i64 i_21]),(10004001,.rc [.nil,.nil,.int .i64 (0:Int)]),(10004002,.sl 3 y0_ [r5_,(0 - r5_)] .shallow),(10004003,.sl 89 y7_ i_01 .shallow),(10004004,.sl 96 Zb7 i_11 .shallow)])) he (Za [(10004000,10001000),(10004001,10001001),(10004002,77),(10004003,0),(10004004,10001003)]) ?_
       rintro⟨i6,i_21,i_01,i_11⟩ _ he
       refine Zh he (fun he=>?_) fun he=>?_
       ·refine Zg he fun he=>?_
        refine ZN (Zqu i6) (fun (i9,i_22,i10,i_02,i_12)=>(Zm [(1,.c (.imm y0_ a1)),(2,.c (.ptr 10006000 0)),(4,.c (.ptr 10006001 0)),(14,.c (.int .i64 i9)),(15,.c (.own 10006002 false)),(77,.c (.own 10006003 false)),(78,.c (.int .i64 ([r5_,(0 - r5_)].length:Int))),(79,.c (.int .i64 i6))],[(0,.dead),(10006000,.rc [.own 10006004 false,.own 10006005 false,.int .i64 i_22]),(10006001,.rc [.nil,.nil,.int .i64 (0:Int)]),(10006002,.sl 4 .bool i10 .shallow),(10006003,.sl 3 y0_ [r5_,(0 - r5_)] .shallow),(10006004,.sl 89 y7_ i_02 .shallow),(10006005,.sl 96 Zb7 i_12 .shallow)])) he ?_ ?_
        ·rintro⟨i9,i_22,i10,i_02,i_12⟩ he
         refine Zh he (fun he=>?_) fun he=>?_
         ·exact Zt [(4,[900]),(5,[]),(6,[])] (Zj he :) (Za [(900,10006001),(901,10006002),(902,10006004),(903,10006005)])
         ·refine Zg he fun he=>?_
          exact⟨_,(Zj he :),(Za [(10004000,10006000),(10004001,10006001),(10004002,10006003),(10004003,10006004),(10004004,10006005)])⟩
        ·skip
         refine And.intro (by kernel_rfl) ?_
         obtain⟨hq1,he⟩:=ZP he
         obtain⟨hq2,he⟩:=ZP he
         obtain⟨r8_,hq3,he⟩:=ZX he
         refine And.intro ?_ (And.intro ?_ (And.intro ?_ (Y1)))
         ·skip
          refine Y5 ?_ ?_
          ·exact ZzA
          ·exact ZzB
         ·skip
          refine And.intro ?_ (And.intro ?_ (And.intro ?_ (Y1)))
          ·exact ZzA
          ·skip
           refine And.intro hq1 ?_
           refine Y5 ?_ ?_
           ·skip
            refine Y4 ?_
            exact ZsZ
           ·skip
            exact Zs0
          ·skip
           refine Y5 ?_ ?_
           ·exact ZvI
           ·skip
            refine And.intro hq1 ?_
            exact Zs0
         ·skip
          refine Y5 ?_ ?_
          ·exact ZzB
          ·skip
           refine Y5 ?_ ?_
           ·exact ZvI
           ·skip
            refine And.intro hq1 ?_
            exact Zs0
       ·exact⟨_,(Zbp he :),(Za [(10007000,10004000),(10007001,10004001),(10007002,10004003),(10007003,10004004)])⟩
   ·skip
    refine Zp (Zio a0_2 a1 o0) (fun (i,i1)=>(Zm [(1,.c (.imm y0_ a1)),(2,.c (.ptr 10000000 0)),(4,.c (.ptr 10000001 0)),(7,.c (.own 10000002 false)),(8,.c (.int .i64 i))],[(0,.sl 89 y7_ o0 .shallow),(10000000,.rc [.own 0 false,.own 10000003 false,.int .i64 (a0_2 - (1:Int))]),(10000001,.rc [.nil,.nil,.int .i64 (0:Int)]),(10000002,.sl 3 y0_ i1 .shallow),(10000003,.sl 96 Zb7 ([]:List Zw) .shallow)])) he (Za [(10000000,2),(10000001,4),(10000002,31)]) ?_
    rintro⟨i,i1⟩ _ he
    refine Zh he (fun he=>?_) fun he=>?_
    ·exact ZIV
    ·exact⟨_,(Zbp he :),(Za [(10001000,10000000),(10001001,10000001),(10001002,10000002),(10001003,10000003)])⟩
 ·exact ZIW
def Zr0:Con:=fun
  |[.agg [.imm (.pair (.int .i64) (.int .i64)) c__0,.int .i64 c__1]],[]=>.opt _ (Zq4 (c__0,c__1)) (fun r=>.ret (.agg [.own 901 false,.int .i64 r.1]) [(900,.rc [.own 901 false,.int .i64 r.1]),(901,.sl 155 y6_ r.2 .shallow)])
  |_,_=>.fail
def Zs8:Sched:=.alt 6 (.alt 7 .done .stop) .stop
def ZoL:Sched:=.alt 3 Zs8 .stop
def Zs9:Sched:=.alt 3 (.alt 5 Zs8 .stop) (.alt 5 ZoL .stop)
def Zta:Sched:=.alt 2 ZoL .stop
def Ztb:Sched:=.alt 0 ZoL .stop
def ZEy:Cfg:={ y:=tys,n:=10,h:=0,tab:=[],sched:=[(1,(ZB [1,4] (.alt 0 (.alt 2 Zs9 (.alt 5 Zta .stop)) (.alt 2 (.alt 0 Zs9 (.alt 5 Ztb .stop)) (.alt 5 (.alt 0 Zta (.alt 2 Ztb .stop)) .stop)))))] }
theorem ZDx {P:Prop} (h:P:=by
  refine Y4 ?_
  refine Y4 ?_
  exact Zt [(2,[900])] (Zj he :) (Za [(900,2),(901,6)])):P:=h
theorem ZDy {P:Prop} (h:P:=by
  skip
  refine Y4 ?_
  refine Y4 ?_
  refine And.intro hq1 ?_
  exact ZDx):P:=h
theorem ZIX {P:Prop} (h:P:=by
  skip
  refine Y5 ?_ ?_
  ·skip
   refine Y5 ?_ ?_
   ·skip
    refine And.intro hq1 ?_
    refine Y4 ?_
    exact ZDx
   ·skip
    refine Y4 ?_
    refine And.intro hq1 ?_
    exact ZDx
  ·exact ZDy):P:=h
theorem ZEO:Zn Tryz.prog 136 Zr0:=by
 refine Zq (C:=ZEy) Tryz.f136 Zr fun _ a b k he=>?_
 unfold Zr0 at he;split at he;rotate_left;exact he.elim
 rename_i c__0 c__1
 refine Zs he fun he=>?_
 refine And.intro (by kernel_rfl) ?_
 obtain⟨hq1,he⟩:=ZP he
 refine And.intro ?_ (And.intro ?_ (And.intro ?_ (Y1)))
 ·exact ZIX
 ·exact ZIX
 ·skip
  refine Y5 ?_ ?_
  ·exact ZDy
  ·exact ZDy
def ZlV:Con:=fun
  |[.c (.imm (.pair (.sl (.pair (.int .i64) (.int .i64))) (.int .i64)) a0),.c (.int .i64 a1)],[]=>.opt _ (ZjN a0 a1) (fun r=>.ret (.tup [.c (.int .i64 r.1),.c (.own 900 false),.c (.own 901 false)]) [(900,.sl 4 .bool r.2.1 .shallow),(901,.sl 96 Zb7 r.2.2 (.deep true .no))])
  |_,_=>.fail
def Zxs:Cfg:={ y:=tys,n:=65,h:=0,tab:=[(109,ZlT),(135,ZmJ),(136,Zr0)],cut:=[13],hand:=[(135,[0])],deep:=[25,40,41,60],nils:=[135] }
theorem ZDz {P:Prop} (h:P:=by
  exact Zt [(4,[]),(5,[]),(6,[])] (Zj he :) (Za [(900,24),(901,25)])):P:=h
theorem ZxH:Zn Tryz.prog 66 ZlV:=by
 refine Zq (C:=Zxs) Tryz.f66 (Zk ZxF (Zk Zyv (Zk ZEO Zr))) fun _ a b k he=>?_
 unfold ZlV at he;split at he;rotate_left;exact he.elim
 rename_i a0 a1
 refine Zs he fun he=>?_
 refine Zi he fun r1_ he=>?_
 refine ZD he (fun he=>?_) fun he=>?_
 ·refine ZD he (fun he=>?_) fun he=>?_
  ·refine Zh he (fun he=>?_) fun he=>?_
   ·exact ZDz
   ·refine Zg he fun he=>?_
    refine Zi he fun r2_ he=>?_
    refine Zh he (fun he=>?_) fun he=>?_
    ·exact Zt [(4,[]),(5,[]),(6,[])] (Zj he :) (Za [(900,33901),(901,40)])
    ·refine ZN (Zla r2_) (fun i2=>(Zm [(8,.c (.int .i64 r2_.1)),(10,.c (.own 10001000 false))],[(10001000,.sl 96 Zb7 i2 (.deep true .no))])) he ?_ ?_
     ·rintro i2 he
      exact Zt [(4,[]),(5,[]),(6,[])] (Zj he :) (Za [(900,63),(901,10001000)])
     ·skip
      refine Zp (Zes r2_) (fun (i,i1)=>(Zm [(7,.c (.ptr 10000000 0)),(8,.c (.int .i64 r2_.1)),(10,.c (.own 10000001 false)),(11,.c (.int .i64 i))],[(10000000,.rc [.own 10000002 false,.own 10000003 false,.int .i64 r2_.2.1]),(10000001,.sl 96 Zb7 i1 (.deep true .no)),(10000002,.sl 89 y7_ r2_.2.2.2.1 .shallow),(10000003,.sl 96 Zb7 r2_.2.2.2.2 .shallow)])) he (Za [(10000000,7),(10000001,41),(10000002,33902),(10000003,33903)]) ?_
      rintro⟨i,i1⟩ _ he
      refine Zh he (fun he=>?_) fun he=>?_
      ·refine Zg he fun he=>?_
       refine Zi he fun r4_ he=>?_
       refine Zg he fun he=>?_
       refine Zg he fun he=>?_
       exact⟨_,(Zj he :),(Za [(10000001,61)])⟩
      ·exact⟨_,(Zbp he :),(Za [(10001000,10000001)])⟩
  ·exact ZDz
 ·exact ZDz
def ZlS:Con:=fun
  |[.agg [.imm (.int .i64) m_0,.imm (.pair (.int .i64) (.pair (.sl (.int .i64)) (.pair (.sl (.int .i64)) (.pair (.int .i64) (.sl (.sl (.int .i64))))))) m_1],.c (.imm .bool values)],[]=>.opt _ (ZjL (m_0,m_1) values) (fun r=>.ret (.tup [.c (.own 900 false),.c (.bool r.1)]) [(900,.sl 3 y0_ r.2 .shallow)])
  |_,_=>.fail
def Zxp:Cfg:={ y:=tys,n:=56,h:=0,tab:=[(130,ZgJ),(133,Zf5)] }
theorem ZxE:Zn Tryz.prog 67 ZlS:=by
 refine Zq (C:=Zxp) Tryz.f67 (Zk ZnT (Zk Zkg Zr)) fun _ a b k he=>?_
 unfold ZlS at he;split at he;rotate_left;exact he.elim
 rename_i m_0 m_1 values
 refine Zs he fun he=>?_
 refine Zi he fun r1_ he=>?_
 refine ZD he (fun he=>?_) fun he=>?_
 ·refine Zh he (fun he=>?_) fun he=>?_
  ·exact Zt [(4,[]),(5,[])] (Zj he :) (Za [(900,19)])
  ·refine Zp (Zhi (m_0,m_1) values) (fun (i,out)=>(Zm [(1,.c (.imm .bool values)),(2,.c (.ptr 10000000 0)),(6,.c (.own 10000001 false)),(7,.c (.int .i64 i))],[(10000000,.rc [.imm y0_ (m_0,m_1).1,.imm y5_ (m_0,m_1).2]),(10000001,.sl 3 y0_ out .shallow)])) he (Za [(10000000,2),(10000001,20)]) ?_
   rintro⟨i,out⟩ _ he
   refine Zh he (fun he=>?_) fun he=>?_
   ·refine Zp (Zhj (m_0,m_1) values i out) (fun (v1,n1,k_1)=>(Zm [(1,.c (.imm .bool values)),(2,.c (.ptr 10002000 0)),(6,.c (.own 10002001 false)),(7,.c (.int .i64 i)),(8,.c (.int .i64 v1)),(9,.c (.int .i64 n1)),(10,.c (.int .i64 k_1))],[(10002000,.rc [.imm y0_ (m_0,m_1).1,.imm y5_ (m_0,m_1).2]),(10002001,.sl 3 y0_ out .shallow)])) he (Za [(10002000,10000000),(10002001,10000001)]) ?_
    rintro⟨v1,n1,k_1⟩ _ he
    refine Zg he fun he=>?_
    refine Zh he (fun he=>?_) fun he=>?_
    ·refine Zi he fun r3_ he=>?_
     refine Zg he fun he=>?_
     refine Zg he fun he=>?_
     exact ZLu
    ·refine Zh he (fun he=>?_) fun he=>?_
     ·exact Zt [(4,[]),(5,[])] (Zj he :) (Za [(900,50)])
     ·refine Zg he fun he=>?_
      refine Zg he fun he=>?_
      exact⟨_,(Zj he :),(Za [(10000000,10002000),(10000001,54)])⟩
   ·exact Zzj
 ·exact Zt [(4,[]),(5,[])] (Zj he :) (Za [(900,19)])
def ZlU:Con:=fun
  |[.agg [.imm (.int .i64) a0_0,.imm (.pair (.int .i64) (.pair (.sl (.int .i64)) (.pair (.sl (.int .i64)) (.pair (.int .i64) (.sl (.sl (.int .i64))))))) a0_1],.c (.imm (.int .i64) a1),.c (.int .i64 a2)],[]=>.opt _ (ZgW (a0_0,a0_1) a1 a2) (fun r=>.ret (.tup [.c (.int .i64 r.1),.c (.own 900 false),.c (.own 901 false)]) [(900,.sl 3 y0_ r.2.1 .shallow),(901,.sl 96 Zb7 r.2.2 (.deep true .no))])
  |_,_=>.fail
def Zn6:Sched:=.alt 11 (.first 12 .done) .stop
def Zjk:Sched:=.alt 6 (ZB [7,8,9] Zn6) .stop
def Zn7:Sched:=.alt 6 (ZB [7,8,9] (.alt 10 Zn6 .stop)) (.alt 10 Zjk .stop)
def Zn8:Sched:=.alt 4 (.first 5 Zjk) .stop
def Zn9:Sched:=.alt 0 Zjk .stop
def Zxr:Cfg:={ y:=tys,n:=99,h:=0,tab:=[(62,ZmI),(63,Zng),(64,ZiI),(65,ZqD),(66,ZlV),(67,ZlS)],cut:=[8,9,14],deep:=[45,78],sched:=[(7,(ZB [1,2,3] (.alt 0 (.alt 4 (.first 5 Zn7) (.alt 10 Zn8 .stop)) (.alt 4 (.first 5 (.alt 0 Zn7 (.alt 10 Zn9 .stop))) (.alt 10 (.alt 0 Zn8 (.alt 4 (.first 5 Zn9) .stop)) .stop)))))],frz:=[49] }
theorem ZvJ {P:Prop} (h:P:=by
  exact Zt [(6,[]),(7,[]),(8,[])] (Zj he :) (Za [(900,44),(901,45)])):P:=h
theorem ZIY {P:Prop} (h:P:=by
  refine Y4 ?_
  exact⟨_,he,(Za [(10004000,10000000),(10004001,10000001),(10004002,49),(10004003,13),(10004004,61901)])⟩):P:=h
theorem ZzC {P:Prop} (h:P:=by
  refine Y4 ?_
  refine⟨r10_,hq3,?_⟩
  exact ZIY):P:=h
theorem ZIZ {P:Prop} (h:P:=by
  refine Y5 ?_ ?_
  ·skip
   refine⟨r10_,hq3,?_⟩
   refine Y4 ?_
   exact ZIY
  ·skip
   exact ZzC):P:=h
theorem ZI0 {P:Prop} (h:P:=by
  skip
  refine Y4 ?_
  refine⟨r9_,hq1,?_⟩
  refine And.intro hq2 ?_
  exact ZzC):P:=h
theorem ZxG:Zn Tryz.prog 13 ZlU:=by
 refine Zq (C:=Zxr) Tryz.f13 (Zk Zys (Zk Zvm (Zk Zt9 (Zk ZC6 (Zk ZxH (Zk ZxE Zr)))))) fun _ a b k he=>?_
 unfold ZlU at he;split at he;rotate_left;exact he.elim
 rename_i a0_0 a0_1 a1 a2
 refine Zs he fun he=>?_
 refine Zi he fun r1_ he=>?_
 refine ZD he (fun he=>?_) fun he=>?_
 ·refine Zi he fun r2_ he=>?_
  refine ZD he (fun he=>?_) fun he=>?_
  ·refine ZD he (fun he=>?_) fun he=>?_
   ·refine ZD he (fun he=>?_) fun he=>?_
    ·refine Zh he (fun he=>?_) fun he=>?_
     ·exact ZvJ
     ·refine Zp (Zcs (a0_0,a0_1) a1 a2 r1_) (fun i1=>(Zm [(1,.c (.imm y0_ a1)),(2,.c (.int .i64 a2)),(3,.c (.ptr 10000000 0)),(9,.c (.imm y7_ r1_.2)),(11,.c (.own 10000001 false))],[(10000000,.rc [.imm y0_ (a0_0,a0_1).1,.imm y5_ (a0_0,a0_1).2]),(10000001,.sl 3 y0_ i1 .shallow)])) he ((Zgf [21900]).trans (Za [(10000000,3),(10000001,46)] (l:=[(1,.c (.imm y0_ a1)),(2,.c (.int .i64 a2)),(3,.c (.ptr 10000000 0)),(9,.c (.imm y7_ r1_.2)),(11,.c (.own 10000001 false))]) (st':=[(10000000,.rc [.imm y0_ (a0_0,a0_1).1,.imm y5_ (a0_0,a0_1).2]),(10000001,.sl 3 y0_ ([]:List Int) .shallow)]))) ?_
      rintro i1 _ he
      refine Zg he fun he=>?_
      refine ZN (ZcY (a0_0,a0_1) a2 i1) (fun i2=>(Zm [(1,.c (.imm y0_ a1)),(2,.c (.int .i64 a2)),(3,.c (.ptr 10005000 0)),(9,.c (.imm y7_ r1_.2)),(11,.c (.own 10005001 false)),(12,.c (.own 10005002 false))],[(10005000,.rc [.imm y0_ (a0_0,a0_1).1,.imm y5_ (a0_0,a0_1).2]),(10005001,.sl 3 y0_ i1 .shallow),(10005002,.sl 89 y7_ i2 .shallow)])) he ?_ ?_
      ·rintro i2 he
       refine Zi he fun r11_ he=>?_
       refine Zh he (fun he=>?_) fun he=>?_
       ·exact Zt [(6,[]),(7,[]),(8,[])] (Zj he :) (Za [(900,10005001),(901,78)])
       ·refine ZN (Zer (a0_0,a0_1) i1 r11_) (fun _=>(Zm [(1,.c (.imm y0_ a1)),(2,.c (.int .i64 a2)),(3,.c (.ptr 10006000 0)),(9,.c (.imm y7_ r1_.2)),(11,.c (.own 10006001 false)),(15,.c (.int .i64 r11_.1)),(16,.c (.own 10006002 false)),(17,.c (.own 10006003 false))],[(10006000,.rc [.imm y0_ (a0_0,a0_1).1,.imm y5_ (a0_0,a0_1).2]),(10006001,.sl 3 y0_ i1 .shallow),(10006002,.sl 4 .bool r11_.2.1 .shallow),(10006003,.sl 96 Zb7 r11_.2.2 (.deep true .no))])) he ?_ ?_
        ·rintro⟨⟩ he
         refine Zh he (fun he=>?_) fun he=>?_
         ·exact Zt [(6,[]),(7,[]),(8,[])] (Zj he :) (Za [(900,10006001),(901,10006003)])
         ·refine Zi he fun r12_ he=>?_
          exact⟨_,(Zj he :),(Za [(10000000,10006000),(10000001,97900)])⟩
        ·skip
         refine Zh he (fun he=>?_) fun he=>?_
         ·refine Zh he (fun he=>?_) fun he=>?_
          ·exact Zt [(6,[]),(7,[]),(8,[])] (Zj he :) (Za [(900,10005001),(901,71901)])
          ·exact⟨_,he,(Za [(10006000,10005000),(10006001,10005001),(10006002,71900),(10006003,71901)])⟩
         ·exact⟨_,he,(Za [(10006000,10005000),(10006001,10005001),(10006002,71900),(10006003,71901)])⟩
      ·skip
       refine Zh he (fun he=>?_) fun he=>?_
       ·refine ZN (Zk9 (a0_0,a0_1) a2 r1_ i1) (fun (i_11,i_01)=>(Zm [(1,.c (.imm y0_ a1)),(2,.c (.int .i64 a2)),(3,.c (.ptr 10004000 0)),(9,.c (.imm y7_ r1_.2)),(11,.c (.own 10004001 false)),(12,.c (.own 10004002 false)),(13,.c (.ptr 10004003 0))],[(10004000,.rc [.imm y0_ (a0_0,a0_1).1,.imm y5_ (a0_0,a0_1).2]),(10004001,.sl 3 y0_ i1 .shallow),(10004002,.sl 89 y7_ (([]:List D7_)++r1_.2) .shallow),(10004003,.rc [.own 10004004 false,.int .i64 i_11]),(10004004,.sl 155 y6_ i_01 .shallow)])) he ?_ ?_
        ·rintro⟨i_11,i_01⟩ he
         refine Zg he fun he=>?_
         exact⟨_,he,(Za [(10005000,10004000),(10005001,10004001),(10005002,66)])⟩
        ·skip
         refine And.intro (by kernel_rfl) ?_
         obtain⟨r9_,hq1,he⟩:=ZX he
         obtain⟨hq2,he⟩:=ZP he
         obtain⟨r10_,hq3,he⟩:=ZX he
         refine And.intro ?_ (And.intro ?_ (And.intro ?_ (Y1)))
         ·skip
          refine Y5 ?_ ?_
          ·skip
           refine⟨r9_,hq1,?_⟩
           refine And.intro hq2 ?_
           exact ZIZ
          ·exact ZI0
         ·skip
          refine⟨r9_,hq1,?_⟩
          refine And.intro hq2 ?_
          refine Y5 ?_ ?_
          ·skip
           exact ZIZ
          ·skip
           refine Y4 ?_
           exact ZzC
         ·skip
          refine Y5 ?_ ?_
          ·exact ZI0
          ·skip
           refine⟨r9_,hq1,?_⟩
           refine And.intro hq2 ?_
           refine Y4 ?_
           exact ZzC
       ·exact⟨_,he,(Za [(10005000,10000000),(10005001,10000001),(10005002,49)])⟩
    ·exact ZvJ
   ·exact ZvJ
  ·exact ZvJ
 ·exact ZvJ
def ZrZ:Con:=fun
  |[.c (.imm (.int .i64) a),.c (.imm (.int .i64) b)],[]=>.opt _ (Zhw a b) (fun r=>.ret (.c (.bool r)) [])
  |_,_=>.fail
def ZEx:Cfg:={ y:=tys,n:=26,h:=0,tab:=[] }
theorem ZEN:Zn Tryz.prog 14 ZrZ:=by
 refine Zq (C:=ZEx) Tryz.f14 Zr fun _ a b k he=>?_
 unfold ZrZ at he;split at he;rotate_left;exact he.elim
 rename_i a b
 refine Zs he fun he=>?_
 refine Zh he (fun he=>?_) fun he=>?_
 ·exact Z5
 ·refine Zp (Znq a b) (fun i=>(Zm [(0,.c (.imm y0_ a)),(1,.c (.imm y0_ b)),(5,.c (.int .i64 i))],[])) he (Za []) ?_
  exact ZCt
def ZhM:Con:=fun
  |[.c (.imm (.pair (.int .i64) (.int .i64)) s1_),.c (.imm (.pair (.int .i64) (.int .i64)) s2_)],[]=>.opt _ (ZdR s1_ s2_) (fun r=>.ret (.c (.bool r)) [])
  |_,_=>.fail
def Zs7:Cfg:={ y:=tys,n:=26,h:=0,tab:=[] }
theorem Ztw:Zn Tryz.prog 137 ZhM:=by
 refine Zq (C:=Zs7) Tryz.f137 Zr fun _ a b k he=>?_
 unfold ZhM at he;split at he;rotate_left;exact he.elim
 rename_i s1_ s2_
 refine Zs he fun he=>?_
 refine Zh he (fun he=>?_) fun he=>?_
 ·exact Z5
 ·refine Zp (Zd1 s1_ s2_) (fun i=>(Zm [(0,.c (.imm y6_ s1_)),(1,.c (.imm y6_ s2_)),(12,.c (.int .i64 (s1_.length:Int))),(13,.c (.int .i64 i))],[])) he (Za []) ?_
  exact ZCt
def Zgl:Con:=fun
  |[.agg [.imm (.pair (.int .i64) (.int .i64)) a_0,.int .i64 a_1],.agg [.imm (.pair (.int .i64) (.int .i64)) b_0,.int .i64 b_1]],[]=>.opt _ (Zbc (a_0,a_1) (b_0,b_1)) (fun r=>.ret (.c (.bool r)) [])
  |_,_=>.fail
def ZuZ:Cfg:={ y:=tys,n:=17,h:=0,tab:=[(137,ZhM)] }
theorem Zpr:Zn Tryz.prog 70 Zgl:=by
 refine Zq (C:=ZuZ) Tryz.f70 (Zk Ztw Zr) fun _ a b k he=>?_
 unfold Zgl at he;split at he;rotate_left;exact he.elim
 rename_i a_0 a_1 b_0 b_1
 refine Zs he fun he=>?_
 refine Zh he (fun he=>?_) fun he=>?_
 ·exact ZCu
 ·exact Zbd
def ZmB:Con:=fun
  |[.agg [.int .i64 s__0,.int .i64 s__1,.int .i64 s__2,.imm (.pair (.int .i64) (.int .i64)) s__3,.int .i64 s__4],.agg [.int .i64 t__0,.int .i64 t__1,.int .i64 t__2,.imm (.pair (.int .i64) (.int .i64)) t__3,.int .i64 t__4]],[]=>.opt _ (ZkU (s__0,(s__1,(s__2,(s__3,s__4)))) (t__0,(t__1,(t__2,(t__3,t__4))))) (fun r=>.ret (.c (.bool r)) [])
  |_,_=>.fail
def ZxL:Cfg:={ y:=tys,n:=31,h:=0,tab:=[(70,Zgl)] }
theorem ZNm {P:Prop} (h:P:=by
  refine Zh he (fun he=>?_) fun he=>?_
  ·exact ZCu
  ·exact Zbd):P:=h
theorem Zyk:Zn Tryz.prog 69 ZmB:=by
 refine Zq (C:=ZxL) Tryz.f69 (Zk Zpr Zr) fun _ a b k he=>?_
 unfold ZmB at he;split at he;rotate_left;exact he.elim
 rename_i s__0 s__1 s__2 s__3 s__4 t__0 t__1 t__2 t__3 t__4
 refine Zs he fun he=>?_
 refine Zh he (fun he=>?_) fun he=>?_
 ·refine Zh he (fun he=>?_) fun he=>?_
  ·exact ZNm
  ·exact Zbd
 ·exact Zbd
end
end Go.AE.Y
