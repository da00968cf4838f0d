/-
  Walks: each function keeps the contract that its model gives. No conditions.
-/
import Derived.Test.YtaeeiddjpigemaaGreatR8Tab
import Derived.Test.YtaeeiddjpigemaaGreatR8W5
import Derived.Test.YtaeeiddjpigemaaGreatR8S
namespace Go.AE.Y
open Go Go.AE Go.Proofs
set_option linter.unusedVariables false
set_option maxHeartbeats 2000000
set_option maxRecDepth 100000
noncomputable section
def ZpU:Con:=fun
  |[.c (.imm (.int .i64) coefs),.c (.imm (.int .i64) cells)],[]=>.opt _ (Zpt coefs cells) (fun r=>.ret (.c (.int .i64 r)) [])
  |_,_=>.fail
def ZBO:Cfg:={ y:=tys,n:=25,h:=0,tab:=[] }
theorem ZCa:Zn Tryz.prog 65 ZpU:=by
 refine Zp (C:=ZBO) Tryz.f65 Zq fun _ a b k he=>?_
 unfold ZpU at he;split at he;rotate_left;exact he.elim
 rename_i coefs cells
 refine Zs he fun he=>?_
 refine Zo (Zpu coefs cells) (fun (n,i)=>(Zm [(0,.c (.imm y0_ coefs)),(1,.c (.imm y0_ cells)),(5,.c (.int .i64 n)),(6,.c (.int .i64 i))],[])) he (Za []) ?_
 rintro⟨n,i⟩ _ he
 refine Zh he (fun he=>?_) fun he=>?_
 ·refine And.intro (by kernel_rfl) ?_
  exact Zyo
 ·exact Z5
def Zij:Con:=fun
  |[.agg [.imm (.int .i64) m_0,.imm (.pair (.int .i64) (.pair (.sl (.int .i64)) (.pair (.sl (.int .i64)) (.pair (.int .i64) (.sl (.sl (.int .i64))))))) m_1],.c (.imm (.int .i64) coefs),.c (.int .i64 most)],[]=>.opt _ (Zgf (m_0,m_1) coefs most) (fun r=>.ret (.tup [.agg [.own 901 false,.int .i64 r.2.1],.c (.bool r.1)]) [(900,.rc [.own 901 false,.int .i64 r.2.1]),(901,.sl 155 y6_ r.2.2 .shallow)])
  |_,_=>.fail
def Ztp:Cfg:={ y:=tys,n:=59,h:=0,tab:=[(63,ZmE),(133,ZfV),(134,ZlF)],cut:=[11],sched:=[(10,(ZF [0,2,3,5,6,7,8,9,10,11] (.alt 1 (.alt 4 (.first 12 (.alt 13 .done .stop)) .stop) .stop)))] }
theorem Zty:Zn Tryz.prog 64 Zij:=by
 refine Zp (C:=Ztp) Tryz.f64 (Zk ZuC (Zk ZjP (Zk ZtS Zq))) fun _ a b k he=>?_
 unfold Zij at he;split at he;rotate_left;exact he.elim
 rename_i m_0 m_1 coefs most
 refine Zs he fun he=>?_
 refine Zi he fun r1_ he=>?_
 refine ZI he (fun he=>?_) fun he=>?_
 ·refine ZI he (fun he=>?_) fun he=>?_
  ·refine Zh he (fun he=>?_) fun he=>?_
   ·exact Zu2
   ·refine Zg he fun he=>?_
    refine ZL (ZhB most) (fun net3=>(Zm [(2,.c (.int .i64 most)),(6,.c (.ptr 10003000 0)),(8,.c (.own 10003001 false))],[(10003000,.rc [.nil,.int .i64 (0:Int)]),(10003001,.sl 3 y0_ net3 .shallow)])) he ?_ ?_
    ·rintro net3 he
     refine Zg he fun he=>?_
     refine Zi he fun r7_ he=>?_
     exact Zv [(6,[900]),(7,[])] (Zj he :) (Za [(900,10003000),(901,57901)])
    ·skip
     refine Zo (Ze4 (m_0,m_1) coefs most) (fun (i,net1)=>(Zm [(1,.c (.imm y0_ coefs)),(2,.c (.int .i64 most)),(3,.c (.ptr 10000000 0)),(6,.c (.ptr 10000001 0)),(8,.c (.own 10000002 false)),(9,.c (.int .i64 i))],[(10000000,.rc [.imm y0_ (m_0,m_1).1,.imm y5_ (m_0,m_1).2]),(10000001,.rc [.nil,.int .i64 (0:Int)]),(10000002,.sl 3 y0_ net1 .shallow)])) he (Za [(10000000,3),(10000001,6),(10000002,24)]) ?_
     rintro⟨i,net1⟩ _ he
     refine Zh he (fun he=>?_) fun he=>?_
     ·refine Zo (Ze5 (m_0,m_1) coefs i) (fun (k_1,net2)=>(Zm [(1,.c (.imm y0_ coefs)),(2,.c (.int .i64 most)),(3,.c (.ptr 10002000 0)),(6,.c (.ptr 10002001 0)),(8,.c (.own 10002002 false)),(9,.c (.int .i64 i)),(10,.c (.int .i64 k_1))],[(10002000,.rc [.imm y0_ (m_0,m_1).1,.imm y5_ (m_0,m_1).2]),(10002001,.rc [.nil,.int .i64 (0:Int)]),(10002002,.sl 3 y0_ net2 .shallow)])) he (Za [(10002000,10000000),(10002001,10000001),(10002002,10000002)]) ?_
      rintro⟨k_1,net2⟩ _ he
      refine Zg he fun he=>?_
      refine Zh he (fun he=>?_) fun he=>?_
      ·refine And.intro (by kernel_rfl) ?_
       refine Zg he fun he=>?_
       refine Zg he fun he=>?_
       refine Zg he fun he=>?_
       refine Y4 ?_
       refine Y4 ?_
       refine Zi he fun r6_ he=>?_
       refine Zg he fun he=>?_
       exact ZnE
      ·refine Zg he fun he=>?_
       exact⟨_,(Zj he :),(Za [(10000000,10002000),(10000001,10002001),(10000002,10002002)])⟩
     ·exact⟨_,(Zbh he :),(Za [(10003000,10000001),(10003001,10000002)])⟩
  ·exact Zu2
 ·exact Zu2
def Zln:Con:=fun
  |[.c (.imm (.pair (.sl (.pair (.int .i64) (.int .i64))) (.int .i64)) list_)],[]=>.opt _ (Zjn list_) (fun r=>.ret (.c (.bool r)) [])
  |_,_=>.fail
def Zwy:Cfg:={ y:=tys,n:=19,h:=0,tab:=[(168,ZfH)] }
theorem ZwM:Zn Tryz.prog 109 Zln:=by
 refine Zp (C:=Zwy) Tryz.f109 (Zk Znz Zq) fun _ a b k he=>?_
 unfold Zln at he;split at he;rotate_left;exact he.elim
 rename_i list_
 refine Zs he fun he=>?_
 refine Zo (Zg2 list_) (fun i=>(Zm [(0,.c (.imm y7_ list_)),(3,.c (.int .i64 i))],[])) he (Za []) ?_
 exact Zym
def ZiB:Con:=fun
  |[.c (.own 0 false),.c (.int .i64 lit)],[(0,.sl 3 (.int .i64) p .shallow)]=>.opt _ (Zgs lit p) (fun r=>.ret (.tup []) [(0,.sl 3 y0_ r .shallow)])
  |_,_=>.fail
def ZAi:Cfg:={ y:=tys,n:=15,h:=1,tab:=[] }
theorem Zpj:Zn Tryz.prog 194 ZiB:=by
 refine Zp (C:=ZAi) Tryz.f194 Zq fun _ a b k he=>?_
 unfold ZiB at he;split at he;rotate_left;exact he.elim
 rename_i lit p
 refine Zs he fun he=>?_
 refine Zh he (fun he=>?_) fun he=>?_
 ·refine Zg he fun he=>?_
  refine Zg he fun he=>?_
  exact Zv [] (Zj he :) (Za [] (l:=[]) (st':=[(0,.sl 3 y0_ (p.set (lit - (1:Int)).toNat (1:Int)) .shallow)]))
 ·refine Zg he fun he=>?_
  refine Zg he fun he=>?_
  refine Zg he fun he=>?_
  exact Zv [] (Zj he :) (Za [] (l:=[]) (st':=[(0,.sl 3 y0_ (p.set ((0 - lit) - (1:Int)).toNat (-1:Int)) .shallow)]))
def ZmD:Con:=fun
  |[.c (.imm (.int .i64) p),.c (.int .i64 lit)],[]=>.opt _ (Zmy p lit) (fun r=>.ret (.c (.int .i64 r)) [])
  |_,_=>.fail
def ZBJ:Cfg:={ y:=tys,n:=19,h:=0,tab:=[] }
theorem ZuB:Zn Tryz.prog 288 ZmD:=by
 refine Zp (C:=ZBJ) Tryz.f288 Zq fun _ a b k he=>?_
 unfold ZmD at he;split at he;rotate_left;exact he.elim
 rename_i p lit
 refine Zs he fun he=>?_
 refine Zh he (fun he=>?_) fun he=>?_
 ·exact ZGc
 ·exact ZKf
def ZmC:Con:=fun
  |[.agg [.imm (.pair (.int .i64) (.int .i64)) c__0,.int .i64 c__1],.c (.imm (.int .i64) p)],[]=>.opt _ (Zmx (c__0,c__1) p) (fun r=>.ret (.c (.int .i64 r)) [])
  |_,_=>.fail
def ZBI:Cfg:={ y:=tys,n:=35,h:=0,tab:=[(288,ZmD)] }
theorem ZuA:Zn Tryz.prog 248 ZmC:=by
 refine Zp (C:=ZBI) Tryz.f248 (Zk ZuB Zq) fun _ a b k he=>?_
 unfold ZmC at he;split at he;rotate_left;exact he.elim
 rename_i c__0 c__1 p
 refine Zs he fun he=>?_
 refine Zg he fun he=>?_
 refine Zo (ZlL (c__0,c__1) p) (fun (n,i)=>(Zm [(1,.c (.imm y0_ p)),(2,.c (.ptr 10000000 0)),(5,.c (.int .i64 n)),(6,.c (.int .i64 i))],[(10000000,.rc [.imm y6_ (c__0,c__1).1,.int .i64 (c__0,c__1).2])])) he (Za [(10000000,2)]) ?_
 rintro⟨n,i⟩ _ he
 refine Zh he (fun he=>?_) fun he=>?_
 ·refine Zg he fun he=>?_
  refine Zi he fun r1_ he=>?_
  refine Zh he (fun he=>?_) fun he=>?_
  ·exact ZuU
  ·exact Zdy
 ·exact Zbg
def Zn3:Con:=fun
  |[.agg [.imm (.pair (.int .i64) (.int .i64)) c__0,.int .i64 c__1],.c (.imm (.int .i64) p)],[]=>.opt _ (Zhg (c__0,c__1) p) (fun r=>.ret (.c (.own 900 false)) [(900,.sl 3 y0_ r .shallow)])
  |_,_=>.fail
def Zzw:Cfg:={ y:=tys,n:=52,h:=0,tab:=[(248,ZmC),(288,ZmD)] }
theorem ZzJ:Zn Tryz.prog 249 Zn3:=by
 refine Zp (C:=Zzw) Tryz.f249 (Zk ZuA (Zk ZuB Zq)) fun _ a b k he=>?_
 unfold Zn3 at he;split at he;rotate_left;exact he.elim
 rename_i c__0 c__1 p
 refine Zs he fun he=>?_
 refine Zi he fun r1_ he=>?_
 refine Zo (ZgF (c__0,c__1) p r1_) (fun (i,out)=>(Zm [(1,.c (.imm y0_ p)),(2,.c (.ptr 10000000 0)),(5,.c (.own 10000001 false)),(6,.c (.int .i64 r1_)),(7,.c (.int .i64 i))],[(10000000,.rc [.imm y6_ (c__0,c__1).1,.int .i64 (c__0,c__1).2]),(10000001,.sl 3 y0_ out .shallow)])) he (Za [(10000000,2),(10000001,8)]) ?_
 rintro⟨i,out⟩ _ he
 refine Zh he (fun he=>?_) fun he=>?_
 ·refine Zh he (fun he=>?_) fun he=>?_
  ·refine Zg he fun he=>?_
   refine Zi he fun r3_ he=>?_
   refine Zh he (fun he=>?_) fun he=>?_
   ·refine Zg he fun he=>?_
    refine Zh he (fun he=>?_) fun he=>?_
    ·refine Zg he fun he=>?_
     refine Zg he fun he=>?_
     refine Zg he fun he=>?_
     exact⟨_,(Zj he :),(Za [(10000001,50)])⟩
    ·exact Zdy
   ·exact Zdy
  ·exact Zv [(4,[])] (Zj he :) (Za [(900,10000001)])
 ·exact Zv [(4,[])] (Zj he :) (Za [(900,10000001)])
def ZiC:Con:=fun
  |[.c (.imm (.pair (.sl (.pair (.int .i64) (.int .i64))) (.int .i64)) list_),.c (.own 0 false)],[(0,.sl 3 (.int .i64) p .shallow)]=>.opt _ (ZeC list_ p) (fun r=>.ret (.c (.int .i64 r.1)) [(0,.sl 3 y0_ r.2 .shallow)])
  |_,_=>.fail
def Zw2:Cfg:={ y:=tys,n:=42,h:=1,tab:=[(194,ZiB),(248,ZmC),(249,Zn3)],hand:=[(194,[0])] }
theorem Zq5:Zn Tryz.prog 195 ZiC:=by
 refine Zp (C:=Zw2) Tryz.f195 (Zk Zpj (Zk ZuA (Zk ZzJ Zq))) fun _ a b k he=>?_
 unfold ZiC at he;split at he;rotate_left;exact he.elim
 rename_i list_ p
 refine Zs he fun he=>?_
 refine Zo (Zfp list_) (fun (changed,p4)=>(Zm [(0,.c (.imm y7_ list_)),(1,.c (.own 0 false)),(5,.c (.bool changed))],[(0,.sl 3 y0_ p4 .shallow)])) he (Za []) ?_
 rintro⟨changed,p4⟩ _ he
 refine Zh he (fun he=>?_) fun he=>?_
 ·refine Zo (ZdO list_) (fun (changed4,i1,p6)=>(Zm [(0,.c (.imm y7_ list_)),(1,.c (.own 0 false)),(5,.c (.bool changed4)),(6,.c (.int .i64 i1))],[(0,.sl 3 y0_ p6 .shallow)])) he (Za []) ?_
  rintro⟨changed4,i1,p6⟩ _ he
  refine Zh he (fun he=>?_) fun he=>?_
  ·refine Zg he fun he=>?_
   refine Zi he fun r13_ he=>?_
   refine Zh he (fun he=>?_) fun he=>?_
   ·exact Zbg
   ·refine Zg he fun he=>?_
    refine Zi he fun r14_ he=>?_
    refine Zo (ZdP i1 r14_) (fun (changed6,k_3,p7)=>(Zm [(0,.c (.imm y7_ list_)),(1,.c (.own 0 false)),(5,.c (.bool changed6)),(6,.c (.int .i64 i1)),(7,.c (.own 10006000 false)),(8,.c (.int .i64 k_3))],[(0,.sl 3 y0_ p7 .shallow),(10006000,.sl 3 y0_ r14_ .shallow)])) he (Za [(10006000,30900)]) ?_
    rintro⟨changed6,k_3,p7⟩ _ he
    refine Zh he (fun he=>?_) fun he=>?_
    ·refine Zg he fun he=>?_
     refine Zi he fun r16_ he=>?_
     exact Zdy
    ·exact Zdy
  ·exact⟨_,(Zj he :),(Za [])⟩
 ·exact Zbg
def ZiD:Con:=fun
  |[.agg [.own 0 false,.own 1 false,.int .i64 s_2],.c (.imm (.int .i64) decisions)],[(0,.sl 89 (.pair (.sl (.pair (.int .i64) (.int .i64))) (.int .i64)) o0 .shallow),(1,.sl 96 (.pair (.int .i64) (.pair (.int .i64) (.pair (.int .i64) (.pair (.sl (.pair (.int .i64) (.int .i64))) (.int .i64))))) o1 .shallow)]=>.opt _ (Zdv s_2 decisions o0 o1) (fun r=>.ret (.agg [.own 901 false,.own 902 false,.int .i64 r.1]) [(0,.dead),(1,.dead),(900,.rc [.own 901 false,.own 902 false,.int .i64 r.1]),(901,.sl 89 y7_ r.2.1 .shallow),(902,.sl 96 Zcb r.2.2 .shallow)])
  |_,_=>.fail
def Zw3:Cfg:={ y:=tys,n:=43,h:=2,tab:=[(189,ZiA)],cut:=[6] }
theorem Zq6:Zn Tryz.prog 196 ZiD:=by
 refine Zp (C:=Zw3) Tryz.f196 (Zk Zpi Zq) fun _ a b k he=>?_
 unfold ZiD at he;split at he;rotate_left;exact he.elim
 rename_i s_2 decisions o0 o1
 refine Zs he fun he=>?_
 refine ZL (ZhY s_2 o0 o1) (fun lits1=>(Zm [(2,.c (.ptr 10001000 0)),(4,.c (.ptr 10001001 0)),(5,.c (.own 10001002 false))],[(0,.sl 89 y7_ o0 .shallow),(1,.sl 96 Zcb o1 .shallow),(10001000,.rc [.own 0 false,.own 1 false,.int .i64 s_2]),(10001001,.rc [.nil,.nil,.int .i64 (0:Int)]),(10001002,.sl 3 y0_ lits1 .shallow)])) he ?_ ?_
 ·rintro lits1 he
  refine Zi he fun r1_ he=>?_
  refine Zg he fun he=>?_
  refine Zg he fun he=>?_
  exact Zv [(4,[900])] (Zj he :) (Za [(900,10001001),(901,33),(902,40)])
 ·skip
  refine Zo (Zc2 s_2 decisions o0 o1) (fun (i,lits)=>(Zm [(1,.c (.imm y0_ decisions)),(2,.c (.ptr 10000000 0)),(4,.c (.ptr 10000001 0)),(5,.c (.own 10000002 false)),(6,.c (.int .i64 i))],[(0,.sl 89 y7_ o0 .shallow),(1,.sl 96 Zcb o1 .shallow),(10000000,.rc [.own 0 false,.own 1 false,.int .i64 s_2]),(10000001,.rc [.nil,.nil,.int .i64 (0:Int)]),(10000002,.sl 3 y0_ lits .shallow)])) he (Za [(10000000,2),(10000001,4),(10000002,9)]) ?_
  rintro⟨i,lits⟩ _ he
  refine Zh he (fun he=>?_) fun he=>?_
  ·refine Zg he fun he=>?_
   refine Zg he fun he=>?_
   refine Zg he fun he=>?_
   refine Zg he fun he=>?_
   exact⟨_,(Zj he :),(Za [(10000002,23)])⟩
  ·exact⟨_,(Zbh he :),(Za [(10001000,10000000),(10001001,10000001),(10001002,10000002)])⟩
def ZnI:Con:=fun
  |[.c (.imm (.int .i64) p)],[]=>.opt _ (Zi1 p) (fun r=>.ret (.c (.int .i64 r)) [])
  |_,_=>.fail
def ZDv:Cfg:={ y:=tys,n:=17,h:=0,tab:=[] }
theorem Zwh:Zn Tryz.prog 197 ZnI:=by
 refine Zp (C:=ZDv) Tryz.f197 Zq fun _ a b k he=>?_
 unfold ZnI at he;split at he;rotate_left;exact he.elim
 rename_i p
 refine Zs he fun he=>?_
 refine Zo (ZjT p) (fun i=>(Zm [(0,.c (.imm y0_ p)),(3,.c (.int .i64 i))],[])) he (Za []) ?_
 rintro i _ he
 refine Zh he (fun he=>?_) fun he=>?_
 ·refine Zg he fun he=>?_
  refine Zh he (fun he=>?_) fun he=>?_
  ·exact ZBu
  ·exact Zdy
 ·exact Z5
def ZdL (n_:Nat):Con:=fun
  |[.agg [.own 0 false,.own 1 false,.int .i64 a0_2],.c (.imm (.int .i64) a1)],[(0,.sl 89 (.pair (.sl (.pair (.int .i64) (.int .i64))) (.int .i64)) o0 .shallow),(1,.sl 96 (.pair (.int .i64) (.pair (.int .i64) (.pair (.int .i64) (.pair (.sl (.pair (.int .i64) (.int .i64))) (.int .i64))))) o1 .shallow)]=>.opt _ (Z7 n_ a0_2 a1 o0 o1) (fun r=>.ret (.tup [.agg [.own 902 false,.own 903 false,.int .i64 r.2.1],.c (.int .i64 r.1),.c (.own 901 false)]) [(0,.dead),(1,.dead),(900,.rc [.own 902 false,.own 903 false,.int .i64 r.2.1]),(901,.sl 4 .bool r.2.2.1 .shallow),(902,.sl 89 y7_ r.2.2.2.1 .shallow),(903,.sl 96 Zcb r.2.2.2.2 .shallow)])
  |_,_=>.fail
def Znn:Sched:=.alt 7 (ZF [8,9,10,11] (.alt 12 (ZF [13,14] .done) .stop)) .stop
def ZiV:Sched:=.alt 6 Znn .stop
def Zno:Sched:=.alt 5 ZiV .stop
def ZiW:Sched:=.alt 3 ZiV .stop
def Znp:Sched:=.alt 3 Zno (.alt 5 ZiW .stop)
def Znq:Sched:=.alt 1 ZiW .stop
def Znr:Sched:=.alt 0 ZiV (.alt 6 (.alt 0 Znn .stop) .stop)
def Zns:Sched:=.alt 0 ZiW (.alt 3 Znr .stop)
def ZwB (n_:Nat):Cfg:={ y:=tys,n:=112,h:=2,tab:=[(135,ZdL n_),(194,ZiB),(195,ZiC),(196,ZiD),(197,ZnI)],cut:=[9,18,25,28],hand:=[(135,[0]),(194,[0]),(195,[1]),(196,[0])],sched:=[(24,(ZF [2,4] (.alt 0 (.alt 1 Znp (.alt 5 Znq .stop)) (.alt 1 (.alt 0 Znp (.alt 3 (.alt 0 Zno (.alt 5 Znr .stop)) (.alt 5 Zns .stop))) (.alt 5 (.alt 0 Znq (.alt 1 Zns .stop)) .stop)))))],nils:=[135,196] }
theorem ZHK {P:Prop} (h:P:=by
  exact Zv [(4,[900]),(5,[]),(6,[])] (Zj he :) (Za [(900,4),(901,26),(902,0),(903,1)])):P:=h
theorem ZHL {P:Prop} (h:P:=by
  refine Zi he fun r4_ he=>?_
  exact Zv [(4,[900]),(5,[]),(6,[])] (Zj he :) (Za [(900,10001001),(901,52),(902,52901),(903,52902)])):P:=h
theorem ZHM {P:Prop} (h:P:=by
  refine Zg he fun he=>?_
  refine Zg he fun he=>?_
  refine Zg he fun he=>?_
  exact⟨_,(Zj he :),(Za [(10002003,71)])⟩):P:=h
theorem ZHN {P:Prop} (h:P:=by
  rintro⟨i_23,i_03,i_13⟩ he
  refine Zh he (fun he=>?_) fun he=>?_
  ·exact Zv [(4,[900]),(5,[]),(6,[])] (Zj he :) (Za [(900,10007001),(901,107),(902,10007002),(903,10007003)])
  ·refine Zi he fun r9_ he=>?_
   exact Zv [(4,[900]),(5,[]),(6,[])] (Zj he :) (Za [(900,10007001),(901,111),(902,111901),(903,111902)])):P:=h
theorem ZHO {P:Prop} (h:P:=by
  refine Y4 ?_
  refine⟨r8_,hq3,?_⟩
  refine Y4 ?_
  exact⟨_,he,(Za [(10006000,10004000),(10006001,10004001),(10006002,93901),(10006003,10004002),(10006004,93902),(10006005,93903)])⟩):P:=h
theorem Zsi {P:Prop} (h:P:=by
  refine Y4 ?_
  refine And.intro hq2 ?_
  exact ZHO):P:=h
theorem ZuW {P:Prop} (h:P:=by
  skip
  refine Y4 ?_
  refine And.intro hq1 ?_
  exact Zsi):P:=h
theorem ZyH {P:Prop} (h:P:=by
  skip
  refine Y5 ?_ ?_
  ·skip
   refine And.intro hq1 ?_
   refine Y4 ?_
   exact Zsi
  ·exact ZuW):P:=h
theorem ZyI {P:Prop} (h:P:=by
  skip
  refine Y4 ?_
  refine Y4 ?_
  refine And.intro hq1 ?_
  exact Zsi):P:=h
theorem Zsj {P:Prop} (h:P:=by
  refine Y5 ?_ ?_
  ·skip
   exact Zsi
  ·skip
   refine And.intro hq2 ?_
   refine Y4 ?_
   exact ZHO):P:=h
theorem ZHP {P:Prop} (h:P:=by
  refine Zg he fun he=>?_
  refine Zi he fun r2_ he=>?_
  exact Zdy):P:=h
theorem ZsV (n_:Nat) (ih:Zn Tryz.prog 135 (ZdL n_)):Zn Tryz.prog 135 (ZdL (n_+1)):=by
 refine Zp (C:=(ZwB n_)) Tryz.f135 (Zk ih (Zk Zpj (Zk Zq5 (Zk Zq6 (Zk Zwh Zq))))) fun _ a b k he=>?_
 unfold ZdL at he;split at he;rotate_left;exact he.elim
 rename_i a0_2 a1 o0 o1
 have he:Ok (Zbx (Z7 n_) a0_2 a1 o0 o1) (fun r=>k (.tup [.agg [.own 902 false,.own 903 false,.int .i64 r.2.1],.c (.int .i64 r.1),.c (.own 901 false)]) [(0,.dead),(1,.dead),(900,.rc [.own 902 false,.own 903 false,.int .i64 r.2.1]),(901,.sl 4 .bool r.2.2.1 .shallow),(902,.sl 89 y7_ r.2.2.2.1 .shallow),(903,.sl 96 Zcb r.2.2.2.2 .shallow)]):=he
 refine⟨rfl,rfl,?_⟩
 refine ZI he (fun he=>?_) fun he=>?_
 ·refine Zh he (fun he=>?_) fun he=>?_
  ·exact ZHK
  ·refine Zg he fun he=>?_
   refine Zg he fun he=>?_
   refine ZL (Zcn a0_2 a1 o0 o1 (Z7 n_)) (fun i2=>(Zm [(1,.c (.imm y0_ a1)),(2,.c (.ptr 10001000 0)),(4,.c (.ptr 10001001 0)),(7,.c (.own 10001002 false))],[(0,.sl 89 y7_ o0 .shallow),(1,.sl 96 Zcb o1 .shallow),(10001000,.rc [.own 0 false,.own 1 false,.int .i64 (a0_2 - (1:Int))]),(10001001,.rc [.nil,.nil,.int .i64 (0:Int)]),(10001002,.sl 3 y0_ i2 .shallow)])) he ?_ ?_
   ·rintro i2 he
    refine Zi he fun r3_ he=>?_
    refine Zh he (fun he=>?_) fun he=>?_
    ·exact ZHL
    ·refine Zi he fun r5_ he=>?_
     refine Zh he (fun he=>?_) fun he=>?_
     ·refine ZL (ZkK a0_2 o0 o1) (fun i5=>(Zm [(2,.c (.ptr 10003000 0)),(4,.c (.ptr 10003001 0)),(10,.c (.own 10003002 false))],[(0,.sl 89 y7_ o0 .shallow),(1,.sl 96 Zcb o1 .shallow),(10003000,.rc [.own 0 false,.own 1 false,.int .i64 (a0_2 - (1:Int))]),(10003001,.rc [.nil,.nil,.int .i64 (0:Int)]),(10003002,.sl 4 .bool i5 .shallow)])) he ?_ ?_
      ·rintro i5 he
       exact Zv [(4,[900]),(5,[]),(6,[])] (Zj he :) (Za [(900,10003001),(901,10003002),(902,0),(903,1)])
      ·skip
       refine Zo (ZcR a0_2 o0 o1 r3_) (fun (i3,i4)=>(Zm [(2,.c (.ptr 10002000 0)),(4,.c (.ptr 10002001 0)),(7,.c (.own 10002002 false)),(10,.c (.own 10002003 false)),(11,.c (.int .i64 i3))],[(0,.sl 89 y7_ o0 .shallow),(1,.sl 96 Zcb o1 .shallow),(10002000,.rc [.own 0 false,.own 1 false,.int .i64 (a0_2 - (1:Int))]),(10002001,.rc [.nil,.nil,.int .i64 (0:Int)]),(10002002,.sl 3 y0_ r3_.2 .shallow),(10002003,.sl 4 .bool i4 .shallow)])) he (Za [(10002000,10001000),(10002001,10001001),(10002002,10001002),(10002003,57)]) ?_
       rintro⟨i3,i4⟩ _ he
       refine Zh he (fun he=>?_) fun he=>?_
       ·exact ZHM
       ·exact⟨_,(Zbh he :),(Za [(10003000,10002000),(10003001,10002001),(10003002,10002003)])⟩
     ·refine ZL (Zg3 a1) (fun (i_23,i_03,i_13)=>(Zm [(1,.c (.imm y0_ a1)),(2,.c (.ptr 10007000 0)),(4,.c (.ptr 10007001 0))],[(0,.dead),(1,.dead),(10007000,.rc [.own 10007002 false,.own 10007003 false,.int .i64 i_23]),(10007001,.rc [.nil,.nil,.int .i64 (0:Int)]),(10007002,.sl 89 y7_ i_03 .shallow),(10007003,.sl 96 Zcb i_13 .shallow)])) he ?_ ?_
      ·exact ZHN
      ·skip
       refine Zg he fun he=>?_
       refine Zo (Zee a1 r5_ (Z7 n_)) (fun (i6,i_21,i_01,i_11)=>(Zm [(1,.c (.imm y0_ a1)),(2,.c (.ptr 10004000 0)),(4,.c (.ptr 10004001 0)),(77,.c (.own 10004002 false)),(78,.c (.int .i64 ([r5_,(0 - r5_)].length:Int))),(79,.c (.int .i64 i6))],[(0,.dead),(1,.dead),(10004000,.rc [.own 10004003 false,.own 10004004 false,.int .i64 i_21]),(10004001,.rc [.nil,.nil,.int .i64 (0:Int)]),(10004002,.sl 3 y0_ [r5_,(0 - r5_)] .shallow),(10004003,.sl 89 y7_ i_01 .shallow),(10004004,.sl 96 Zcb i_11 .shallow)])) he (Za [(10004000,10001000),(10004001,10001001),(10004002,77),(10004003,0),(10004004,1)]) ?_
       rintro⟨i6,i_21,i_01,i_11⟩ _ he
       refine Zh he (fun he=>?_) fun he=>?_
       ·refine Zg he fun he=>?_
        refine ZL (Zg4 i6) (fun (i9,i_22,i10,i_02,i_12)=>(Zm [(1,.c (.imm y0_ a1)),(2,.c (.ptr 10006000 0)),(4,.c (.ptr 10006001 0)),(14,.c (.int .i64 i9)),(15,.c (.own 10006002 false)),(77,.c (.own 10006003 false)),(78,.c (.int .i64 ([r5_,(0 - r5_)].length:Int))),(79,.c (.int .i64 i6))],[(0,.dead),(1,.dead),(10006000,.rc [.own 10006004 false,.own 10006005 false,.int .i64 i_22]),(10006001,.rc [.nil,.nil,.int .i64 (0:Int)]),(10006002,.sl 4 .bool i10 .shallow),(10006003,.sl 3 y0_ [r5_,(0 - r5_)] .shallow),(10006004,.sl 89 y7_ i_02 .shallow),(10006005,.sl 96 Zcb i_12 .shallow)])) he ?_ ?_
        ·rintro⟨i9,i_22,i10,i_02,i_12⟩ he
         refine Zh he (fun he=>?_) fun he=>?_
         ·exact Zv [(4,[900]),(5,[]),(6,[])] (Zj he :) (Za [(900,10006001),(901,10006002),(902,10006004),(903,10006005)])
         ·refine Zg he fun he=>?_
          exact⟨_,(Zj he :),(Za [(10004000,10006000),(10004001,10006001),(10004002,10006003),(10004003,10006004),(10004004,10006005)])⟩
        ·skip
         refine And.intro (by kernel_rfl) ?_
         obtain⟨hq1,he⟩:=ZO he
         obtain⟨hq2,he⟩:=ZO he
         obtain⟨r8_,hq3,he⟩:=Z6 he
         refine And.intro ?_ (And.intro ?_ (And.intro ?_ (Y1)))
         ·skip
          refine Y5 ?_ ?_
          ·exact ZyH
          ·exact ZyI
         ·skip
          refine And.intro ?_ (And.intro ?_ (And.intro ?_ (Y1)))
          ·exact ZyH
          ·skip
           refine And.intro hq1 ?_
           refine Y5 ?_ ?_
           ·skip
            refine Y4 ?_
            exact Zsi
           ·skip
            exact Zsj
          ·skip
           refine Y5 ?_ ?_
           ·exact ZuW
           ·skip
            refine And.intro hq1 ?_
            exact Zsj
         ·skip
          refine Y5 ?_ ?_
          ·exact ZyI
          ·skip
           refine Y5 ?_ ?_
           ·exact ZuW
           ·skip
            refine And.intro hq1 ?_
            exact Zsj
       ·exact⟨_,(Zbh he :),(Za [(10007000,10004000),(10007001,10004001),(10007002,10004003),(10007003,10004004)])⟩
   ·skip
    refine Zo (Zdw a0_2 a1 o0 o1 (Z7 n_)) (fun (i,i1)=>(Zm [(1,.c (.imm y0_ a1)),(2,.c (.ptr 10000000 0)),(4,.c (.ptr 10000001 0)),(7,.c (.own 10000002 false)),(8,.c (.int .i64 i))],[(0,.sl 89 y7_ o0 .shallow),(1,.sl 96 Zcb o1 .shallow),(10000000,.rc [.own 0 false,.own 1 false,.int .i64 (a0_2 - (1:Int))]),(10000001,.rc [.nil,.nil,.int .i64 (0:Int)]),(10000002,.sl 3 y0_ i1 .shallow)])) he (Za [(10000000,2),(10000001,4),(10000002,31)]) ?_
    rintro⟨i,i1⟩ _ he
    refine Zh he (fun he=>?_) fun he=>?_
    ·exact ZHP
    ·exact⟨_,(Zbh he :),(Za [(10001000,10000000),(10001001,10000001),(10001002,10000002)])⟩
 ·exact ZHK
theorem ZpG:∀n_,Zn Tryz.prog 135 (ZdL n_)
  |0=>by
    refine Zp (C:={ y:=tys,n:=112,h:=2,tab:=[] }) Tryz.f135 Zq fun _ a b k he=>?_
    unfold ZdL at he
    split at he
    · obtain⟨x,hx,_⟩:=he
      cases hx
    · exact he.elim
  |n_+1=>ZsV n_ (ZpG n_)
def Zma:Con:=fun
  |[.agg [.own 0 false,.nil,.int .i64 a0_2],.c (.imm (.int .i64) a1)],[(0,.sl 89 (.pair (.sl (.pair (.int .i64) (.int .i64))) (.int .i64)) o0 .shallow)]=>.opt _ (ZkJ a0_2 a1 o0) (fun r=>.ret (.tup [.agg [.own 902 false,.own 903 false,.int .i64 r.2.1],.c (.int .i64 r.1),.c (.own 901 false)]) [(0,.dead),(900,.rc [.own 902 false,.own 903 false,.int .i64 r.2.1]),(901,.sl 4 .bool r.2.2.1 .shallow),(902,.sl 89 y7_ r.2.2.2.1 .shallow),(903,.sl 96 Zcb r.2.2.2.2 .shallow)])
  |_,_=>.fail
def Zor:Sched:=.alt 7 (ZF [8,9,10,11] (.alt 12 (ZF [13,14] .done) .stop)) .stop
def Zjz:Sched:=.alt 6 Zor .stop
def Zos:Sched:=.alt 5 Zjz .stop
def ZjA:Sched:=.alt 3 Zjz .stop
def Zot:Sched:=.alt 3 Zos (.alt 5 ZjA .stop)
def Zou:Sched:=.alt 1 ZjA .stop
def Zov:Sched:=.alt 0 Zjz (.alt 6 (.alt 0 Zor .stop) .stop)
def Zow:Sched:=.alt 0 ZjA (.alt 3 Zov .stop)
def Zw4:Cfg:={ y:=tys,n:=112,h:=1,tab:=[(135,(ZdL 64)),(194,ZiB),(195,ZiC),(196,ZiD),(197,ZnI)],cut:=[9,18,25,28],hand:=[(135,[0]),(194,[0]),(195,[1]),(196,[0])],sched:=[(24,(ZF [2,4] (.alt 0 (.alt 1 Zot (.alt 5 Zou .stop)) (.alt 1 (.alt 0 Zot (.alt 3 (.alt 0 Zos (.alt 5 Zov .stop)) (.alt 5 Zow .stop))) (.alt 5 (.alt 0 Zou (.alt 1 Zow .stop)) .stop)))))],nils:=[135,196] }
theorem ZHQ {P:Prop} (h:P:=by
  exact Zv [(4,[900]),(5,[]),(6,[])] (Zj he :) (Za [(900,4),(901,26),(902,0)])):P:=h
theorem ZxC:Zn Tryz.prog 135 Zma:=by
 refine Zp (C:=Zw4) Tryz.f135 (Zk (ZpG 64) (Zk Zpj (Zk Zq5 (Zk Zq6 (Zk Zwh Zq))))) fun _ a b k he=>?_
 unfold Zma at he;split at he;rotate_left;exact he.elim
 rename_i a0_2 a1 o0
 refine Zs he fun he=>?_
 refine ZI he (fun he=>?_) fun he=>?_
 ·refine Zh he (fun he=>?_) fun he=>?_
  ·exact ZHQ
  ·refine Zg he fun he=>?_
   refine Zg he fun he=>?_
   refine ZL (ZhZ a0_2 a1 o0) (fun i2=>(Zm [(1,.c (.imm y0_ a1)),(2,.c (.ptr 10001000 0)),(4,.c (.ptr 10001001 0)),(7,.c (.own 10001002 false))],[(0,.sl 89 y7_ o0 .shallow),(10001000,.rc [.own 0 false,.own 10001003 false,.int .i64 (a0_2 - (1:Int))]),(10001001,.rc [.nil,.nil,.int .i64 (0:Int)]),(10001002,.sl 3 y0_ i2 .shallow),(10001003,.sl 96 Zcb ([]:List Zw) .shallow)])) he ?_ ?_
   ·rintro i2 he
    refine Zi he fun r3_ he=>?_
    refine Zh he (fun he=>?_) fun he=>?_
    ·exact ZHL
    ·refine Zi he fun r5_ he=>?_
     refine Zh he (fun he=>?_) fun he=>?_
     ·refine ZL (ZpH a0_2 o0) (fun i5=>(Zm [(2,.c (.ptr 10003000 0)),(4,.c (.ptr 10003001 0)),(10,.c (.own 10003002 false))],[(0,.sl 89 y7_ o0 .shallow),(10003000,.rc [.own 0 false,.own 10003003 false,.int .i64 (a0_2 - (1:Int))]),(10003001,.rc [.nil,.nil,.int .i64 (0:Int)]),(10003002,.sl 4 .bool i5 .shallow),(10003003,.sl 96 Zcb ([]:List Zw) .shallow)])) he ?_ ?_
      ·rintro i5 he
       exact Zv [(4,[900]),(5,[]),(6,[])] (Zj he :) (Za [(900,10003001),(901,10003002),(902,0),(903,10003003)])
      ·skip
       refine Zo (ZpK a0_2 o0 r3_) (fun (i3,i4)=>(Zm [(2,.c (.ptr 10002000 0)),(4,.c (.ptr 10002001 0)),(7,.c (.own 10002002 false)),(10,.c (.own 10002003 false)),(11,.c (.int .i64 i3))],[(0,.sl 89 y7_ o0 .shallow),(10002000,.rc [.own 0 false,.own 10002004 false,.int .i64 (a0_2 - (1:Int))]),(10002001,.rc [.nil,.nil,.int .i64 (0:Int)]),(10002002,.sl 3 y0_ r3_.2 .shallow),(10002003,.sl 4 .bool i4 .shallow),(10002004,.sl 96 Zcb ([]:List Zw) .shallow)])) he (Za [(10002000,10001000),(10002001,10001001),(10002002,10001002),(10002003,57),(10002004,10001003)]) ?_
       rintro⟨i3,i4⟩ _ he
       refine Zh he (fun he=>?_) fun he=>?_
       ·exact ZHM
       ·exact⟨_,(Zbh he :),(Za [(10003000,10002000),(10003001,10002001),(10003002,10002003),(10003003,10002004)])⟩
     ·refine ZL (ZpI a1) (fun (i_23,i_03,i_13)=>(Zm [(1,.c (.imm y0_ a1)),(2,.c (.ptr 10007000 0)),(4,.c (.ptr 10007001 0))],[(0,.dead),(10007000,.rc [.own 10007002 false,.own 10007003 false,.int .i64 i_23]),(10007001,.rc [.nil,.nil,.int .i64 (0:Int)]),(10007002,.sl 89 y7_ i_03 .shallow),(10007003,.sl 96 Zcb i_13 .shallow)])) he ?_ ?_
      ·exact ZHN
      ·skip
       refine Zg he fun he=>?_
       refine Zo (Zlt a1 r5_) (fun (i6,i_21,i_01,i_11)=>(Zm [(1,.c (.imm y0_ a1)),(2,.c (.ptr 10004000 0)),(4,.c (.ptr 10004001 0)),(77,.c (.own 10004002 false)),(78,.c (.int .i64 ([r5_,(0 - r5_)].length:Int))),(79,.c (.int .i64 i6))],[(0,.dead),(10004000,.rc [.own 10004003 false,.own 10004004 false,.int .i64 i_21]),(10004001,.rc [.nil,.nil,.int .i64 (0:Int)]),(10004002,.sl 3 y0_ [r5_,(0 - r5_)] .shallow),(10004003,.sl 89 y7_ i_01 .shallow),(10004004,.sl 96 Zcb i_11 .shallow)])) he (Za [(10004000,10001000),(10004001,10001001),(10004002,77),(10004003,0),(10004004,10001003)]) ?_
       rintro⟨i6,i_21,i_01,i_11⟩ _ he
       refine Zh he (fun he=>?_) fun he=>?_
       ·refine Zg he fun he=>?_
        refine ZL (ZpJ i6) (fun (i9,i_22,i10,i_02,i_12)=>(Zm [(1,.c (.imm y0_ a1)),(2,.c (.ptr 10006000 0)),(4,.c (.ptr 10006001 0)),(14,.c (.int .i64 i9)),(15,.c (.own 10006002 false)),(77,.c (.own 10006003 false)),(78,.c (.int .i64 ([r5_,(0 - r5_)].length:Int))),(79,.c (.int .i64 i6))],[(0,.dead),(10006000,.rc [.own 10006004 false,.own 10006005 false,.int .i64 i_22]),(10006001,.rc [.nil,.nil,.int .i64 (0:Int)]),(10006002,.sl 4 .bool i10 .shallow),(10006003,.sl 3 y0_ [r5_,(0 - r5_)] .shallow),(10006004,.sl 89 y7_ i_02 .shallow),(10006005,.sl 96 Zcb i_12 .shallow)])) he ?_ ?_
        ·rintro⟨i9,i_22,i10,i_02,i_12⟩ he
         refine Zh he (fun he=>?_) fun he=>?_
         ·exact Zv [(4,[900]),(5,[]),(6,[])] (Zj he :) (Za [(900,10006001),(901,10006002),(902,10006004),(903,10006005)])
         ·refine Zg he fun he=>?_
          exact⟨_,(Zj he :),(Za [(10004000,10006000),(10004001,10006001),(10004002,10006003),(10004003,10006004),(10004004,10006005)])⟩
        ·skip
         refine And.intro (by kernel_rfl) ?_
         obtain⟨hq1,he⟩:=ZO he
         obtain⟨hq2,he⟩:=ZO he
         obtain⟨r8_,hq3,he⟩:=Z6 he
         refine And.intro ?_ (And.intro ?_ (And.intro ?_ (Y1)))
         ·skip
          refine Y5 ?_ ?_
          ·exact ZyH
          ·exact ZyI
         ·skip
          refine And.intro ?_ (And.intro ?_ (And.intro ?_ (Y1)))
          ·exact ZyH
          ·skip
           refine And.intro hq1 ?_
           refine Y5 ?_ ?_
           ·skip
            refine Y4 ?_
            exact Zsi
           ·skip
            exact Zsj
          ·skip
           refine Y5 ?_ ?_
           ·exact ZuW
           ·skip
            refine And.intro hq1 ?_
            exact Zsj
         ·skip
          refine Y5 ?_ ?_
          ·exact ZyI
          ·skip
           refine Y5 ?_ ?_
           ·exact ZuW
           ·skip
            refine And.intro hq1 ?_
            exact Zsj
       ·exact⟨_,(Zbh he :),(Za [(10007000,10004000),(10007001,10004001),(10007002,10004003),(10007003,10004004)])⟩
   ·skip
    refine Zo (Zh0 a0_2 a1 o0) (fun (i,i1)=>(Zm [(1,.c (.imm y0_ a1)),(2,.c (.ptr 10000000 0)),(4,.c (.ptr 10000001 0)),(7,.c (.own 10000002 false)),(8,.c (.int .i64 i))],[(0,.sl 89 y7_ o0 .shallow),(10000000,.rc [.own 0 false,.own 10000003 false,.int .i64 (a0_2 - (1:Int))]),(10000001,.rc [.nil,.nil,.int .i64 (0:Int)]),(10000002,.sl 3 y0_ i1 .shallow),(10000003,.sl 96 Zcb ([]:List Zw) .shallow)])) he (Za [(10000000,2),(10000001,4),(10000002,31)]) ?_
    rintro⟨i,i1⟩ _ he
    refine Zh he (fun he=>?_) fun he=>?_
    ·exact ZHP
    ·exact⟨_,(Zbh he :),(Za [(10001000,10000000),(10001001,10000001),(10001002,10000002),(10001003,10000003)])⟩
 ·exact ZHQ
def Zrj:Con:=fun
  |[.agg [.imm (.pair (.int .i64) (.int .i64)) c__0,.int .i64 c__1]],[]=>.opt _ (Zql (c__0,c__1)) (fun r=>.ret (.agg [.own 901 false,.int .i64 r.1]) [(900,.rc [.own 901 false,.int .i64 r.1]),(901,.sl 155 y6_ r.2 .shallow)])
  |_,_=>.fail
def Zss:Sched:=.alt 6 (.alt 7 .done .stop) .stop
def ZnX:Sched:=.alt 3 Zss .stop
def Zst:Sched:=.alt 3 (.alt 5 Zss .stop) (.alt 5 ZnX .stop)
def Zsu:Sched:=.alt 2 ZnX .stop
def Zsv:Sched:=.alt 0 ZnX .stop
def ZDu:Cfg:={ y:=tys,n:=10,h:=0,tab:=[],sched:=[(1,(ZF [1,4] (.alt 0 (.alt 2 Zst (.alt 5 Zsu .stop)) (.alt 2 (.alt 0 Zst (.alt 5 Zsv .stop)) (.alt 5 (.alt 0 Zsu (.alt 2 Zsv .stop)) .stop)))))] }
theorem ZCz {P:Prop} (h:P:=by
  refine Y4 ?_
  refine Y4 ?_
  exact Zv [(2,[900])] (Zj he :) (Za [(900,2),(901,6)])):P:=h
theorem ZCA {P:Prop} (h:P:=by
  skip
  refine Y4 ?_
  refine Y4 ?_
  refine And.intro hq1 ?_
  exact ZCz):P:=h
theorem ZHR {P:Prop} (h:P:=by
  skip
  refine Y5 ?_ ?_
  ·skip
   refine Y5 ?_ ?_
   ·skip
    refine And.intro hq1 ?_
    refine Y4 ?_
    exact ZCz
   ·skip
    refine Y4 ?_
    refine And.intro hq1 ?_
    exact ZCz
  ·exact ZCA):P:=h
theorem ZDJ:Zn Tryz.prog 136 Zrj:=by
 refine Zp (C:=ZDu) Tryz.f136 Zq fun _ a b k he=>?_
 unfold Zrj at he;split at he;rotate_left;exact he.elim
 rename_i c__0 c__1
 refine Zs he fun he=>?_
 refine And.intro (by kernel_rfl) ?_
 obtain⟨hq1,he⟩:=ZO he
 refine And.intro ?_ (And.intro ?_ (And.intro ?_ (Y1)))
 ·exact ZHR
 ·exact ZHR
 ·skip
  refine Y5 ?_ ?_
  ·exact ZCA
  ·exact ZCA
def Zlp:Con:=fun
  |[.c (.imm (.pair (.sl (.pair (.int .i64) (.int .i64))) (.int .i64)) a0),.c (.int .i64 a1)],[]=>.opt _ (Zjo a0 a1) (fun r=>.ret (.tup [.c (.int .i64 r.1),.c (.own 900 false),.c (.own 901 false)]) [(900,.sl 4 .bool r.2.1 .shallow),(901,.sl 96 Zcb r.2.2 (.deep true .no))])
  |_,_=>.fail
def ZwA:Cfg:={ y:=tys,n:=65,h:=0,tab:=[(109,Zln),(135,Zma),(136,Zrj)],cut:=[13],hand:=[(135,[0])],deep:=[25,40,41,60],nils:=[135] }
theorem ZCB {P:Prop} (h:P:=by
  exact Zv [(4,[]),(5,[]),(6,[])] (Zj he :) (Za [(900,24),(901,25)])):P:=h
theorem ZwO:Zn Tryz.prog 66 Zlp:=by
 refine Zp (C:=ZwA) Tryz.f66 (Zk ZwM (Zk ZxC (Zk ZDJ Zq))) fun _ a b k he=>?_
 unfold Zlp at he;split at he;rotate_left;exact he.elim
 rename_i a0 a1
 refine Zs he fun he=>?_
 refine Zi he fun r1_ he=>?_
 refine ZI he (fun he=>?_) fun he=>?_
 ·refine ZI he (fun he=>?_) fun he=>?_
  ·refine Zh he (fun he=>?_) fun he=>?_
   ·exact ZCB
   ·refine Zg he fun he=>?_
    refine Zi he fun r2_ he=>?_
    refine Zh he (fun he=>?_) fun he=>?_
    ·exact Zv [(4,[]),(5,[]),(6,[])] (Zj he :) (Za [(900,33901),(901,40)])
    ·refine ZL (ZkG r2_) (fun i2=>(Zm [(8,.c (.int .i64 r2_.1)),(10,.c (.own 10001000 false))],[(10001000,.sl 96 Zcb i2 (.deep true .no))])) he ?_ ?_
     ·rintro i2 he
      exact Zv [(4,[]),(5,[]),(6,[])] (Zj he :) (Za [(900,63),(901,10001000)])
     ·skip
      refine Zo (Zed r2_) (fun (i,i1)=>(Zm [(7,.c (.ptr 10000000 0)),(8,.c (.int .i64 r2_.1)),(10,.c (.own 10000001 false)),(11,.c (.int .i64 i))],[(10000000,.rc [.own 10000002 false,.own 10000003 false,.int .i64 r2_.2.1]),(10000001,.sl 96 Zcb i1 (.deep true .no)),(10000002,.sl 89 y7_ r2_.2.2.2.1 .shallow),(10000003,.sl 96 Zcb r2_.2.2.2.2 .shallow)])) he (Za [(10000000,7),(10000001,41),(10000002,33902),(10000003,33903)]) ?_
      rintro⟨i,i1⟩ _ he
      refine Zh he (fun he=>?_) fun he=>?_
      ·refine Zg he fun he=>?_
       refine Zi he fun r4_ he=>?_
       refine Zg he fun he=>?_
       refine Zg he fun he=>?_
       exact⟨_,(Zj he :),(Za [(10000001,61)])⟩
      ·exact⟨_,(Zbh he :),(Za [(10001000,10000001)])⟩
  ·exact ZCB
 ·exact ZCB
def Zlm:Con:=fun
  |[.agg [.imm (.int .i64) m_0,.imm (.pair (.int .i64) (.pair (.sl (.int .i64)) (.pair (.sl (.int .i64)) (.pair (.int .i64) (.sl (.sl (.int .i64))))))) m_1],.c (.imm .bool values)],[]=>.opt _ (Zjm (m_0,m_1) values) (fun r=>.ret (.tup [.c (.own 900 false),.c (.bool r.1)]) [(900,.sl 3 y0_ r.2 .shallow)])
  |_,_=>.fail
def Zwx:Cfg:={ y:=tys,n:=56,h:=0,tab:=[(130,Zgu),(133,ZfV)] }
theorem ZwL:Zn Tryz.prog 67 Zlm:=by
 refine Zp (C:=Zwx) Tryz.f67 (Zk Znb (Zk ZjP Zq)) fun _ a b k he=>?_
 unfold Zlm at he;split at he;rotate_left;exact he.elim
 rename_i m_0 m_1 values
 refine Zs he fun he=>?_
 refine Zi he fun r1_ he=>?_
 refine ZI he (fun he=>?_) fun he=>?_
 ·refine Zh he (fun he=>?_) fun he=>?_
  ·exact Zv [(4,[]),(5,[])] (Zj he :) (Za [(900,19)])
  ·refine Zo (Zg0 (m_0,m_1) values) (fun (i,out)=>(Zm [(1,.c (.imm .bool values)),(2,.c (.ptr 10000000 0)),(6,.c (.own 10000001 false)),(7,.c (.int .i64 i))],[(10000000,.rc [.imm y0_ (m_0,m_1).1,.imm y5_ (m_0,m_1).2]),(10000001,.sl 3 y0_ out .shallow)])) he (Za [(10000000,2),(10000001,20)]) ?_
   rintro⟨i,out⟩ _ he
   refine Zh he (fun he=>?_) fun he=>?_
   ·refine Zo (Zg1 (m_0,m_1) values i out) (fun (v1,n1,k_1)=>(Zm [(1,.c (.imm .bool values)),(2,.c (.ptr 10002000 0)),(6,.c (.own 10002001 false)),(7,.c (.int .i64 i)),(8,.c (.int .i64 v1)),(9,.c (.int .i64 n1)),(10,.c (.int .i64 k_1))],[(10002000,.rc [.imm y0_ (m_0,m_1).1,.imm y5_ (m_0,m_1).2]),(10002001,.sl 3 y0_ out .shallow)])) he (Za [(10002000,10000000),(10002001,10000001)]) ?_
    rintro⟨v1,n1,k_1⟩ _ he
    refine Zg he fun he=>?_
    refine Zh he (fun he=>?_) fun he=>?_
    ·refine Zi he fun r3_ he=>?_
     refine Zg he fun he=>?_
     refine Zg he fun he=>?_
     exact ZKg
    ·refine Zh he (fun he=>?_) fun he=>?_
     ·exact Zv [(4,[]),(5,[])] (Zj he :) (Za [(900,50)])
     ·refine Zg he fun he=>?_
      refine Zg he fun he=>?_
      exact⟨_,(Zj he :),(Za [(10000000,10002000),(10000001,54)])⟩
   ·exact ZBy
 ·exact Zv [(4,[]),(5,[])] (Zj he :) (Za [(900,19)])
def Zlo:Con:=fun
  |[.agg [.imm (.int .i64) a0_0,.imm (.pair (.int .i64) (.pair (.sl (.int .i64)) (.pair (.sl (.int .i64)) (.pair (.int .i64) (.sl (.sl (.int .i64))))))) a0_1],.c (.imm (.int .i64) a1),.c (.int .i64 a2)],[]=>.opt _ (ZgE (a0_0,a0_1) a1 a2) (fun r=>.ret (.tup [.c (.int .i64 r.1),.c (.own 900 false),.c (.own 901 false)]) [(900,.sl 3 y0_ r.2.1 .shallow),(901,.sl 96 Zcb r.2.2 (.deep true .no))])
  |_,_=>.fail
def Znj:Sched:=.alt 11 (.first 12 .done) .stop
def ZiU:Sched:=.alt 6 (ZF [7,8,9] Znj) .stop
def Znk:Sched:=.alt 6 (ZF [7,8,9] (.alt 10 Znj .stop)) (.alt 10 ZiU .stop)
def Znl:Sched:=.alt 4 (.first 5 ZiU) .stop
def Znm:Sched:=.alt 0 ZiU .stop
def Zwz:Cfg:={ y:=tys,n:=99,h:=0,tab:=[(62,Zl9),(63,ZmE),(64,Zij),(65,ZpU),(66,Zlp),(67,Zlm)],cut:=[8,9,14],deep:=[45,78],sched:=[(7,(ZF [1,2,3] (.alt 0 (.alt 4 (.first 5 Znk) (.alt 10 Znl .stop)) (.alt 4 (.first 5 (.alt 0 Znk (.alt 10 Znm .stop))) (.alt 10 (.alt 0 Znl (.alt 4 (.first 5 Znm) .stop)) .stop)))))],frz:=[49] }
theorem ZuX {P:Prop} (h:P:=by
  exact Zv [(6,[]),(7,[]),(8,[])] (Zj he :) (Za [(900,44),(901,45)])):P:=h
theorem ZHS {P:Prop} (h:P:=by
  refine Y4 ?_
  exact⟨_,he,(Za [(10004000,10000000),(10004001,10000001),(10004002,49),(10004003,13),(10004004,61901)])⟩):P:=h
theorem ZyJ {P:Prop} (h:P:=by
  refine Y4 ?_
  refine⟨r10_,hq3,?_⟩
  exact ZHS):P:=h
theorem ZHT {P:Prop} (h:P:=by
  refine Y5 ?_ ?_
  ·skip
   refine⟨r10_,hq3,?_⟩
   refine Y4 ?_
   exact ZHS
  ·skip
   exact ZyJ):P:=h
theorem ZHU {P:Prop} (h:P:=by
  skip
  refine Y4 ?_
  refine⟨r9_,hq1,?_⟩
  refine And.intro hq2 ?_
  exact ZyJ):P:=h
theorem ZwN:Zn Tryz.prog 13 Zlo:=by
 refine Zp (C:=Zwz) Tryz.f13 (Zk Zxz (Zk ZuC (Zk Zty (Zk ZCa (Zk ZwO (Zk ZwL Zq)))))) fun _ a b k he=>?_
 unfold Zlo at he;split at he;rotate_left;exact he.elim
 rename_i a0_0 a0_1 a1 a2
 refine Zs he fun he=>?_
 refine Zi he fun r1_ he=>?_
 refine ZI he (fun he=>?_) fun he=>?_
 ·refine Zi he fun r2_ he=>?_
  refine ZI he (fun he=>?_) fun he=>?_
  ·refine ZI he (fun he=>?_) fun he=>?_
   ·refine ZI he (fun he=>?_) fun he=>?_
    ·refine Zh he (fun he=>?_) fun he=>?_
     ·exact ZuX
     ·refine Zo (Zcm (a0_0,a0_1) a1 a2 r1_) (fun i1=>(Zm [(1,.c (.imm y0_ a1)),(2,.c (.int .i64 a2)),(3,.c (.ptr 10000000 0)),(9,.c (.imm y7_ r1_.2)),(11,.c (.own 10000001 false))],[(10000000,.rc [.imm y0_ (a0_0,a0_1).1,.imm y5_ (a0_0,a0_1).2]),(10000001,.sl 3 y0_ i1 .shallow)])) he ((Zf2 [21900]).trans (Za [(10000000,3),(10000001,46)] (l:=[(1,.c (.imm y0_ a1)),(2,.c (.int .i64 a2)),(3,.c (.ptr 10000000 0)),(9,.c (.imm y7_ r1_.2)),(11,.c (.own 10000001 false))]) (st':=[(10000000,.rc [.imm y0_ (a0_0,a0_1).1,.imm y5_ (a0_0,a0_1).2]),(10000001,.sl 3 y0_ ([]:List Int) .shallow)]))) ?_
      rintro i1 _ he
      refine Zg he fun he=>?_
      refine ZL (ZcQ (a0_0,a0_1) a2 i1) (fun i2=>(Zm [(1,.c (.imm y0_ a1)),(2,.c (.int .i64 a2)),(3,.c (.ptr 10005000 0)),(9,.c (.imm y7_ r1_.2)),(11,.c (.own 10005001 false)),(12,.c (.own 10005002 false))],[(10005000,.rc [.imm y0_ (a0_0,a0_1).1,.imm y5_ (a0_0,a0_1).2]),(10005001,.sl 3 y0_ i1 .shallow),(10005002,.sl 89 y7_ i2 .shallow)])) he ?_ ?_
      ·rintro i2 he
       refine Zi he fun r11_ he=>?_
       refine Zh he (fun he=>?_) fun he=>?_
       ·exact Zv [(6,[]),(7,[]),(8,[])] (Zj he :) (Za [(900,10005001),(901,78)])
       ·refine ZL (Zec (a0_0,a0_1) i1 r11_) (fun _=>(Zm [(1,.c (.imm y0_ a1)),(2,.c (.int .i64 a2)),(3,.c (.ptr 10006000 0)),(9,.c (.imm y7_ r1_.2)),(11,.c (.own 10006001 false)),(15,.c (.int .i64 r11_.1)),(16,.c (.own 10006002 false)),(17,.c (.own 10006003 false))],[(10006000,.rc [.imm y0_ (a0_0,a0_1).1,.imm y5_ (a0_0,a0_1).2]),(10006001,.sl 3 y0_ i1 .shallow),(10006002,.sl 4 .bool r11_.2.1 .shallow),(10006003,.sl 96 Zcb r11_.2.2 (.deep true .no))])) he ?_ ?_
        ·rintro⟨⟩ he
         refine Zh he (fun he=>?_) fun he=>?_
         ·exact Zv [(6,[]),(7,[]),(8,[])] (Zj he :) (Za [(900,10006001),(901,10006003)])
         ·refine Zi he fun r12_ he=>?_
          exact⟨_,(Zj he :),(Za [(10000000,10006000),(10000001,97900)])⟩
        ·skip
         refine Zh he (fun he=>?_) fun he=>?_
         ·refine Zh he (fun he=>?_) fun he=>?_
          ·exact Zv [(6,[]),(7,[]),(8,[])] (Zj he :) (Za [(900,10005001),(901,71901)])
          ·exact⟨_,he,(Za [(10006000,10005000),(10006001,10005001),(10006002,71900),(10006003,71901)])⟩
         ·exact⟨_,he,(Za [(10006000,10005000),(10006001,10005001),(10006002,71900),(10006003,71901)])⟩
      ·skip
       refine Zh he (fun he=>?_) fun he=>?_
       ·refine ZL (ZkF (a0_0,a0_1) a2 r1_ i1) (fun (i_11,i_01)=>(Zm [(1,.c (.imm y0_ a1)),(2,.c (.int .i64 a2)),(3,.c (.ptr 10004000 0)),(9,.c (.imm y7_ r1_.2)),(11,.c (.own 10004001 false)),(12,.c (.own 10004002 false)),(13,.c (.ptr 10004003 0))],[(10004000,.rc [.imm y0_ (a0_0,a0_1).1,.imm y5_ (a0_0,a0_1).2]),(10004001,.sl 3 y0_ i1 .shallow),(10004002,.sl 89 y7_ (([]:List D7_)++r1_.2) .shallow),(10004003,.rc [.own 10004004 false,.int .i64 i_11]),(10004004,.sl 155 y6_ i_01 .shallow)])) he ?_ ?_
        ·rintro⟨i_11,i_01⟩ he
         refine Zg he fun he=>?_
         exact⟨_,he,(Za [(10005000,10004000),(10005001,10004001),(10005002,66)])⟩
        ·skip
         refine And.intro (by kernel_rfl) ?_
         obtain⟨r9_,hq1,he⟩:=Z6 he
         obtain⟨hq2,he⟩:=ZO he
         obtain⟨r10_,hq3,he⟩:=Z6 he
         refine And.intro ?_ (And.intro ?_ (And.intro ?_ (Y1)))
         ·skip
          refine Y5 ?_ ?_
          ·skip
           refine⟨r9_,hq1,?_⟩
           refine And.intro hq2 ?_
           exact ZHT
          ·exact ZHU
         ·skip
          refine⟨r9_,hq1,?_⟩
          refine And.intro hq2 ?_
          refine Y5 ?_ ?_
          ·skip
           exact ZHT
          ·skip
           refine Y4 ?_
           exact ZyJ
         ·skip
          refine Y5 ?_ ?_
          ·exact ZHU
          ·skip
           refine⟨r9_,hq1,?_⟩
           refine And.intro hq2 ?_
           refine Y4 ?_
           exact ZyJ
       ·exact⟨_,he,(Za [(10005000,10000000),(10005001,10000001),(10005002,49)])⟩
    ·exact ZuX
   ·exact ZuX
  ·exact ZuX
 ·exact ZuX
def Zhn:Con:=fun
  |[.c (.imm (.pair (.int .i64) (.int .i64)) s1_),.c (.imm (.pair (.int .i64) (.int .i64)) s2_)],[]=>.opt _ (ZdK s1_ s2_) (fun r=>.ret (.c (.bool r)) [])
  |_,_=>.fail
def Zsr:Cfg:={ y:=tys,n:=26,h:=0,tab:=[] }
theorem ZsU:Zn Tryz.prog 137 Zhn:=by
 refine Zp (C:=Zsr) Tryz.f137 Zq fun _ a b k he=>?_
 unfold Zhn at he;split at he;rotate_left;exact he.elim
 rename_i s1_ s2_
 refine Zs he fun he=>?_
 refine Zh he (fun he=>?_) fun he=>?_
 ·exact Z5
 ·refine Zo (ZdU s1_ s2_) (fun i=>(Zm [(0,.c (.imm y6_ s1_)),(1,.c (.imm y6_ s2_)),(12,.c (.int .i64 (s1_.length:Int))),(13,.c (.int .i64 i))],[])) he (Za []) ?_
  exact ZF9
def Zf6:Con:=fun
  |[.agg [.imm (.pair (.int .i64) (.int .i64)) a_0,.int .i64 a_1],.agg [.imm (.pair (.int .i64) (.int .i64)) b_0,.int .i64 b_1]],[]=>.opt _ (Zba (a_0,a_1) (b_0,b_1)) (fun r=>.ret (.c (.bool r)) [])
  |_,_=>.fail
def Zun:Cfg:={ y:=tys,n:=17,h:=0,tab:=[(137,Zhn)] }
theorem ZoC:Zn Tryz.prog 70 Zf6:=by
 refine Zp (C:=Zun) Tryz.f70 (Zk ZsU Zq) fun _ a b k he=>?_
 unfold Zf6 at he;split at he;rotate_left;exact he.elim
 rename_i a_0 a_1 b_0 b_1
 refine Zs he fun he=>?_
 refine Zh he (fun he=>?_) fun he=>?_
 ·exact ZBw
 ·exact Zbg
def Zl2:Con:=fun
  |[.agg [.int .i64 s__0,.int .i64 s__1,.int .i64 s__2,.imm (.pair (.int .i64) (.int .i64)) s__3,.int .i64 s__4],.agg [.int .i64 t__0,.int .i64 t__1,.int .i64 t__2,.imm (.pair (.int .i64) (.int .i64)) t__3,.int .i64 t__4]],[]=>.opt _ (Zkr (s__0,(s__1,(s__2,(s__3,s__4)))) (t__0,(t__1,(t__2,(t__3,t__4))))) (fun r=>.ret (.c (.bool r)) [])
  |_,_=>.fail
def ZwS:Cfg:={ y:=tys,n:=31,h:=0,tab:=[(70,Zf6)] }
theorem ZL6 {P:Prop} (h:P:=by
  refine Zh he (fun he=>?_) fun he=>?_
  ·exact ZBw
  ·exact Zbg):P:=h
theorem Zxr:Zn Tryz.prog 69 Zl2:=by
 refine Zp (C:=ZwS) Tryz.f69 (Zk ZoC Zq) fun _ a b k he=>?_
 unfold Zl2 at he;split at he;rotate_left;exact he.elim
 rename_i s__0 s__1 s__2 s__3 s__4 t__0 t__1 t__2 t__3 t__4
 refine Zs he fun he=>?_
 refine Zh he (fun he=>?_) fun he=>?_
 ·refine Zh he (fun he=>?_) fun he=>?_
  ·exact ZL6
  ·exact Zbg
 ·exact Zbg
def ZcE:Con:=fun
  |[.c (.imm (.pair (.int .i64) (.pair (.int .i64) (.pair (.int .i64) (.pair (.sl (.pair (.int .i64) (.int .i64))) (.int .i64))))) s1_),.c (.imm (.pair (.int .i64) (.pair (.int .i64) (.pair (.int .i64) (.pair (.sl (.pair (.int .i64) (.int .i64))) (.int .i64))))) s2_),.c (.fn 69 [])],[]=>.opt _ (ZcT s1_ s2_) (fun r=>.ret (.c (.bool r)) [])
  |_,_=>.fail
def Zic:Cfg:={ y:=tys,n:=32,h:=0,tab:=[(69,Zl2)] }
theorem Zin:Zn Tryz.prog 68 ZcE:=by
 refine Zp (C:=Zic) Tryz.f68 (Zk Zxr Zq) fun _ a b k he=>?_
 unfold ZcE at he;split at he;rotate_left;exact he.elim
 rename_i s1_ s2_
 refine Zs he fun he=>?_
 refine Zh he (fun he=>?_) fun he=>?_
 ·exact Z5
 ·refine Zo (Zbc s1_ s2_) (fun i=>(Zm [(1,.c (.imm Zcb s2_)),(2,.c (.fn 69 [])),(15,.c (.imm Zcb s1_)),(16,.c (.int .i64 (s1_.length:Int))),(17,.c (.int .i64 i))],[])) he (Za []) ?_
  rintro i _ he
  refine Zh he (fun he=>?_) fun he=>?_
  ·refine Zg he fun he=>?_
   refine Zg he fun he=>?_
   refine Zi he fun r1_ he=>?_
   refine Zh he (fun he=>?_) fun he=>?_
   ·exact Zv [(6,[])] (Zj he :) (Za [])
   ·exact Zdy
  ·exact Z5
end
end Go.AE.Y
