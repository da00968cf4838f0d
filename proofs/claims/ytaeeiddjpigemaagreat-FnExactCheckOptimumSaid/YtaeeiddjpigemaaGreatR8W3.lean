/-
  Walks: each function keeps the contract that its model gives. No conditions.
-/
import Derived.Test.YtaeeiddjpigemaaGreatR8Tab
import Derived.Test.YtaeeiddjpigemaaGreatR8W2
import Derived.Test.YtaeeiddjpigemaaGreatR8S
namespace Go.AE.Y
open Go Go.AE Go.Proofs
set_option linter.unusedVariables false
set_option maxHeartbeats 2000000
set_option maxRecDepth 100000
noncomputable section
def ZkR:Con:=fun
  |[.agg [.imm (.int .i64) m_0,.imm (.pair (.int .i64) (.pair (.sl (.int .i64)) (.pair (.sl (.int .i64)) (.pair (.int .i64) (.sl (.sl (.int .i64))))))) m_1]],[]=>.opt _ (Zi9 (m_0,m_1)) (fun r=>.ret (.tup [.c (.own 900 false),.c (.bool r.1)]) [(900,.sl 89 y6_ r.2 (.deep true .no))])
  |_,_=>.fail
def Znb:Sched:=.alt 7 (.alt 8 (.first 9 .done) .stop) .stop
def Zwx:Cfg:={ y:=tys,n:=45,h:=0,tab:=[(130,Zfn),(131,Zql),(132,Zqm)],cut:=[8,12],deep:=[10,11,43],sched:=[(11,(Zv [0,2,4] (.alt 1 (.alt 3 (Zv [5,6] Znb) .stop) (.alt 3 (Zv [5,6] (.alt 1 Znb .stop)) .stop))))] }
theorem ZJK {P:Prop} (h:P:=by
  refine Y4 ?_
  refine⟨r6_,hq2,?_⟩
  refine Y4 ?_
  refine And.intro hq3 ?_
  refine Zi he fun he=>?_
  exact⟨_,(Zk he :),(Za [(10002001,39)])⟩):P:=h
theorem ZwZ:Zl Tryz.prog 62 ZkR:=by
 refine Zn (C:=Zwx) Tryz.f62 (Zj Zl2 (Zj ZDx (Zj ZDy Zo))) fun _ a b k he=>?_
 unfold ZkR at he;split at he;rotate_left;exact he.elim
 rename_i m_0 m_1
 refine Zq he fun he=>?_
 refine Zh he fun r1_ he=>?_
 refine Zf he (fun he=>?_) fun he=>?_
 ·exact Zy [(2,[]),(3,[])] (Zk he :) (Za [(900,10)])
 ·refine ZT (ZgF (m_0,m_1)) (fun out1=>(Zm [(1,.c (.ptr 10001000 0)),(4,.c (.own 10001001 false))],[(10001000,.rc [.imm y0_ (m_0,m_1).1,.imm y4_ (m_0,m_1).2]),(10001001,.sl 89 y6_ out1 (.deep true .no))])) he ?_ ?_
  ·rintro out1 he
   refine ZT (ZgG) (fun out3=>(Zm [(4,.c (.own 10003000 false))],[(10003000,.sl 89 y6_ out3 (.deep true .no))])) he ?_ ?_
   ·rintro out3 he
    refine Zf he (fun he=>?_) fun he=>?_
    ·exact Zy [(2,[]),(3,[])] (Zk he :) (Za [(900,43)])
    ·exact Zy [(2,[]),(3,[])] (Zk he :) (Za [(900,10003000)])
   ·skip
    refine Zr (ZgH (m_0,m_1)) (fun (i1,out2)=>(Zm [(1,.c (.ptr 10002000 0)),(4,.c (.own 10002001 false)),(6,.c (.int .i64 i1))],[(10002000,.rc [.imm y0_ (m_0,m_1).1,.imm y4_ (m_0,m_1).2]),(10002001,.sl 89 y6_ out2 (.deep true .no))])) he (Za [(10002000,10001000),(10002001,10001001)]) ?_
    rintro⟨i1,out2⟩ _ he
    refine Zf he (fun he=>?_) fun he=>?_
    ·refine And.intro (by kernel_rfl) ?_
     obtain⟨hq1,he⟩:=ZG he
     obtain⟨r6_,hq2,he⟩:=Z5 he
     obtain⟨hq3,he⟩:=ZG he
     refine Y5 ?_ ?_
     ·skip
      refine Y4 ?_
      refine And.intro hq1 ?_
      exact ZJK
     ·skip
      refine And.intro hq1 ?_
      refine Y4 ?_
      exact ZJK
    ·exact⟨_,(ZcJ he :),(Za [(10003000,10002001)])⟩
  ·skip
   refine Zr (ZgI (m_0,m_1)) (fun (i,out)=>(Zm [(1,.c (.ptr 10000000 0)),(4,.c (.own 10000001 false)),(5,.c (.int .i64 i))],[(10000000,.rc [.imm y0_ (m_0,m_1).1,.imm y4_ (m_0,m_1).2]),(10000001,.sl 89 y6_ out (.deep true .no))])) he (Za [(10000000,1),(10000001,11)]) ?_
   rintro⟨i,out⟩ _ he
   refine Zf he (fun he=>?_) fun he=>?_
   ·refine Zh he fun r3_ he=>?_
    refine Zi he fun he=>?_
    refine Zi he fun he=>?_
    exact⟨_,(Zk he :),(Za [(10000001,23)])⟩
   ·exact⟨_,(ZcJ he :),(Za [(10001000,10000000),(10001001,10000001)])⟩
def Zlr:Con:=fun
  |[.agg [.imm (.int .i64) m_0,.imm (.pair (.int .i64) (.pair (.sl (.int .i64)) (.pair (.sl (.int .i64)) (.pair (.int .i64) (.sl (.sl (.int .i64))))))) m_1],.c (.imm (.int .i64) coefs)],[]=>.opt _ (Zlj (m_0,m_1) coefs) (fun r=>.ret (.c (.bool r)) [])
  |_,_=>.fail
def ZA5:Cfg:={ y:=tys,n:=35,h:=0,tab:=[(130,Zfn)] }
theorem Zul:Zl Tryz.prog 63 Zlr:=by
 refine Zn (C:=ZA5) Tryz.f63 (Zj Zl2 Zo) fun _ a b k he=>?_
 unfold Zlr at he;split at he;rotate_left;exact he.elim
 rename_i m_0 m_1 coefs
 refine Zq he fun he=>?_
 refine Zh he fun r1_ he=>?_
 refine ZC he (fun he=>?_) fun he=>?_
 ·refine Zf he (fun he=>?_) fun he=>?_
  ·exact ZK
  ·refine Zr (ZkE coefs) (fun i=>(Zm [(1,.c (.imm y0_ coefs)),(5,.c (.int .i64 i))],[])) he (Za []) ?_
   rintro i _ he
   refine Zf he (fun he=>?_) fun he=>?_
   ·refine Zi he fun he=>?_
    refine ZC he (fun he=>?_) fun he=>?_
    ·refine Zi he fun he=>?_
     exact ZAt
    ·exact Z6
   ·exact Z6
 ·exact ZK
def ZoN:Con:=fun
  |[.agg [.imm (.int .i64) m_0,.imm (.pair (.int .i64) (.pair (.sl (.int .i64)) (.pair (.sl (.int .i64)) (.pair (.int .i64) (.sl (.sl (.int .i64))))))) m_1],.c (.imm (.int .i64) cells)],[]=>.opt _ (Zog (m_0,m_1) cells) (fun r=>.ret (.c (.bool r)) [])
  |_,_=>.fail
def ZA2:Cfg:={ y:=tys,n:=35,h:=0,tab:=[] }
theorem ZBE:Zl Tryz.prog 204 ZoN:=by
 refine Zn (C:=ZA2) Tryz.f204 Zo fun _ a b k he=>?_
 unfold ZoN at he;split at he;rotate_left;exact he.elim
 rename_i m_0 m_1 cells
 refine Zq he fun he=>?_
 refine Zf he (fun he=>?_) fun he=>?_
 ·exact ZK
 ·refine Zr (Zkz (m_0,m_1) cells) (fun i=>(Zm [(1,.c (.imm y0_ cells)),(2,.c (.ptr 10000000 0)),(5,.c (.int .i64 i))],[(10000000,.rc [.imm y0_ (m_0,m_1).1,.imm y4_ (m_0,m_1).2])])) he (Za [(10000000,2)]) ?_
  rintro i _ he
  refine Zf he (fun he=>?_) fun he=>?_
  ·refine And.intro (by kernel_rfl) ?_
   refine Zi he fun he=>?_
   refine ZC he (fun he=>?_) fun he=>?_
   ·exact ZFG
   ·exact ZK
  ·exact ZK
def ZlV:Con:=fun
  |[.agg [.imm (.int .i64) m_0,.imm (.pair (.int .i64) (.pair (.sl (.int .i64)) (.pair (.sl (.int .i64)) (.pair (.int .i64) (.sl (.sl (.int .i64))))))) m_1],.c (.imm (.int .i64) cells)],[]=>.opt _ (Zod (m_0,m_1) cells) (fun r=>.ret (.c (.bool r)) [])
  |_,_=>.fail
def Zye:Cfg:={ y:=tys,n:=12,h:=0,tab:=[(130,Zfn),(204,ZoN)] }
theorem Zym:Zl Tryz.prog 144 ZlV:=by
 refine Zn (C:=Zye) Tryz.f144 (Zj Zl2 (Zj ZBE Zo)) fun _ a b k he=>?_
 unfold ZlV at he;split at he;rotate_left;exact he.elim
 rename_i m_0 m_1 cells
 refine Zq he fun he=>?_
 refine Zh he fun r1_ he=>?_
 refine Zf he (fun he=>?_) fun he=>?_
 ·exact Zuz
 ·exact ZK
def ZnB:Con:=fun
  |[.agg [.imm (.int .i64) m_0,.imm (.pair (.int .i64) (.pair (.sl (.int .i64)) (.pair (.sl (.int .i64)) (.pair (.int .i64) (.sl (.sl (.int .i64))))))) m_1],.c (.imm (.int .i64) cells)],[]=>.opt _ (ZmH (m_0,m_1) cells) (fun r=>.ret (.c (.bool r)) [])
  |_,_=>.fail
def Zzv:Cfg:={ y:=tys,n:=21,h:=0,tab:=[(205,Zlq)] }
theorem ZxE {P:Prop} (h:P:=by
  rintro i _ he
  exact ZJC):P:=h
theorem ZzV:Zl Tryz.prog 145 ZnB:=by
 refine Zn (C:=Zzv) Tryz.f145 (Zj Zuk Zo) fun _ a b k he=>?_
 unfold ZnB at he;split at he;rotate_left;exact he.elim
 rename_i m_0 m_1 cells
 refine Zq he fun he=>?_
 refine Zr (Zje (m_0,m_1) cells) (fun i=>(Zm [(1,.c (.imm y0_ cells)),(2,.c (.ptr 10000000 0)),(5,.c (.int .i64 i))],[(10000000,.rc [.imm y0_ (m_0,m_1).1,.imm y4_ (m_0,m_1).2])])) he (Za [(10000000,2)]) ?_
 exact ZxE
def ZkS:Con:=fun
  |[.agg [.imm (.int .i64) m_0,.imm (.pair (.int .i64) (.pair (.sl (.int .i64)) (.pair (.sl (.int .i64)) (.pair (.int .i64) (.sl (.sl (.int .i64))))))) m_1],.c (.imm (.int .i64) cells)],[]=>.opt _ (Zgo (m_0,m_1) cells) (fun r=>.ret (.c (.bool r)) [])
  |_,_=>.fail
def Zwy:Cfg:={ y:=tys,n:=13,h:=0,tab:=[(144,ZlV),(145,ZnB)] }
theorem Zw0:Zl Tryz.prog 81 ZkS:=by
 refine Zn (C:=Zwy) Tryz.f81 (Zj Zym (Zj ZzV Zo)) fun _ a b k he=>?_
 unfold ZkS at he;split at he;rotate_left;exact he.elim
 rename_i m_0 m_1 cells
 refine Zq he fun he=>?_
 refine Zh he fun r1_ he=>?_
 refine Zf he (fun he=>?_) fun he=>?_
 ·exact Zuz
 ·exact ZK
def ZoP:Con:=fun
  |[.c (.imm (.int .i64) coefs),.c (.imm (.int .i64) cells)],[]=>.opt _ (Zoj coefs cells) (fun r=>.ret (.c (.int .i64 r)) [])
  |_,_=>.fail
def ZA6:Cfg:={ y:=tys,n:=25,h:=0,tab:=[] }
theorem ZBG:Zl Tryz.prog 65 ZoP:=by
 refine Zn (C:=ZA6) Tryz.f65 Zo fun _ a b k he=>?_
 unfold ZoP at he;split at he;rotate_left;exact he.elim
 rename_i coefs cells
 refine Zq he fun he=>?_
 refine Zr (Zok coefs cells) (fun (n,i)=>(Zm [(0,.c (.imm y0_ coefs)),(1,.c (.imm y0_ cells)),(5,.c (.int .i64 n)),(6,.c (.int .i64 i))],[])) he (Za []) ?_
 rintro⟨n,i⟩ _ he
 refine Zf he (fun he=>?_) fun he=>?_
 ·refine And.intro (by kernel_rfl) ?_
  exact ZxC
 ·exact Z6
def ZgU:Con:=fun
  |[.agg [.imm (.int .i64) m_0,.imm (.pair (.int .i64) (.pair (.sl (.int .i64)) (.pair (.sl (.int .i64)) (.pair (.int .i64) (.sl (.sl (.int .i64))))))) m_1],.c (.imm (.int .i64) coefs),.c (.int .i64 most)],[]=>.opt _ (Ze6 (m_0,m_1) coefs most) (fun r=>.ret (.tup [.agg [.own 901 false,.int .i64 r.2.1],.c (.bool r.1)]) [(900,.rc [.own 901 false,.int .i64 r.2.1]),(901,.sl 155 y5_ r.2.2 .shallow)])
  |_,_=>.fail
def Zsv:Cfg:={ y:=tys,n:=59,h:=0,tab:=[(63,Zlr),(133,Zf5),(134,Zhb)],cut:=[11],sched:=[(10,(Zv [0,2,3,5,6,7,8,9,10,11] (.alt 1 (.alt 4 (.first 12 (.alt 13 .done .stop)) .stop) .stop)))] }
theorem ZuC {P:Prop} (h:P:=by
  exact Zy [(6,[900]),(7,[])] (Zk he :) (Za [(900,6)])):P:=h
theorem ZsG:Zl Tryz.prog 64 ZgU:=by
 refine Zn (C:=Zsv) Tryz.f64 (Zj Zul (Zj Zk7 (Zj ZnQ Zo))) fun _ a b k he=>?_
 unfold ZgU at he;split at he;rotate_left;exact he.elim
 rename_i m_0 m_1 coefs most
 refine Zq he fun he=>?_
 refine Zh he fun r1_ he=>?_
 refine ZC he (fun he=>?_) fun he=>?_
 ·refine ZC he (fun he=>?_) fun he=>?_
  ·refine Zf he (fun he=>?_) fun he=>?_
   ·exact ZuC
   ·refine Zi he fun he=>?_
    refine ZT (Zgi most) (fun net3=>(Zm [(2,.c (.int .i64 most)),(6,.c (.ptr 10003000 0)),(8,.c (.own 10003001 false))],[(10003000,.rc [.nil,.int .i64 (0:Int)]),(10003001,.sl 3 y0_ net3 .shallow)])) he ?_ ?_
    ·rintro net3 he
     refine Zi he fun he=>?_
     refine Zh he fun r7_ he=>?_
     exact Zy [(6,[900]),(7,[])] (Zk he :) (Za [(900,10003000),(901,57901)])
    ·skip
     refine Zr (ZdX (m_0,m_1) coefs most) (fun (i,net1)=>(Zm [(1,.c (.imm y0_ coefs)),(2,.c (.int .i64 most)),(3,.c (.ptr 10000000 0)),(6,.c (.ptr 10000001 0)),(8,.c (.own 10000002 false)),(9,.c (.int .i64 i))],[(10000000,.rc [.imm y0_ (m_0,m_1).1,.imm y4_ (m_0,m_1).2]),(10000001,.rc [.nil,.int .i64 (0:Int)]),(10000002,.sl 3 y0_ net1 .shallow)])) he (Za [(10000000,3),(10000001,6),(10000002,24)]) ?_
     rintro⟨i,net1⟩ _ he
     refine Zf he (fun he=>?_) fun he=>?_
     ·refine Zr (ZdY (m_0,m_1) coefs i) (fun (k_1,net2)=>(Zm [(1,.c (.imm y0_ coefs)),(2,.c (.int .i64 most)),(3,.c (.ptr 10002000 0)),(6,.c (.ptr 10002001 0)),(8,.c (.own 10002002 false)),(9,.c (.int .i64 i)),(10,.c (.int .i64 k_1))],[(10002000,.rc [.imm y0_ (m_0,m_1).1,.imm y4_ (m_0,m_1).2]),(10002001,.rc [.nil,.int .i64 (0:Int)]),(10002002,.sl 3 y0_ net2 .shallow)])) he (Za [(10002000,10000000),(10002001,10000001),(10002002,10000002)]) ?_
      rintro⟨k_1,net2⟩ _ he
      refine Zi he fun he=>?_
      refine Zf he (fun he=>?_) fun he=>?_
      ·refine And.intro (by kernel_rfl) ?_
       refine Zi he fun he=>?_
       refine Zi he fun he=>?_
       refine Zi he fun he=>?_
       refine Y4 ?_
       refine Y4 ?_
       refine Zh he fun r6_ he=>?_
       refine Zi he fun he=>?_
       exact ZiB
      ·refine Zi he fun he=>?_
       exact⟨_,(Zk he :),(Za [(10000000,10002000),(10000001,10002001),(10000002,10002002)])⟩
     ·exact⟨_,(ZcJ he :),(Za [(10003000,10000001),(10003001,10000002)])⟩
  ·exact ZuC
 ·exact ZuC
def Zj4:Con:=fun
  |[.c (.imm (.pair (.sl (.pair (.int .i64) (.int .i64))) (.int .i64)) list_)],[]=>.opt _ (ZhX list_) (fun r=>.ret (.c (.bool r)) [])
  |_,_=>.fail
def Zv4:Cfg:={ y:=tys,n:=19,h:=0,tab:=[(168,Z2)] }
theorem ZxF {P:Prop} (h:P:=by
  rintro i _ he
  exact ZDV):P:=h
theorem Zwl:Zl Tryz.prog 109 Zj4:=by
 refine Zn (C:=Zv4) Tryz.f109 (Zj Zbl Zo) fun _ a b k he=>?_
 unfold Zj4 at he;split at he;rotate_left;exact he.elim
 rename_i list_
 refine Zq he fun he=>?_
 refine Zr (ZfQ list_) (fun i=>(Zm [(0,.c (.imm y6_ list_)),(3,.c (.int .i64 i))],[])) he (Za []) ?_
 exact ZxF
def Zqf:Con:=fun
  |[.c (.imm (.pair (.sl (.pair (.int .i64) (.int .i64))) (.int .i64)) list_),.c (.imm (.pair (.int .i64) (.pair (.int .i64) (.pair (.int .i64) (.pair (.sl (.pair (.int .i64) (.int .i64))) (.int .i64))))) steps)],[]=>.opt _ (ZtY list_ steps) (fun r=>.ret (.c (.bool r)) [])
  |_,_=>.fail
def ZC4:Cfg:={ y:=tys,n:=12,h:=0,tab:=[(109,Zj4)] }
theorem ZDr:Zl Tryz.prog 146 Zqf:=by
 refine Zn (C:=ZC4) Tryz.f146 (Zj Zwl Zo) fun _ a b k he=>?_
 unfold Zqf at he;split at he;rotate_left;exact he.elim
 rename_i list_ steps
 refine Zq he fun he=>?_
 refine Zh he fun r1_ he=>?_
 exact ZAq
def ZoM:Con:=fun
  |[.agg [.int .i64 s__0,.int .i64 s__1,.int .i64 s__2,.imm (.pair (.int .i64) (.int .i64)) s__3,.int .i64 s__4]],[]=>.opt _ (Zlh (s__0,(s__1,(s__2,(s__3,s__4))))) (fun r=>.ret (.c (.bool r)) [])
  |_,_=>.fail
def ZA1:Cfg:={ y:=tys,n:=43,h:=0,tab:=[] }
theorem ZBD:Zl Tryz.prog 150 ZoM:=by
 refine Zn (C:=ZA1) Tryz.f150 Zo fun _ a b k he=>?_
 unfold ZoM at he;split at he;rotate_left;exact he.elim
 rename_i s__0 s__1 s__2 s__3 s__4
 refine Zq he fun he=>?_
 refine Zf he (fun he=>?_) fun he=>?_
 ·refine Zf he (fun he=>?_) fun he=>?_
  ·exact ZA
  ·refine Zf he (fun he=>?_) fun he=>?_
   ·exact ZA
   ·refine Zf he (fun he=>?_) fun he=>?_
    ·exact ZA
    ·refine Zf he (fun he=>?_) fun he=>?_
     ·exact ZA
     ·refine Zf he (fun he=>?_) fun he=>?_
      ·exact Zsk
      ·refine Zf he (fun he=>?_) fun he=>?_
       ·exact Zsk
       ·refine Zf he (fun he=>?_) fun he=>?_
        ·exact Zsk
        ·refine Zf he (fun he=>?_) fun he=>?_
         ·exact Zsk
         ·exact ZA
 ·refine Zf he (fun he=>?_) fun he=>?_
  ·exact ZA
  ·refine Zf he (fun he=>?_) fun he=>?_
   ·exact ZA
   ·refine Zf he (fun he=>?_) fun he=>?_
    ·exact ZA
    ·refine Zf he (fun he=>?_) fun he=>?_
     ·exact ZA
     ·refine Zf he (fun he=>?_) fun he=>?_
      ·exact ZA
      ·refine Zf he (fun he=>?_) fun he=>?_
       ·exact ZA
       ·refine Zf he (fun he=>?_) fun he=>?_
        ·exact ZA
        ·refine Zf he (fun he=>?_) fun he=>?_
         ·exact Zsk
         ·exact ZA
def Zmx:Con:=fun
  |[.agg [.imm (.pair (.sl (.pair (.int .i64) (.int .i64))) (.int .i64)) d_0,.imm .bool d_1],.c (.int .i64 k_)],[]=>.opt _ (ZhE (d_0,d_1) k_) (fun r=>.ret (.c (.bool r)) [])
  |_,_=>.fail
def ZC6:Cfg:={ y:=tys,n:=22,h:=0,tab:=[] }
theorem ZJL {P:Prop} (h:P:=by
  refine Zf he (fun he=>?_) fun he=>?_
  ·refine Zi he fun he=>?_
   exact ZK
  ·exact ZK):P:=h
theorem ZvL:Zl Tryz.prog 151 Zmx:=by
 refine Zn (C:=ZC6) Tryz.f151 Zo fun _ a b k he=>?_
 unfold Zmx at he;split at he;rotate_left;exact he.elim
 rename_i d_0 d_1 k_
 refine Zq he fun he=>?_
 refine Zf he (fun he=>?_) fun he=>?_
 ·exact ZJL
 ·exact ZK
def Zj3:Con:=fun
  |[.c (.int .i64 lit)],[]=>.opt _ (ZhW lit) (fun r=>.ret (.tup [.agg [.own 901 false,.int .i64 r.2.1],.c (.bool r.1)]) [(900,.rc [.own 901 false,.int .i64 r.2.1]),(901,.sl 155 y5_ r.2.2 .shallow)])
  |_,_=>.fail
def Zv3:Cfg:={ y:=tys,n:=12,h:=0,tab:=[(228,ZkU)] }
theorem Zwk:Zl Tryz.prog 208 Zj3:=by
 refine Zn (C:=Zv3) Tryz.f208 (Zj ZrY Zo) fun _ a b k he=>?_
 unfold Zj3 at he;split at he;rotate_left;exact he.elim
 rename_i lit
 refine Zq he fun he=>?_
 refine Zh he fun r1_ he=>?_
 refine Zf he (fun he=>?_) fun he=>?_
 ·exact Zon
 ·exact Zy [(2,[900]),(3,[])] (Zk he :) (Za [(900,2),(901,10)])
def Zqe:Con:=fun
  |[.agg [.imm (.pair (.int .i64) (.int .i64)) c__0,.int .i64 c__1]],[]=>.opt _ (Zpf (c__0,c__1)) (fun r=>.ret (.agg [.own 901 false,.int .i64 r.1]) [(900,.rc [.own 901 false,.int .i64 r.1]),(901,.sl 155 y5_ r.2 .shallow)])
  |_,_=>.fail
def Zrt:Sched:=.alt 6 (.alt 7 .done .stop) .stop
def ZmN:Sched:=.alt 3 Zrt .stop
def Zru:Sched:=.alt 3 (.alt 5 Zrt .stop) (.alt 5 ZmN .stop)
def Zrv:Sched:=.alt 2 ZmN .stop
def Zrw:Sched:=.alt 0 ZmN .stop
def ZC3:Cfg:={ y:=tys,n:=10,h:=0,tab:=[],sched:=[(1,(Zv [1,4] (.alt 0 (.alt 2 Zru (.alt 5 Zrv .stop)) (.alt 2 (.alt 0 Zru (.alt 5 Zrw .stop)) (.alt 5 (.alt 0 Zrv (.alt 2 Zrw .stop)) .stop)))))] }
theorem ZFN {P:Prop} (h:P:=by
  refine Y4 ?_
  refine Y4 ?_
  exact Zy [(2,[900])] (Zk he :) (Za [(900,2),(901,6)])):P:=h
theorem ZFO {P:Prop} (h:P:=by
  skip
  refine Y4 ?_
  refine Y4 ?_
  refine And.intro hq1 ?_
  exact ZFN):P:=h
theorem ZJM {P:Prop} (h:P:=by
  skip
  refine Y5 ?_ ?_
  ·skip
   refine Y5 ?_ ?_
   ·skip
    refine And.intro hq1 ?_
    refine Y4 ?_
    exact ZFN
   ·skip
    refine Y4 ?_
    refine And.intro hq1 ?_
    exact ZFN
  ·exact ZFO):P:=h
theorem ZDq:Zl Tryz.prog 136 Zqe:=by
 refine Zn (C:=ZC3) Tryz.f136 Zo fun _ a b k he=>?_
 unfold Zqe at he;split at he;rotate_left;exact he.elim
 rename_i c__0 c__1
 refine Zq he fun he=>?_
 refine And.intro (by kernel_rfl) ?_
 obtain⟨hq1,he⟩:=ZG he
 refine And.intro ?_ (And.intro ?_ (And.intro ?_ (Y1)))
 ·exact ZJM
 ·exact ZJM
 ·skip
  refine Y5 ?_ ?_
  ·exact ZFO
  ·exact ZFO
def Zqg:Con:=fun
  |[.agg [.imm (.pair (.sl (.pair (.int .i64) (.int .i64))) (.int .i64)) d_0,.imm .bool d_1]],[]=>.opt _ (Zpg (d_0,d_1)) (fun r=>.ret (.c (.own 900 false)) [(900,.sl 89 y6_ r .shallow)])
  |_,_=>.fail
def ZC5:Cfg:={ y:=tys,n:=28,h:=0,tab:=[] }
theorem ZDs:Zl Tryz.prog 210 Zqg:=by
 refine Zn (C:=ZC5) Tryz.f210 Zo fun _ a b k he=>?_
 unfold Zqg at he;split at he;rotate_left;exact he.elim
 rename_i d_0 d_1
 refine Zq he fun he=>?_
 refine Zr (ZlI (d_0,d_1)) (fun (i,out)=>(Zm [(1,.c (.ptr 10000000 0)),(3,.c (.own 10000001 false)),(4,.c (.int .i64 i))],[(10000000,.rc [.imm y6_ (d_0,d_1).1,.imm .bool (d_0,d_1).2]),(10000001,.sl 89 y6_ out .shallow)])) he (Za [(10000000,1),(10000001,5)]) ?_
 rintro⟨i,out⟩ _ he
 refine Zf he (fun he=>?_) fun he=>?_
 ·refine Zi he fun he=>?_
  refine Zf he (fun he=>?_) fun he=>?_
  ·refine Zi he fun he=>?_
   refine Zi he fun he=>?_
   refine Zi he fun he=>?_
   exact⟨_,(Zk he :),(Za [(10000001,26)])⟩
  ·exact Zdh
 ·exact Zy [(2,[])] (Zk he :) (Za [(900,10000001)])
def Zln:Con:=fun
  |[.agg [.imm (.pair (.int .i64) (.int .i64)) c__0,.int .i64 c__1]],[]=>.opt _ (Zle (c__0,c__1)) (fun r=>.ret (.c (.int .i64 r)) [])
  |_,_=>.fail
def ZAX:Cfg:={ y:=tys,n:=21,h:=0,tab:=[] }
theorem Zuh:Zl Tryz.prog 216 Zln:=by
 refine Zn (C:=ZAX) Tryz.f216 Zo fun _ a b k he=>?_
 unfold Zln at he;split at he;rotate_left;exact he.elim
 rename_i c__0 c__1
 refine Zq he fun he=>?_
 refine Zr (Zkv (c__0,c__1)) (fun (n,i)=>(Zm [(1,.c (.ptr 10000000 0)),(3,.c (.int .i64 n)),(4,.c (.int .i64 i))],[(10000000,.rc [.imm y5_ (c__0,c__1).1,.int .i64 (c__0,c__1).2])])) he (Za [(10000000,1)]) ?_
 rintro⟨n,i⟩ _ he
 refine Zf he (fun he=>?_) fun he=>?_
 ·exact Zp0
 ·exact ZA
def ZgW:Con:=fun
  |[.agg [.imm (.pair (.int .i64) (.int .i64)) c__0,.int .i64 c__1]],[]=>.opt _ (Ze9 (c__0,c__1)) (fun r=>.ret (.tup [.agg [.own 901 false,.int .i64 r.2.1],.c (.bool r.1)]) [(900,.rc [.own 901 false,.int .i64 r.2.1]),(901,.sl 155 y5_ r.2.2 .shallow)])
  |_,_=>.fail
def Zjx:Sched:=.alt 8 .done .stop
def Zjy:Sched:=.alt 6 Zjx .stop
def Zjz:Sched:=.alt 17 (.first 18 (.alt 19 .done .stop)) .stop
def ZjA:Sched:=.alt 16 Zjz .stop
def Zsx:Cfg:={ y:=tys,n:=48,h:=0,tab:=[(168,Z2),(216,Zln)],cut:=[1,4,8],sched:=[(3,(Zv [0,2,3] (.alt 1 (Zv [4,5] (.alt 6 (.alt 7 Zjx .stop) (.alt 7 Zjy .stop))) (.alt 7 (.alt 1 (Zv [4,5] Zjy) .stop) .stop)))),(7,(Zv [0,2,3,4,5,6,7,8,9,10,11,12,13,14] (.alt 1 (.alt 15 ZjA .stop) (.alt 15 (.alt 1 ZjA (.alt 16 (.alt 1 Zjz .stop) .stop)) .stop))))] }
theorem ZJN {P:Prop} (h:P:=by
  exact Zy [(2,[900]),(3,[])] (Zk he :) (Za [(900,10003000),(901,10003002)])):P:=h
theorem ZFP {P:Prop} (h:P:=by
  refine Y4 ?_
  refine Y4 ?_
  refine And.intro hq1 ?_
  refine Y4 ?_
  refine Zi he fun he=>?_
  exact⟨_,(Zk he :),(Za [(10002002,41)])⟩):P:=h
theorem ZFQ {P:Prop} (h:P:=by
  refine Y4 ?_
  refine Y4 ?_
  exact⟨_,he,(Za [(10001000,10000000),(10001001,4)])⟩):P:=h
theorem ZsI:Zl Tryz.prog 252 ZgW:=by
 refine Zn (C:=Zsx) Tryz.f252 (Zj Zbl (Zj Zuh Zo)) fun _ a b k he=>?_
 unfold ZgW at he;split at he;rotate_left;exact he.elim
 rename_i c__0 c__1
 refine Zq he fun he=>?_
 refine ZT (Zgl (c__0,c__1)) (fun _=>(Zm [(1,.c (.iptr y6_ (c__0,c__1) 0)),(2,.c (.ptr 10000000 0))],[(10000000,.rc [.nil,.int .i64 (0:Int)])])) he ?_ ?_
 ·rintro⟨⟩ he
  refine Zh he fun r1_ he=>?_
  refine Zf he (fun he=>?_) fun he=>?_
  ·exact ZxA
  ·refine ZT (Zgm (c__0,c__1)) (fun out_1=>(Zm [(1,.c (.iptr y6_ (c__0,c__1) 0)),(2,.c (.ptr 10001000 0)),(4,.c (.ptr 10001001 0))],[(10001000,.rc [.nil,.int .i64 (0:Int)]),(10001001,.rc [.nil,.int .i64 out_1])])) he ?_ ?_
   ·rintro out_1 he
    refine ZT (Zgn out_1) (fun out_01=>(Zm [(2,.c (.ptr 10003000 0)),(4,.c (.ptr 10003001 0))],[(10003000,.rc [.nil,.int .i64 (0:Int)]),(10003001,.rc [.own 10003002 false,.int .i64 out_1]),(10003002,.sl 155 y5_ out_01 .shallow)])) he ?_ ?_
    ·rintro out_01 he
     refine Zf he (fun he=>?_) fun he=>?_
     ·exact ZJN
     ·exact ZJN
    ·skip
     refine Zr (Zda (c__0,c__1) out_1) (fun (i,out_0)=>(Zm [(1,.c (.iptr y6_ (c__0,c__1) 0)),(2,.c (.ptr 10002000 0)),(4,.c (.ptr 10002001 0)),(5,.c (.int .i64 i))],[(10002000,.rc [.nil,.int .i64 (0:Int)]),(10002001,.rc [.own 10002002 false,.int .i64 out_1]),(10002002,.sl 155 y5_ out_0 .shallow)])) he (Za [(10002000,10001000),(10002001,10001001)]) ?_
     rintro⟨i,out_0⟩ _ he
     refine Zf he (fun he=>?_) fun he=>?_
     ·refine And.intro (by kernel_rfl) ?_
      refine Zi he fun he=>?_
      refine Zi he fun he=>?_
      refine Zi he fun he=>?_
      obtain⟨hq1,he⟩:=ZG he
      refine Y5 ?_ ?_
      ·skip
       refine Y4 ?_
       exact ZFP
      ·skip
       refine Y5 ?_ ?_
       ·skip
        exact ZFP
       ·skip
        exact ZFP
     ·exact⟨_,(ZcJ he :),(Za [(10003000,10002000),(10003001,10002001),(10003002,10002002)])⟩
   ·skip
    refine And.intro (by kernel_rfl) ?_
    obtain⟨r3_,hq1,he⟩:=Z5 he
    obtain⟨hq2,he⟩:=ZG he
    obtain⟨hq3,he⟩:=ZG he
    refine Y5 ?_ ?_
    ·skip
     refine⟨r3_,hq1,?_⟩
     refine And.intro hq2 ?_
     refine And.intro hq3 ?_
     refine Y5 ?_ ?_
     ·skip
      exact ZFQ
     ·skip
      exact ZFQ
    ·skip
     refine Y4 ?_
     refine⟨r3_,hq1,?_⟩
     refine And.intro hq2 ?_
     refine And.intro hq3 ?_
     exact ZFQ
 ·skip
  exact⟨_,he,(ZcE [(10000000,2)] rfl rfl ⟨⟨rfl,rfl,Y1⟩,Y1⟩ ⟨.inr ⟨1,rfl,⟨rfl,by repeat (first|exact trivial|refine And.intro trivial ?_)⟩,rfl⟩,⟨Y2,rfl⟩,Y1⟩)⟩
def Zlp:Con:=fun
  |[.c (.imm (.int .i64) p),.c (.int .i64 lit)],[]=>.opt _ (Zlg p lit) (fun r=>.ret (.c (.int .i64 r)) [])
  |_,_=>.fail
def ZAZ:Cfg:={ y:=tys,n:=19,h:=0,tab:=[] }
theorem ZAw {P:Prop} (h:P:=by
  refine Zi he fun he=>?_
  exact ZFH):P:=h
theorem ZJO {P:Prop} (h:P:=by
  refine Zi he fun he=>?_
  refine Zi he fun he=>?_
  exact ZAw):P:=h
theorem Zuj:Zl Tryz.prog 288 Zlp:=by
 refine Zn (C:=ZAZ) Tryz.f288 Zo fun _ a b k he=>?_
 unfold Zlp at he;split at he;rotate_left;exact he.elim
 rename_i p lit
 refine Zq he fun he=>?_
 refine Zf he (fun he=>?_) fun he=>?_
 ·exact ZAw
 ·exact ZJO
def Zlo:Con:=fun
  |[.agg [.imm (.pair (.int .i64) (.int .i64)) c__0,.int .i64 c__1],.c (.imm (.int .i64) p)],[]=>.opt _ (Zlf (c__0,c__1) p) (fun r=>.ret (.c (.int .i64 r)) [])
  |_,_=>.fail
def ZAY:Cfg:={ y:=tys,n:=35,h:=0,tab:=[(288,Zlp)] }
theorem Zui:Zl Tryz.prog 248 Zlo:=by
 refine Zn (C:=ZAY) Tryz.f248 (Zj Zuj Zo) fun _ a b k he=>?_
 unfold Zlo at he;split at he;rotate_left;exact he.elim
 rename_i c__0 c__1 p
 refine Zq he fun he=>?_
 refine Zi he fun he=>?_
 refine Zr (Zkx (c__0,c__1) p) (fun (n,i)=>(Zm [(1,.c (.imm y0_ p)),(2,.c (.ptr 10000000 0)),(5,.c (.int .i64 n)),(6,.c (.int .i64 i))],[(10000000,.rc [.imm y5_ (c__0,c__1).1,.int .i64 (c__0,c__1).2])])) he (Za [(10000000,2)]) ?_
 rintro⟨n,i⟩ _ he
 refine Zf he (fun he=>?_) fun he=>?_
 ·refine Zi he fun he=>?_
  refine Zh he fun r1_ he=>?_
  refine Zf he (fun he=>?_) fun he=>?_
  ·exact Zp0
  ·exact Zdh
 ·exact ZK
def ZmT:Con:=fun
  |[.agg [.imm (.pair (.int .i64) (.int .i64)) c__0,.int .i64 c__1],.c (.imm (.int .i64) p)],[]=>.opt _ (ZlH (c__0,c__1) p) (fun r=>.ret (.c (.own 900 false)) [(900,.sl 3 y0_ r .shallow)])
  |_,_=>.fail
def ZyG:Cfg:={ y:=tys,n:=52,h:=0,tab:=[(248,Zlo),(288,Zlp)] }
theorem ZyT:Zl Tryz.prog 249 ZmT:=by
 refine Zn (C:=ZyG) Tryz.f249 (Zj Zui (Zj Zuj Zo)) fun _ a b k he=>?_
 unfold ZmT at he;split at he;rotate_left;exact he.elim
 rename_i c__0 c__1 p
 refine Zq he fun he=>?_
 refine Zh he fun r1_ he=>?_
 refine Zr (Zl6 (c__0,c__1) p r1_) (fun (i,out)=>(Zm [(1,.c (.imm y0_ p)),(2,.c (.ptr 10000000 0)),(5,.c (.own 10000001 false)),(6,.c (.int .i64 r1_)),(7,.c (.int .i64 i))],[(10000000,.rc [.imm y5_ (c__0,c__1).1,.int .i64 (c__0,c__1).2]),(10000001,.sl 3 y0_ out .shallow)])) he (Za [(10000000,2),(10000001,8)]) ?_
 rintro⟨i,out⟩ _ he
 refine Zf he (fun he=>?_) fun he=>?_
 ·refine Zf he (fun he=>?_) fun he=>?_
  ·refine Zi he fun he=>?_
   refine Zh he fun r3_ he=>?_
   refine Zf he (fun he=>?_) fun he=>?_
   ·refine Zi he fun he=>?_
    refine Zf he (fun he=>?_) fun he=>?_
    ·refine Zi he fun he=>?_
     refine Zi he fun he=>?_
     refine Zi he fun he=>?_
     exact⟨_,(Zk he :),(Za [(10000001,50)])⟩
    ·exact Zdh
   ·exact Zdh
  ·exact Zy [(4,[])] (Zk he :) (Za [(900,10000001)])
 ·exact Zy [(4,[])] (Zk he :) (Za [(900,10000001)])
end
end Go.AE.Y
