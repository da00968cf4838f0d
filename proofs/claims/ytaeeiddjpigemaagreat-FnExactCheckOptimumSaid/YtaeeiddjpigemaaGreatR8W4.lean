/-
  Walks: each function keeps the contract that its model gives. No conditions.
-/
import Derived.Test.YtaeeiddjpigemaaGreatR8Tab
import Derived.Test.YtaeeiddjpigemaaGreatR8W3
import Derived.Test.YtaeeiddjpigemaaGreatR8S
namespace Go.AE.Y
open Go Go.AE Go.Proofs
set_option linter.unusedVariables false
set_option maxHeartbeats 2000000
set_option maxRecDepth 100000
noncomputable section
def Zny:Con:=fun
  |[.c (.own 0 false),.c (.int .i64 lit)],[(0,.sl 3 (.int .i64) p .shallow)]=>.opt _ (Zqz lit p) (fun r=>.ret (.tup []) [(0,.sl 3 y0_ r .shallow)])
  |_,_=>.fail
def Zzs:Cfg:={ y:=tys,n:=15,h:=1,tab:=[] }
theorem ZzS:Zl Tryz.prog 194 Zny:=by
 refine Zn (C:=Zzs) Tryz.f194 Zo fun _ a b k he=>?_
 unfold Zny at he;split at he;rotate_left;exact he.elim
 rename_i lit p
 refine Zq he fun he=>?_
 refine Zf he (fun he=>?_) fun he=>?_
 ·refine Zi he fun he=>?_
  refine Zi he fun he=>?_
  exact Zy [] (Zk he :) (Za [] (l:=[]) (st':=[(0,.sl 3 y0_ (p.set (lit - (1:Int)).toNat (1:Int)) .shallow)]))
 ·refine Zi he fun he=>?_
  refine Zi he fun he=>?_
  refine Zi he fun he=>?_
  exact Zy [] (Zk he :) (Za [] (l:=[]) (st':=[(0,.sl 3 y0_ (p.set ((0 - lit) - (1:Int)).toNat (-1:Int)) .shallow)]))
def ZkV:Con:=fun
  |[.c (.imm (.pair (.sl (.pair (.int .i64) (.int .i64))) (.int .i64)) list_),.c (.own 0 false)],[(0,.sl 3 (.int .i64) p .shallow)]=>.opt _ (Zgr list_ p) (fun r=>.ret (.c (.int .i64 r.1)) [(0,.sl 3 y0_ r.2 .shallow)])
  |_,_=>.fail
def Zwz:Cfg:={ y:=tys,n:=42,h:=1,tab:=[(194,Zny),(248,Zlo),(249,ZmT)],hand:=[(194,[0])] }
theorem Zw1:Zl Tryz.prog 195 ZkV:=by
 refine Zn (C:=Zwz) Tryz.f195 (Zj ZzS (Zj Zui (Zj ZyT Zo))) fun _ a b k he=>?_
 unfold ZkV at he;split at he;rotate_left;exact he.elim
 rename_i list_ p
 refine Zq he fun he=>?_
 refine Zr (Zj9 list_) (fun (changed,p4)=>(Zm [(0,.c (.imm y6_ list_)),(1,.c (.own 0 false)),(5,.c (.bool changed))],[(0,.sl 3 y0_ p4 .shallow)])) he (Za []) ?_
 rintro⟨changed,p4⟩ _ he
 refine Zf he (fun he=>?_) fun he=>?_
 ·refine Zr (ZgJ list_) (fun (changed4,i1,p6)=>(Zm [(0,.c (.imm y6_ list_)),(1,.c (.own 0 false)),(5,.c (.bool changed4)),(6,.c (.int .i64 i1))],[(0,.sl 3 y0_ p6 .shallow)])) he (Za []) ?_
  rintro⟨changed4,i1,p6⟩ _ he
  refine Zf he (fun he=>?_) fun he=>?_
  ·refine Zi he fun he=>?_
   refine Zh he fun r13_ he=>?_
   refine Zf he (fun he=>?_) fun he=>?_
   ·exact ZK
   ·refine Zi he fun he=>?_
    refine Zh he fun r14_ he=>?_
    refine Zr (ZgK i1 r14_) (fun (changed6,k_3,p7)=>(Zm [(0,.c (.imm y6_ list_)),(1,.c (.own 0 false)),(5,.c (.bool changed6)),(6,.c (.int .i64 i1)),(7,.c (.own 10006000 false)),(8,.c (.int .i64 k_3))],[(0,.sl 3 y0_ p7 .shallow),(10006000,.sl 3 y0_ r14_ .shallow)])) he (Za [(10006000,30900)]) ?_
    rintro⟨changed6,k_3,p7⟩ _ he
    refine Zf he (fun he=>?_) fun he=>?_
    ·refine Zi he fun he=>?_
     refine Zh he fun r16_ he=>?_
     exact Zdh
    ·exact Zdh
  ·exact⟨_,(Zk he :),(Za [])⟩
 ·exact ZK
def ZrL:Con:=fun
  |[.c (.imm (.pair (.sl (.pair (.int .i64) (.int .i64))) (.int .i64)) list_),.agg [.imm (.pair (.int .i64) (.int .i64)) c__0,.int .i64 c__1]],[]=>.opt _ (Zra list_ (c__0,c__1)) (fun r=>.ret (.c (.bool r)) [])
  |_,_=>.fail
def ZsU:Sched:=.alt 5 (.first 6 .done) .stop
def ZsV:Sched:=.alt 4 ZsU .stop
def ZsW:Sched:=.alt 2 ZsU .stop
def ZsX:Sched:=.alt 2 ZsV (.alt 4 ZsW .stop)
def ZD0:Cfg:={ y:=tys,n:=23,h:=0,tab:=[(195,ZkV),(252,ZgW)],cut:=[3],hand:=[(195,[1])],sched:=[(2,(.first 1 (.alt 0 (.alt 2 (.alt 3 ZsV .stop) (.alt 3 ZsX .stop)) (.alt 3 (.alt 0 ZsX (.alt 4 (.alt 0 ZsW .stop) .stop)) .stop))))] }
theorem ZAx {P:Prop} (h:P:=by
  refine Y4 ?_
  refine And.intro hq2 ?_
  exact⟨_,he,(Za [(10000000,18)])⟩):P:=h
theorem ZJP {P:Prop} (h:P:=by
  skip
  refine Y5 ?_ ?_
  ·skip
   refine And.intro hq1 ?_
   refine Y4 ?_
   exact ZAx
  ·skip
   refine Y4 ?_
   refine And.intro hq1 ?_
   exact ZAx):P:=h
theorem ZEQ:Zl Tryz.prog 209 ZrL:=by
 refine Zn (C:=ZD0) Tryz.f209 (Zj Zw1 (Zj ZsI Zo)) fun _ a b k he=>?_
 unfold ZrL at he;split at he;rotate_left;exact he.elim
 rename_i list_ c__0 c__1
 refine Zq he fun he=>?_
 refine Zh he fun r1_ he=>?_
 refine ZT (ZqA list_ r1_) (fun _=>(Zm [(7,.c (.own 10000000 false))],[(10000000,.sl 89 y6_ ((([]:List D6_)++list_)++[(r1_.2.2,r1_.2.1)]) .shallow)])) he ?_ ?_
 ·rintro⟨⟩ he
  refine Zi he fun he=>?_
  exact Zuz
 ·skip
  refine And.intro (by kernel_rfl) ?_
  obtain⟨hq1,he⟩:=ZG he
  obtain⟨hq2,he⟩:=ZG he
  refine Y5 ?_ ?_
  ·skip
   refine Y5 ?_ ?_
   ·skip
    refine And.intro hq1 ?_
    refine Y4 ?_
    refine Y4 ?_
    exact ZAx
   ·exact ZJP
  ·skip
   refine Y5 ?_ ?_
   ·exact ZJP
   ·skip
    refine Y4 ?_
    refine Y4 ?_
    refine And.intro hq1 ?_
    exact ZAx
def ZrK:Con:=fun
  |[.c (.imm (.pair (.int .i64) (.int .i64)) terms),.c (.int .i64 bound_)],[]=>.opt _ (Zq9 terms bound_) (fun r=>.ret (.tup [.c (.own 900 false),.c (.int .i64 r.1)]) [(900,.sl 3 y0_ r.2 .shallow)])
  |_,_=>.fail
def ZsM:Sched:=.first 11 (.alt 12 .done .stop)
def ZsN:Sched:=.first 10 ZsM
def ZsO:Sched:=.alt 9 ZsN .stop
def Znp:Sched:=.alt 7 ZsN .stop
def ZsP:Sched:=.alt 7 ZsO (.alt 9 Znp .stop)
def ZsQ:Sched:=.alt 5 (.first 6 Znp) .stop
def ZsR:Sched:=.first 10 (.alt 2 ZsM .stop)
def ZsS:Sched:=.alt 2 Znp (.alt 7 ZsR .stop)
def ZsT:Sched:=.first 13 (.alt 14 .done .stop)
def Zrx:Sched:=.first 12 ZsT
def Zry:Sched:=.alt 11 Zrx .stop
def ZmO:Sched:=.alt 9 Zrx .stop
def Zrz:Sched:=.alt 9 Zry (.alt 11 ZmO .stop)
def ZrA:Sched:=.alt 6 (Zv [7,8] ZmO) .stop
def ZrB:Sched:=.first 12 (.alt 2 (.first 3 ZsT) .stop)
def ZrC:Sched:=.alt 2 (.first 3 ZmO) (.alt 9 ZrB .stop)
def ZDZ:Cfg:={ y:=tys,n:=55,h:=0,tab:=[],cut:=[9,10],sched:=[(7,(Zv [0,1,3,4,8] (.alt 2 (.alt 5 (.first 6 ZsP) (.alt 9 ZsQ .stop)) (.alt 5 (.first 6 (.alt 2 ZsP (.alt 7 (.alt 2 ZsO (.alt 9 ZsR .stop)) (.alt 9 ZsS .stop)))) (.alt 9 (.alt 2 ZsQ (.alt 5 (.first 6 ZsS) .stop)) .stop))))),(8,(Zv [0,1,4,5,10] (.alt 2 (.first 3 (.alt 6 (Zv [7,8] Zrz) (.alt 11 ZrA .stop))) (.alt 6 (Zv [7,8] (.alt 2 (.first 3 Zrz) (.alt 9 (.alt 2 (.first 3 Zry) (.alt 11 ZrB .stop)) (.alt 11 ZrC .stop)))) (.alt 11 (.alt 2 (.first 3 ZrA) (.alt 6 (Zv [7,8] ZrC) .stop)) .stop)))))] }
theorem ZAy {P:Prop} (h:P:=by
  refine Y4 ?_
  refine And.intro hq2 ?_
  refine And.intro hq1 ?_
  exact ZiB):P:=h
theorem ZJQ {P:Prop} (h:P:=by
  refine Y5 ?_ ?_
  ·skip
   exact ZAy
  ·skip
   exact ZAy):P:=h
theorem ZJR {P:Prop} (h:P:=by
  skip
  refine Y4 ?_
  refine And.intro hq1 ?_
  exact ZAy):P:=h
theorem ZJS {P:Prop} (h:P:=by
  refine Y5 ?_ ?_
  ·skip
   refine And.intro hq1 ?_
   exact ZJQ
  ·exact ZJR):P:=h
theorem ZFR {P:Prop} (h:P:=by
  refine Y5 ?_ ?_
  ·skip
   exact ZAy
  ·skip
   refine And.intro hq2 ?_
   refine Y4 ?_
   refine And.intro hq1 ?_
   exact ZiB):P:=h
theorem ZJT {P:Prop} (h:P:=by
  refine And.intro hq3 ?_
  refine Y4 ?_
  exact⟨_,he,(Za [(10002000,10000000),(10002001,8)])⟩):P:=h
theorem ZAz {P:Prop} (h:P:=by
  refine Y4 ?_
  refine And.intro hq4 ?_
  exact ZJT):P:=h
theorem ZJU {P:Prop} (h:P:=by
  refine Y5 ?_ ?_
  ·skip
   exact ZAz
  ·skip
   exact ZAz):P:=h
theorem ZJV {P:Prop} (h:P:=by
  refine Y4 ?_
  refine And.intro hq1 ?_
  refine And.intro hq3 ?_
  exact ZAz):P:=h
theorem ZFS {P:Prop} (h:P:=by
  refine Y5 ?_ ?_
  ·skip
   refine And.intro hq1 ?_
   exact ZAz
  ·skip
   refine And.intro hq4 ?_
   refine Y4 ?_
   refine And.intro hq1 ?_
   exact ZJT):P:=h
theorem ZEP:Zl Tryz.prog 253 ZrK:=by
 refine Zn (C:=ZDZ) Tryz.f253 Zo fun _ a b k he=>?_
 unfold ZrK at he;split at he;rotate_left;exact he.elim
 rename_i terms bound_
 refine Zq he fun he=>?_
 refine Zi he fun he=>?_
 refine ZT (Zqx) (fun (bound_2,net2)=>(Zm [(1,.c (.int .i64 bound_2)),(6,.c (.own 10003000 false))],[(10003000,.sl 3 y0_ net2 .shallow)])) he ?_ ?_
 ·rintro⟨bound_2,net2⟩ he
  exact Zy [(4,[]),(5,[])] (Zk he :) (Za [(900,10003000)])
 ·skip
  refine Zr (ZmE terms) (fun (bound_1,i,net1)=>(Zm [(0,.c (.imm y5_ terms)),(1,.c (.int .i64 bound_1)),(6,.c (.own 10000000 false)),(7,.c (.int .i64 i))],[(10000000,.sl 3 y0_ net1 .shallow)])) he (Za [(10000000,9)]) ?_
  rintro⟨bound_1,i,net1⟩ _ he
  refine Zf he (fun he=>?_) fun he=>?_
  ·refine Zi he fun he=>?_
   refine Zf he (fun he=>?_) fun he=>?_
   ·refine And.intro (by kernel_rfl) ?_
    obtain⟨hq1,he⟩:=ZG he
    obtain⟨hq2,he⟩:=ZG he
    obtain⟨hq3,he⟩:=ZG he
    refine And.intro ?_ (And.intro ?_ (And.intro ?_ (Y1)))
    ·skip
     exact ZJS
    ·skip
     refine And.intro hq1 ?_
     refine And.intro ?_ (And.intro ?_ (And.intro ?_ (Y1)))
     ·skip
      exact ZJQ
     ·skip
      exact ZFR
     ·skip
      exact ZFR
    ·skip
     refine Y5 ?_ ?_
     ·exact ZJR
     ·skip
      refine And.intro hq1 ?_
      exact ZFR
   ·refine ZT (Zqy terms bound_1 i net1) (fun _=>(Zm [(0,.c (.imm y5_ terms)),(1,.c (.int .i64 bound_1)),(6,.c (.own 10002000 false)),(7,.c (.int .i64 i)),(8,.c (.ptr 10002001 0))],[(10002000,.sl 3 y0_ (net1.set (0 - (terms.getD i.toNat (0,0)).2).toNat ((net1.getD (0 - (terms.getD i.toNat (0,0)).2).toNat 0) - (terms.getD i.toNat (0,0)).1)) .shallow),(10002001,.rc [.int .i64 (terms.getD i.toNat (0,0)).1,.int .i64 (terms.getD i.toNat (0,0)).2])])) he ?_ ?_
    ·rintro⟨⟩ he
     refine Zi he fun he=>?_
     exact ZFM
    ·skip
     refine And.intro (by kernel_rfl) ?_
     obtain⟨hq1,he⟩:=ZG he
     obtain⟨hq2,he⟩:=ZG he
     obtain⟨hq3,he⟩:=ZG he
     obtain⟨hq4,he⟩:=ZG he
     obtain⟨hq5,he⟩:=ZG he
     refine And.intro ?_ (And.intro ?_ (And.intro ?_ (Y1)))
     ·skip
      refine And.intro hq1 ?_
      refine Y5 ?_ ?_
      ·skip
       refine And.intro hq1 ?_
       refine And.intro hq3 ?_
       exact ZJU
      ·skip
       exact ZJV
     ·skip
      refine And.intro hq1 ?_
      refine And.intro hq3 ?_
      refine And.intro ?_ (And.intro ?_ (And.intro ?_ (Y1)))
      ·skip
       refine And.intro hq1 ?_
       exact ZJU
      ·skip
       exact ZFS
      ·skip
       exact ZFS
     ·skip
      refine Y5 ?_ ?_
      ·skip
       refine And.intro hq1 ?_
       exact ZJV
      ·skip
       refine And.intro hq1 ?_
       refine And.intro hq3 ?_
       exact ZFS
  ·exact⟨_,(ZcJ he :),(Za [(10003000,10000000)])⟩
def Zig:Con:=fun
  |[.agg [.imm (.pair (.int .i64) (.int .i64)) a_0,.int .i64 a_1],.agg [.imm (.pair (.int .i64) (.int .i64)) b_0,.int .i64 b_1]],[]=>.opt _ (ZgE (a_0,a_1) (b_0,b_1)) (fun r=>.ret (.tup [.agg [.own 901 false,.int .i64 r.2.1],.c (.bool r.1)]) [(900,.rc [.own 901 false,.int .i64 r.2.1]),(901,.sl 155 y5_ r.2.2 .shallow)])
  |_,_=>.fail
def Zt6:Cfg:={ y:=tys,n:=38,h:=0,tab:=[(134,Zhb),(168,Z2),(253,ZrK)],cut:=[1],sched:=[(3,(Zv [1,2,4,5,7,8,9,10,11] (.alt 0 (.alt 3 (.alt 6 (.alt 12 (Zv [13,14,15,16,17] .done) .stop) .stop) .stop) .stop)))] }
theorem Zsl {P:Prop} (h:P:=by
  exact Zy [(4,[900]),(5,[])] (Zk he :) (Za [(900,10000000)])):P:=h
theorem Zug:Zl Tryz.prog 211 Zig:=by
 refine Zn (C:=Zt6) Tryz.f211 (Zj ZnQ (Zj Zbl (Zj ZEP Zo))) fun _ a b k he=>?_
 unfold Zig at he;split at he;rotate_left;exact he.elim
 rename_i a_0 a_1 b_0 b_1
 refine Zq he fun he=>?_
 refine ZT (ZhD (a_0,a_1) (b_0,b_1)) (fun _=>(Zm [(2,.c (.iptr y6_ (a_0,a_1) 0)),(3,.c (.iptr y6_ (b_0,b_1) 0)),(4,.c (.ptr 10000000 0))],[(10000000,.rc [.nil,.int .i64 (0:Int)])])) he ?_ ?_
 ·rintro⟨⟩ he
  refine Zh he fun r1_ he=>?_
  refine ZC he (fun he=>?_) fun he=>?_
  ·refine Zh he fun r2_ he=>?_
   refine Zf he (fun he=>?_) fun he=>?_
   ·exact Zsl
   ·refine And.intro (by kernel_rfl) ?_
    refine Zi he fun he=>?_
    refine Y4 ?_
    refine Y4 ?_
    refine Zi he fun he=>?_
    refine Y4 ?_
    refine Zi he fun he=>?_
    refine Y4 ?_
    refine Zh he fun r4_ he=>?_
    refine Zh he fun r5_ he=>?_
    exact Zy [(4,[900]),(5,[])] (Zk he :) (Za [(900,10000000),(901,36901)])
  ·exact Zsl
 ·skip
  exact⟨_,he,(ZcE [(10000000,4)] rfl rfl ⟨⟨rfl,rfl,Y1⟩,Y1⟩ ⟨.inr ⟨2,rfl,⟨rfl,by repeat (first|exact trivial|refine And.intro trivial ?_)⟩,rfl⟩,.inr ⟨3,rfl,⟨rfl,by repeat (first|exact trivial|refine And.intro trivial ?_)⟩,rfl⟩,⟨Y2,rfl⟩,Y1⟩)⟩
def Zfz:Con:=fun
  |[.agg [.imm (.pair (.int .i64) (.int .i64)) c__0,.int .i64 c__1],.c (.int .i64 k_)],[]=>.opt _ (Zed (c__0,c__1) k_) (fun r=>.ret (.tup [.agg [.own 901 false,.int .i64 r.2.1],.c (.bool r.1)]) [(900,.rc [.own 901 false,.int .i64 r.2.1]),(901,.sl 155 y5_ r.2.2 .shallow)])
  |_,_=>.fail
def Zh8:Sched:=.alt 18 (.first 19 (.alt 20 .done .stop)) .stop
def Zh9:Sched:=.alt 17 Zh8 .stop
def Zep:Sched:=.alt 16 Zh9 .stop
def Zia:Sched:=.alt 11 (Zv [13,14,15] Zep) .stop
def Zib:Sched:=.alt 3 (Zv [5,6,7,9] Zep) .stop
def Zic:Sched:=.alt 1 Zep (.alt 16 (.alt 1 Zh9 (.alt 17 (.alt 1 Zh8 .stop) .stop)) .stop)
def ZqO:Cfg:={ y:=tys,n:=57,h:=0,tab:=[(168,Z2)],cut:=[8],sched:=[(7,(Zv [0,2,4,8,10,12] (.alt 1 (.alt 3 (Zv [5,6,7,9] Zia) (.alt 11 (Zv [13,14,15] Zib) .stop)) (.alt 3 (Zv [5,6,7,9] (.alt 1 Zia (.alt 11 (Zv [13,14,15] Zic) .stop))) (.alt 11 (Zv [13,14,15] (.alt 1 Zib (.alt 3 (Zv [5,6,7,9] Zic) .stop))) .stop)))))] }
theorem ZjN {P:Prop} (h:P:=by
  exact Zy [(4,[900]),(5,[])] (Zk he :) (Za [(900,4)])):P:=h
theorem ZFT {P:Prop} (h:P:=by
  exact Zy [(4,[900]),(5,[])] (Zk he :) (Za [(900,10001000)])):P:=h
theorem ZAA {P:Prop} (h:P:=by
  exact Zy [(4,[900]),(5,[])] (Zk he :) (Za [(900,10001000),(901,10001002)])):P:=h
theorem ZFU {P:Prop} (h:P:=by
  refine Y4 ?_
  refine Y4 ?_
  refine And.intro hq4 ?_
  refine Y4 ?_
  refine Zi he fun he=>?_
  exact⟨_,(Zk he :),(Za [(10000003,50)])⟩):P:=h
theorem ZAB {P:Prop} (h:P:=by
  refine Y4 ?_
  exact ZFU):P:=h
theorem ZJW {P:Prop} (h:P:=by
  refine Y4 ?_
  refine And.intro hq1 ?_
  refine And.intro hq2 ?_
  exact ZAB):P:=h
theorem ZJX {P:Prop} (h:P:=by
  refine Y5 ?_ ?_
  ·skip
   exact ZAB
  ·skip
   refine Y5 ?_ ?_
   ·skip
    exact ZFU
   ·skip
    exact ZFU):P:=h
theorem Zq2:Zl Tryz.prog 212 Zfz:=by
 refine Zn (C:=ZqO) Tryz.f212 (Zj Zbl Zo) fun _ a b k he=>?_
 unfold Zfz at he;split at he;rotate_left;exact he.elim
 rename_i c__0 c__1 k_
 refine Zq he fun he=>?_
 refine Zh he fun r1_ he=>?_
 refine ZC he (fun he=>?_) fun he=>?_
 ·refine ZC he (fun he=>?_) fun he=>?_
  ·refine Zf he (fun he=>?_) fun he=>?_
   ·exact ZjN
   ·refine Zi he fun he=>?_
    refine ZT (Zfj (c__0,c__1) k_) (fun out_01=>(Zm [(4,.c (.ptr 10001000 0)),(6,.c (.ptr 10001001 0))],[(10001000,.rc [.nil,.int .i64 (0:Int)]),(10001001,.rc [.own 10001002 false,.int .i64 ((c__0,c__1).2*k_)]),(10001002,.sl 155 y5_ out_01 .shallow)])) he ?_ ?_
    ·rintro out_01 he
     refine Zh he fun r2_ he=>?_
     refine Zf he (fun he=>?_) fun he=>?_
     ·exact ZFT
     ·exact ZAA
    ·skip
     refine Zr (ZcS (c__0,c__1) k_) (fun (i,out_0)=>(Zm [(1,.c (.int .i64 k_)),(2,.c (.ptr 10000000 0)),(4,.c (.ptr 10000001 0)),(6,.c (.ptr 10000002 0)),(7,.c (.int .i64 i))],[(10000000,.rc [.imm y5_ (c__0,c__1).1,.int .i64 (c__0,c__1).2]),(10000001,.rc [.nil,.int .i64 (0:Int)]),(10000002,.rc [.own 10000003 false,.int .i64 ((c__0,c__1).2*k_)]),(10000003,.sl 155 y5_ out_0 .shallow)])) he (Za [(10000000,2),(10000001,4),(10000002,6)]) ?_
     rintro⟨i,out_0⟩ _ he
     refine Zf he (fun he=>?_) fun he=>?_
     ·refine And.intro (by kernel_rfl) ?_
      obtain⟨hq1,he⟩:=ZG he
      obtain⟨hq2,he⟩:=ZG he
      obtain⟨hq3,he⟩:=ZG he
      obtain⟨hq4,he⟩:=ZG he
      refine And.intro ?_ (And.intro ?_ (And.intro ?_ (Y1)))
      ·skip
       refine Y5 ?_ ?_
       ·skip
        refine And.intro hq1 ?_
        refine And.intro hq2 ?_
        refine Y4 ?_
        refine And.intro hq1 ?_
        exact ZAB
       ·skip
        refine And.intro hq1 ?_
        exact ZJW
      ·skip
       refine And.intro hq1 ?_
       refine And.intro hq2 ?_
       refine Y5 ?_ ?_
       ·skip
        refine Y4 ?_
        refine And.intro hq1 ?_
        exact ZAB
       ·skip
        refine And.intro hq1 ?_
        exact ZJX
      ·skip
       refine And.intro hq1 ?_
       refine Y5 ?_ ?_
       ·skip
        exact ZJW
       ·skip
        refine And.intro hq1 ?_
        refine And.intro hq2 ?_
        exact ZJX
     ·exact⟨_,(ZcJ he :),(Za [(10001000,10000001),(10001001,10000002),(10001002,10000003)])⟩
  ·exact ZjN
 ·exact ZjN
def ZtG:Con:=fun
  |[.c (.int .i64 n),.c (.int .i64 k_)],[]=>.opt _ (ZpZ n k_) (fun r=>.ret (.c (.int .i64 r)) [])
  |_,_=>.fail
def ZF3:Cfg:={ y:=tys,n:=11,h:=0,tab:=[] }
theorem ZGl:Zl Tryz.prog 254 ZtG:=by
 refine Zn (C:=ZF3) Tryz.f254 Zo fun _ a b k he=>?_
 unfold ZtG at he;split at he;rotate_left;exact he.elim
 rename_i n k_
 refine Zq he fun he=>?_
 refine Zi he fun he=>?_
 exact ZAw
def ZgV:Con:=fun
  |[.agg [.imm (.pair (.int .i64) (.int .i64)) c__0,.int .i64 c__1],.c (.int .i64 k_)],[]=>.opt _ (Ze7 (c__0,c__1) k_) (fun r=>.ret (.tup [.agg [.own 901 false,.int .i64 r.2.1],.c (.bool r.1)]) [(900,.rc [.own 901 false,.int .i64 r.2.1]),(901,.sl 155 y5_ r.2.2 .shallow)])
  |_,_=>.fail
def Zju:Sched:=.alt 18 (.first 19 (.alt 20 .done .stop)) .stop
def Zjv:Sched:=.alt 17 Zju .stop
def Zjw:Sched:=.alt 16 Zjv .stop
def Zsw:Cfg:={ y:=tys,n:=53,h:=0,tab:=[(168,Z2),(254,ZtG)],cut:=[1],sched:=[(7,(Zv [0,2,3,4,5,6,7,8,10,11,12,13,14,15] (.alt 1 (.alt 9 Zjw .stop) (.alt 9 (.alt 1 Zjw (.alt 16 (.alt 1 Zjv (.alt 17 (.alt 1 Zju .stop) .stop)) .stop)) .stop))))] }
theorem ZAC {P:Prop} (h:P:=by
  refine Y4 ?_
  refine Y4 ?_
  refine And.intro hq2 ?_
  refine Y4 ?_
  refine Zi he fun he=>?_
  exact⟨_,(Zk he :),(Za [(10001002,50)])⟩):P:=h
theorem ZsH:Zl Tryz.prog 213 ZgV:=by
 refine Zn (C:=Zsw) Tryz.f213 (Zj Zbl (Zj ZGl Zo)) fun _ a b k he=>?_
 unfold ZgV at he;split at he;rotate_left;exact he.elim
 rename_i c__0 c__1 k_
 refine Zq he fun he=>?_
 refine ZT (Zgk (c__0,c__1) k_) (fun _=>(Zm [(1,.c (.int .i64 k_)),(2,.c (.iptr y6_ (c__0,c__1) 0)),(4,.c (.ptr 10000000 0))],[(10000000,.rc [.nil,.int .i64 (0:Int)])])) he ?_ ?_
 ·rintro⟨⟩ he
  refine Zh he fun r1_ he=>?_
  refine ZC he (fun he=>?_) fun he=>?_
  ·refine ZC he (fun he=>?_) fun he=>?_
   ·refine Zf he (fun he=>?_) fun he=>?_
    ·exact Zsl
    ·refine Zh he fun r2_ he=>?_
     refine Zr (Zc9 (c__0,c__1) k_ r2_) (fun (i,out_0)=>(Zm [(1,.c (.int .i64 k_)),(2,.c (.iptr y6_ (c__0,c__1) 0)),(4,.c (.ptr 10001000 0)),(6,.c (.ptr 10001001 0)),(7,.c (.int .i64 i))],[(10001000,.rc [.nil,.int .i64 (0:Int)]),(10001001,.rc [.own 10001002 false,.int .i64 r2_]),(10001002,.sl 155 y5_ out_0 .shallow)])) he (Za [(10001000,10000000),(10001001,6)]) ?_
     rintro⟨i,out_0⟩ _ he
     refine Zf he (fun he=>?_) fun he=>?_
     ·refine And.intro (by kernel_rfl) ?_
      refine Zi he fun he=>?_
      refine Zi he fun he=>?_
      obtain⟨r5_,hq1,he⟩:=Z5 he
      obtain⟨hq2,he⟩:=ZG he
      refine Y5 ?_ ?_
      ·skip
       refine Y4 ?_
       refine⟨r5_,hq1,?_⟩
       refine Y4 ?_
       exact ZAC
      ·skip
       refine⟨r5_,hq1,?_⟩
       refine Y5 ?_ ?_
       ·skip
        refine Y4 ?_
        exact ZAC
       ·skip
        refine Y5 ?_ ?_
        ·skip
         exact ZAC
        ·skip
         exact ZAC
     ·exact ZAA
   ·exact Zsl
  ·exact Zsl
 ·skip
  exact⟨_,he,(ZcE [(10000000,4)] rfl rfl ⟨⟨rfl,rfl,Y1⟩,Y1⟩ ⟨rfl,.inr ⟨2,rfl,⟨rfl,by repeat (first|exact trivial|refine And.intro trivial ?_)⟩,rfl⟩,⟨Y2,rfl⟩,Y1⟩)⟩
def ZlW:Con:=fun
  |[.agg [.imm (.pair (.int .i64) (.int .i64)) c__0,.int .i64 c__1]],[]=>.opt _ (Zkw (c__0,c__1)) (fun r=>.ret (.agg [.own 901 false,.int .i64 r.1]) [(900,.rc [.own 901 false,.int .i64 r.1]),(901,.sl 155 y5_ r.2 .shallow)])
  |_,_=>.fail
def Zyg:Cfg:={ y:=tys,n:=41,h:=0,tab:=[],cut:=[8] }
theorem ZJY {P:Prop} (h:P:=by
  exact⟨_,he,(Za [(10002000,10000000),(10002001,10000001),(10002002,10000002),(10002003,5),(10002004,10000003)])⟩):P:=h
theorem Zyn:Zl Tryz.prog 255 ZlW:=by
 refine Zn (C:=Zyg) Tryz.f255 Zo fun _ a b k he=>?_
 unfold ZlW at he;split at he;rotate_left;exact he.elim
 rename_i c__0 c__1
 refine Zq he fun he=>?_
 refine Zr (ZdE (c__0,c__1)) (fun (i,out_0)=>(Zm [(1,.c (.ptr 10000000 0)),(2,.c (.ptr 10000001 0)),(3,.c (.ptr 10000002 0)),(4,.c (.int .i64 i))],[(10000000,.rc [.imm y5_ (c__0,c__1).1,.int .i64 (c__0,c__1).2]),(10000001,.rc [.nil,.int .i64 (0:Int)]),(10000002,.rc [.own 10000003 false,.int .i64 (c__0,c__1).2]),(10000003,.sl 155 y5_ out_0 .shallow)])) he (Za [(10000000,1),(10000001,2),(10000002,3)]) ?_
 rintro⟨i,out_0⟩ _ he
 refine Zf he (fun he=>?_) fun he=>?_
 ·refine Zf he (fun he=>?_) fun he=>?_
  ·refine Zi he fun he=>?_
   refine ZT (Zho i out_0) (fun t_1=>(Zm [(1,.c (.ptr 10002000 0)),(2,.c (.ptr 10002001 0)),(3,.c (.ptr 10002002 0)),(4,.c (.int .i64 i)),(5,.c (.ptr 10002003 0))],[(10002000,.rc [.imm y5_ (c__0,c__1).1,.int .i64 (c__0,c__1).2]),(10002001,.rc [.nil,.int .i64 (0:Int)]),(10002002,.rc [.own 10002004 false,.int .i64 (c__0,c__1).2]),(10002003,.rc [.int .i64 t_1.1,.int .i64 t_1.2]),(10002004,.sl 155 y5_ out_0 .shallow)])) he ?_ ?_
   ·rintro t_1 he
    refine Zi he fun he=>?_
    refine Zi he fun he=>?_
    exact⟨_,(Zk he :),(Za [(10000000,10002000),(10000001,10002001),(10000002,10002002),(10000003,38)])⟩
   ·skip
    refine Zf he (fun he=>?_) fun he=>?_
    ·exact ZJY
    ·exact ZJY
  ·exact Zy [(2,[900])] (Zk he :) (Za [(900,10000001),(901,10000003)])
 ·exact Zy [(2,[900])] (Zk he :) (Za [(900,10000001),(901,10000003)])
def ZfA:Con:=fun
  |[.agg [.imm (.pair (.int .i64) (.int .i64)) c__0,.int .i64 c__1]],[]=>.opt _ (Zee (c__0,c__1)) (fun r=>.ret (.tup [.agg [.own 901 false,.int .i64 r.2.1],.c (.bool r.1)]) [(900,.rc [.own 901 false,.int .i64 r.2.1]),(901,.sl 155 y5_ r.2.2 .shallow)])
  |_,_=>.fail
def ZqP:Cfg:={ y:=tys,n:=10,h:=0,tab:=[(168,Z2),(255,ZlW)] }
theorem Zq3:Zl Tryz.prog 214 ZfA:=by
 refine Zn (C:=ZqP) Tryz.f214 (Zj Zbl (Zj Zyn Zo)) fun _ a b k he=>?_
 unfold ZfA at he;split at he;rotate_left;exact he.elim
 rename_i c__0 c__1
 refine Zq he fun he=>?_
 refine Zh he fun r1_ he=>?_
 refine Zf he (fun he=>?_) fun he=>?_
 ·exact Zon
 ·refine Zh he fun r2_ he=>?_
  exact Zy [(2,[900]),(3,[])] (Zk he :) (Za [(900,2),(901,10901)])
def ZgX:Con:=fun
  |[.agg [.imm (.pair (.int .i64) (.int .i64)) c__0,.int .i64 c__1],.c (.int .i64 variable_)],[]=>.opt _ (Zfa (c__0,c__1) variable_) (fun r=>.ret (.tup [.agg [.own 901 false,.int .i64 r.2.1],.c (.bool r.1)]) [(900,.rc [.own 901 false,.int .i64 r.2.1]),(901,.sl 155 y5_ r.2.2 .shallow)])
  |_,_=>.fail
def ZjB:Sched:=.first 9 (.alt 10 .done .stop)
def ZjC:Sched:=.first 8 ZjB
def ZjD:Sched:=.alt 8 ZjB .stop
def ZjE:Sched:=.alt 7 ZjD .stop
def Zsy:Cfg:={ y:=tys,n:=64,h:=0,tab:=[(168,Z2),(229,ZkT)],cut:=[10],sched:=[(8,(Zv [0,2,4] (.alt 1 (.alt 3 (Zv [5,6,7] ZjC) .stop) (.alt 3 (Zv [5,6,7] (.alt 1 ZjC .stop)) .stop)))),(9,(Zv [0,2,4] (.alt 1 (.alt 3 (Zv [5,6] ZjE) .stop) (.alt 3 (Zv [5,6] (.alt 1 ZjE (.alt 7 (.alt 1 ZjD .stop) .stop))) .stop))))] }
theorem ZFV {P:Prop} (h:P:=by
  refine Y4 ?_
  refine Y4 ?_
  refine And.intro hq2 ?_
  refine Y4 ?_
  refine Zi he fun he=>?_
  exact⟨_,(Zk he :),(Za [(10000003,57)])⟩):P:=h
theorem ZsJ:Zl Tryz.prog 215 ZgX:=by
 refine Zn (C:=Zsy) Tryz.f215 (Zj Zbl (Zj ZrX Zo)) fun _ a b k he=>?_
 unfold ZgX at he;split at he;rotate_left;exact he.elim
 rename_i c__0 c__1 variable_
 refine Zq he fun he=>?_
 refine Zh he fun r1_ he=>?_
 refine ZC he (fun he=>?_) fun he=>?_
 ·refine ZC he (fun he=>?_) fun he=>?_
  ·refine Zf he (fun he=>?_) fun he=>?_
   ·exact ZjN
   ·refine ZT (Zgp) (fun (out_11,out_01)=>(Zm [(4,.c (.ptr 10001000 0)),(6,.c (.ptr 10001001 0))],[(10001000,.rc [.nil,.int .i64 (0:Int)]),(10001001,.rc [.own 10001002 false,.int .i64 out_11]),(10001002,.sl 155 y5_ out_01 .shallow)])) he ?_ ?_
    ·rintro⟨out_11,out_01⟩ he
     refine Zf he (fun he=>?_) fun he=>?_
     ·exact ZAA
     ·exact ZAA
    ·skip
     refine Zr (Zd0 (c__0,c__1) variable_) (fun (i,out_1,out_0)=>(Zm [(1,.c (.int .i64 variable_)),(2,.c (.ptr 10000000 0)),(4,.c (.ptr 10000001 0)),(6,.c (.ptr 10000002 0)),(7,.c (.int .i64 i))],[(10000000,.rc [.imm y5_ (c__0,c__1).1,.int .i64 (c__0,c__1).2]),(10000001,.rc [.nil,.int .i64 (0:Int)]),(10000002,.rc [.own 10000003 false,.int .i64 out_1]),(10000003,.sl 155 y5_ out_0 .shallow)])) he (Za [(10000000,2),(10000001,4),(10000002,6)]) ?_
     rintro⟨i,out_1,out_0⟩ _ he
     refine Zf he (fun he=>?_) fun he=>?_
     ·refine Zi he fun he=>?_
      refine Zh he fun r3_ he=>?_
      refine Zf he (fun he=>?_) fun he=>?_
      ·refine And.intro (by kernel_rfl) ?_
       obtain⟨hq1,he⟩:=ZG he
       obtain⟨hq2,he⟩:=ZG he
       refine Y5 ?_ ?_
       ·skip
        refine Y4 ?_
        refine And.intro hq1 ?_
        refine And.intro hq2 ?_
        exact ZiB
       ·skip
        refine And.intro hq1 ?_
        refine Y4 ?_
        refine And.intro hq2 ?_
        exact ZiB
      ·refine And.intro (by kernel_rfl) ?_
       obtain⟨hq1,he⟩:=ZG he
       obtain⟨hq2,he⟩:=ZG he
       refine Y5 ?_ ?_
       ·skip
        refine Y4 ?_
        refine And.intro hq1 ?_
        exact ZFV
       ·skip
        refine And.intro hq1 ?_
        refine Y5 ?_ ?_
        ·skip
         exact ZFV
        ·skip
         exact ZFV
     ·exact⟨_,(ZcJ he :),(Za [(10001000,10000001),(10001001,10000002),(10001002,10000003)])⟩
  ·exact ZjN
 ·exact ZjN
def Znz:Con:=fun
  |[.agg [.imm (.pair (.sl (.pair (.int .i64) (.int .i64))) (.int .i64)) a0_0,.imm .bool a0_1],.agg [.int .i64 a1_0,.int .i64 a1_1,.int .i64 a1_2,.imm (.pair (.int .i64) (.int .i64)) a1_3,.int .i64 a1_4]],[]=>.opt _ (ZjL (a0_0,a0_1) (a1_0,(a1_1,(a1_2,(a1_3,a1_4))))) (fun r=>.ret (.tup [.agg [.own 901 false,.int .i64 r.2.1],.c (.bool r.1)]) [(900,.rc [.own 901 false,.int .i64 r.2.1]),(901,.sl 155 y5_ r.2.2 .shallow)])
  |_,_=>.fail
def Zpw:Sched:=.alt 11 (.first 12 (.alt 13 (.first 14 .done) .stop)) .stop
def Zpx:Sched:=.alt 8 Zpw .stop
def Zpy:Sched:=.alt 5 (Zv [6,9] (.alt 7 (.alt 8 (.alt 10 Zpw .stop) (.alt 10 Zpx .stop)) (.alt 10 (.alt 7 Zpx .stop) .stop))) .stop
def Zpz:Sched:=.alt 2 Zpy .stop
def ZpA:Sched:=.alt 7 (Zv [8,9] (.alt 10 (.first 11 .done) .stop)) .stop
def ZpB:Sched:=Zv [5,6] ZpA
def ZpC:Sched:=.alt 4 ZpB .stop
def ZpD:Sched:=.alt 2 ZpB .stop
def ZpE:Sched:=Zv [5,6] (.alt 0 ZpA .stop)
def Zzt:Cfg:={ y:=tys,n:=91,h:=0,tab:=[(136,Zqe),(151,Zmx),(168,Z2),(208,Zj3),(209,ZrL),(210,Zqg),(211,Zig),(212,Zfz),(213,ZgV),(214,ZfA),(215,ZgX)],sched:=[(4,(Zv [0,3] (.alt 1 (.alt 2 (.alt 4 Zpy .stop) (.alt 4 Zpz .stop)) (.alt 4 (.alt 1 Zpz .stop) .stop)))),(12,(Zv [1,3] (.alt 0 (.alt 2 ZpC (.alt 4 ZpD .stop)) (.alt 2 (.alt 0 ZpC (.alt 4 ZpE .stop)) (.alt 4 (.alt 0 ZpD (.alt 2 ZpE .stop)) .stop)))))] }
theorem ZFW {P:Prop} (h:P:=by
  refine Y4 ?_
  exact Zy [(4,[900]),(5,[])] (Zk he :) (Za [(900,4),(901,21901)])):P:=h
theorem ZJZ {P:Prop} (h:P:=by
  refine Y4 ?_
  refine⟨r8_,hq1,?_⟩
  refine Y4 ?_
  refine⟨r9_,hq2,?_⟩
  exact ZFW):P:=h
theorem ZFX {P:Prop} (h:P:=by
  refine Y4 ?_
  refine Y4 ?_
  exact ZFW):P:=h
theorem ZFY {P:Prop} (h:P:=by
  refine Y4 ?_
  refine⟨r7_,hq2,?_⟩
  refine Zf he (fun he=>?_) fun he=>?_
  ·obtain⟨r8_,hq1,he⟩:=Z5 he
   obtain⟨r9_,hq2,he⟩:=Z5 he
   refine Y5 ?_ ?_
   ·skip
    refine Y5 ?_ ?_
    ·skip
     refine⟨r8_,hq1,?_⟩
     refine Y4 ?_
     refine Y4 ?_
     refine⟨r9_,hq2,?_⟩
     exact ZFW
    ·skip
     exact ZJZ
   ·skip
    refine Y4 ?_
    exact ZJZ
  ·refine Y5 ?_ ?_
   ·skip
    refine Y5 ?_ ?_
    ·skip
     exact ZFX
    ·skip
     exact ZFX
   ·skip
    refine Y4 ?_
    exact ZFX):P:=h
theorem ZJ0 {P:Prop} (h:P:=by
  refine Y4 ?_
  refine⟨r13_,hq2,?_⟩
  refine Y4 ?_
  exact Zy [(4,[900]),(5,[])] (Zk he :) (Za [(900,4),(901,61901)])):P:=h
theorem ZFZ {P:Prop} (h:P:=by
  skip
  refine Y4 ?_
  refine And.intro hq1 ?_
  exact ZJ0):P:=h
theorem ZJ1 {P:Prop} (h:P:=by
  skip
  refine Y5 ?_ ?_
  ·exact ZFZ
  ·skip
   refine And.intro hq1 ?_
   refine Y4 ?_
   exact ZJ0):P:=h
theorem ZzT:Zl Tryz.prog 152 Znz:=by
 refine Zn (C:=Zzt) Tryz.f152 (Zj ZDq (Zj ZvL (Zj Zbl (Zj Zwk (Zj ZEQ (Zj ZDs (Zj Zug (Zj Zq2 (Zj ZsH (Zj Zq3 (Zj ZsJ Zo))))))))))) fun _ a b k he=>?_
 unfold Znz at he;split at he;rotate_left;exact he.elim
 rename_i a0_0 a0_1 a1_0 a1_1 a1_2 a1_3 a1_4
 refine Zq he fun he=>?_
 refine Zf he (fun he=>?_) fun he=>?_
 ·refine Zh he fun r1_ he=>?_
  exact Zy [(4,[900]),(5,[])] (Zk he :) (Za [(900,4),(901,13901)])
 ·refine Zf he (fun he=>?_) fun he=>?_
  ·refine And.intro (by kernel_rfl) ?_
   obtain⟨r6_,hq1,he⟩:=Z5 he
   obtain⟨r7_,hq2,he⟩:=Z5 he
   refine Y5 ?_ ?_
   ·skip
    refine Y5 ?_ ?_
    ·skip
     refine⟨r6_,hq1,?_⟩
     refine Y4 ?_
     exact ZFY
    ·skip
     refine Y4 ?_
     refine⟨r6_,hq1,?_⟩
     exact ZFY
   ·skip
    refine Y4 ?_
    refine Y4 ?_
    refine⟨r6_,hq1,?_⟩
    exact ZFY
  ·refine Zh he fun r10_ he=>?_
   refine Zf he (fun he=>?_) fun he=>?_
   ·exact ZjN
   ·refine Zi he fun he=>?_
    refine Zf he (fun he=>?_) fun he=>?_
    ·refine Zh he fun r11_ he=>?_
     refine Zf he (fun he=>?_) fun he=>?_
     ·exact ZjN
     ·refine And.intro (by kernel_rfl) ?_
      obtain⟨hq1,he⟩:=ZG he
      obtain⟨r13_,hq2,he⟩:=Z5 he
      refine And.intro ?_ (And.intro ?_ (And.intro ?_ (Y1)))
      ·skip
       refine Y5 ?_ ?_
       ·exact ZFZ
       ·exact ZFZ
      ·exact ZJ1
      ·exact ZJ1
    ·refine Zf he (fun he=>?_) fun he=>?_
     ·refine Zh he fun r14_ he=>?_
      exact Zy [(4,[900]),(5,[])] (Zk he :) (Za [(900,4),(901,69901)])
     ·refine Zf he (fun he=>?_) fun he=>?_
      ·refine Zh he fun r15_ he=>?_
       exact Zy [(4,[900]),(5,[])] (Zk he :) (Za [(900,4),(901,77901)])
      ·refine Zf he (fun he=>?_) fun he=>?_
       ·refine Zh he fun r16_ he=>?_
        exact Zy [(4,[900]),(5,[])] (Zk he :) (Za [(900,4),(901,83901)])
       ·refine Zh he fun r17_ he=>?_
        exact Zy [(4,[900]),(5,[])] (Zk he :) (Za [(900,4),(901,89901)])
def ZrM:Con:=fun
  |[.c (.imm (.pair (.sl (.pair (.int .i64) (.int .i64))) (.int .i64)) a0),.c (.imm (.pair (.int .i64) (.pair (.int .i64) (.pair (.int .i64) (.pair (.sl (.pair (.int .i64) (.int .i64))) (.int .i64))))) a1)],[]=>.opt _ (Zrb a0 a1) (fun r=>.ret (.tup [.agg [.own 901 false,.own 902 false],.c (.int .i64 r.1)]) [(900,.rc [.own 901 false,.own 902 false]),(901,.sl 89 y6_ r.2.1 .shallow),(902,.sl 4 .bool r.2.2 .shallow)])
  |_,_=>.fail
def ZsY:Sched:=.alt 8 .done .stop
def Znq:Sched:=.alt 6 ZsY .stop
def ZsZ:Sched:=.alt 6 (.alt 7 ZsY .stop) (.alt 7 Znq .stop)
def Zs0:Sched:=.alt 5 Znq .stop
def Znr:Sched:=.alt 2 Znq .stop
def Zs1:Sched:=.alt 2 ZsZ (.alt 7 Znr .stop)
def Zs2:Sched:=.alt 2 Zs0 (.alt 5 Znr .stop)
def Zs3:Sched:=.alt 0 Znr .stop
def ZD1:Cfg:={ y:=tys,n:=70,h:=0,tab:=[(150,ZoM),(151,Zmx),(152,Znz)],cut:=[2,6],sched:=[(1,(Zv [1,3,4] (.alt 0 (.alt 2 (.alt 5 ZsZ (.alt 7 Zs0 .stop)) (.alt 5 Zs1 (.alt 7 Zs2 .stop))) (.alt 5 (.alt 0 Zs1 (.alt 7 Zs3 .stop)) (.alt 7 (.alt 0 Zs2 (.alt 5 Zs3 .stop)) .stop)))))] }
theorem ZF0 {P:Prop} (h:P:=by
  exact Zy [(4,[900]),(5,[])] (Zk he :) (Za [(900,10003000),(901,10003002),(902,10003003)])):P:=h
theorem ZxG {P:Prop} (h:P:=by
  refine Y4 ?_
  refine Y4 ?_
  exact⟨_,he,(Za [(10000000,4),(10000001,6),(10000002,13),(10000003,16)])⟩):P:=h
theorem ZJ2 {P:Prop} (h:P:=by
  refine Y5 ?_ ?_
  ·skip
   exact ZxG
  ·skip
   exact ZxG):P:=h
theorem ZAD {P:Prop} (h:P:=by
  refine Y4 ?_
  refine And.intro hq1 ?_
  exact ZxG):P:=h
theorem ZHd {P:Prop} (h:P:=by
  refine Y5 ?_ ?_
  ·skip
   refine And.intro hq1 ?_
   exact ZJ2
  ·skip
   exact ZAD):P:=h
theorem ZHe {P:Prop} (h:P:=by
  skip
  refine Y5 ?_ ?_
  ·skip
   refine And.intro hq1 ?_
   refine Y4 ?_
   refine And.intro hq2 ?_
   exact ZxG
  ·skip
   refine And.intro hq2 ?_
   exact ZAD):P:=h
theorem ZER:Zl Tryz.prog 90 ZrM:=by
 refine Zn (C:=ZD1) Tryz.f90 (Zj ZBD (Zj ZvL (Zj ZzT Zo))) fun _ a b k he=>?_
 unfold ZrM at he;split at he;rotate_left;exact he.elim
 rename_i a0 a1
 refine Zq he fun he=>?_
 refine ZT (ZqB a0 a1) (fun _=>(Zm [(1,.c (.imm y9_ a1)),(4,.c (.ptr 10000000 0)),(6,.c (.ptr 10000001 0))],[(10000000,.rc [.nil,.nil]),(10000001,.rc [.own 10000002 false,.own 10000003 false]),(10000002,.sl 89 y6_ (([]:List D6_)++a0) .shallow),(10000003,.sl 4 .bool (List.replicate (a0.length:Int).toNat false) .shallow)])) he ?_ ?_
 ·rintro⟨⟩ he
  refine Zr (ZmF a1) (fun (i,i_0,i_1)=>(Zm [(1,.c (.imm y9_ a1)),(4,.c (.ptr 10001000 0)),(6,.c (.ptr 10001001 0)),(7,.c (.int .i64 i))],[(10001000,.rc [.nil,.nil]),(10001001,.rc [.own 10001002 false,.own 10001003 false]),(10001002,.sl 89 y6_ i_0 .shallow),(10001003,.sl 4 .bool i_1 .shallow)])) he (Za [(10001000,10000000),(10001001,10000001),(10001002,10000002),(10001003,10000003)]) ?_
  rintro⟨i,i_0,i_1⟩ _ he
  refine Zf he (fun he=>?_) fun he=>?_
  ·refine ZT (ZqC a1 i i_0 i_1) (fun _=>(Zm [(1,.c (.imm y9_ a1)),(4,.c (.ptr 10003000 0)),(6,.c (.ptr 10003001 0)),(7,.c (.int .i64 i)),(8,.c (.iptr y9_ (a1.getD i.toNat (0,(0,(0,([],0))))) 0))],[(10003000,.rc [.nil,.nil]),(10003001,.rc [.own 10003002 false,.own 10003003 false]),(10003002,.sl 89 y6_ i_0 .shallow),(10003003,.sl 4 .bool i_1 .shallow)])) he ?_ ?_
   ·rintro⟨⟩ he
    refine Zh he fun r4_ he=>?_
    refine Zf he (fun he=>?_) fun he=>?_
    ·exact ZF0
    ·refine Zf he (fun he=>?_) fun he=>?_
     ·refine Zh he fun r5_ he=>?_
      refine Zf he (fun he=>?_) fun he=>?_
      ·exact ZF0
      ·refine Zi he fun he=>?_
       refine Zi he fun he=>?_
       exact⟨_,(Zk he :),(Za [(10001000,10003000),(10001001,10003001),(10001002,10003002),(10001003,10003003)])⟩
     ·refine Zh he fun r6_ he=>?_
      refine Zf he (fun he=>?_) fun he=>?_
      ·exact ZF0
      ·refine Zi he fun he=>?_
       refine Zi he fun he=>?_
       refine Zi he fun he=>?_
       exact⟨_,(Zk he :),(Za [(10001000,10003000),(10001001,10003001),(10001002,62),(10001003,67)])⟩
   ·skip
    refine Zi he fun he=>?_
    exact⟨_,he,(ZcE [(10003000,10001000),(10003001,10001001),(10003002,10001002),(10003003,10001003)] rfl rfl ⟨⟨rfl,rfl,Y1⟩,⟨Y3,Y3,Y1⟩,Y2,Y2,Y1⟩ ⟨.inl rfl,⟨Y2,rfl⟩,⟨Y2,rfl⟩,rfl,.inr ⟨8,rfl,⟨rfl,by repeat (first|exact trivial|refine And.intro trivial ?_)⟩,rfl⟩,Y1⟩)⟩
  ·exact Zy [(4,[900]),(5,[])] (Zk he :) (Za [(900,10001000),(901,10001002),(902,10001003)])
 ·skip
  refine And.intro (by kernel_rfl) ?_
  obtain⟨hq1,he⟩:=ZG he
  obtain⟨hq2,he⟩:=ZG he
  refine And.intro ?_ (And.intro ?_ (And.intro ?_ (Y1)))
  ·skip
   refine And.intro ?_ (And.intro ?_ (And.intro ?_ (Y1)))
   ·skip
    refine And.intro hq1 ?_
    refine Y5 ?_ ?_
    ·skip
     refine And.intro hq2 ?_
     exact ZJ2
    ·skip
     refine Y4 ?_
     refine And.intro hq2 ?_
     exact ZxG
   ·skip
    refine And.intro hq2 ?_
    exact ZHd
   ·exact ZHe
  ·skip
   refine And.intro hq2 ?_
   refine Y5 ?_ ?_
   ·skip
    exact ZHd
   ·skip
    refine Y4 ?_
    exact ZAD
  ·skip
   refine Y5 ?_ ?_
   ·exact ZHe
   ·skip
    refine And.intro hq2 ?_
    refine Y4 ?_
    exact ZAD
def Zhz:Con:=fun
  |[.agg [.imm (.pair (.int .i64) (.int .i64)) c__0,.int .i64 c__1]],[]=>.opt _ (ZdZ (c__0,c__1)) (fun r=>.ret (.c (.bool r)) [])
  |_,_=>.fail
def Zkd:Sched:=Zv [7,8,9] .done
def Zke:Sched:=.alt 4 Zkd .stop
def ZtB:Cfg:={ y:=tys,n:=12,h:=0,tab:=[(168,Z2),(216,Zln)],sched:=[(1,(.alt 0 (.alt 1 (Zv [2,5] (.alt 3 (.alt 4 (.alt 6 Zkd .stop) (.alt 6 Zke .stop)) (.alt 6 (.alt 3 Zke .stop) .stop))) .stop) .stop))] }
theorem ZHf {P:Prop} (h:P:=by
  skip
  refine Y4 ?_
  refine⟨r4_,hq1,?_⟩
  exact ZA):P:=h
theorem ZHg {P:Prop} (h:P:=by
  skip
  refine Y4 ?_
  refine Y4 ?_
  refine⟨r4_,hq1,?_⟩
  exact ZA):P:=h
theorem ZHh {P:Prop} (h:P:=by
  skip
  refine Y5 ?_ ?_
  ·skip
   exact ZuB
  ·skip
   exact ZuB):P:=h
theorem ZtO:Zl Tryz.prog 153 Zhz:=by
 refine Zn (C:=ZtB) Tryz.f153 (Zj Zbl (Zj Zuh Zo)) fun _ a b k he=>?_
 unfold Zhz at he;split at he;rotate_left;exact he.elim
 rename_i c__0 c__1
 refine Zq he fun he=>?_
 refine And.intro (by kernel_rfl) ?_
 refine Y4 ?_
 refine Y4 ?_
 refine Zh he fun r3_ he=>?_
 refine Zf he (fun he=>?_) fun he=>?_
 ·obtain⟨r4_,hq1,he⟩:=Z5 he
  refine Y5 ?_ ?_
  ·skip
   refine Y5 ?_ ?_
   ·skip
    refine⟨r4_,hq1,?_⟩
    exact ZuB
   ·exact ZHf
  ·exact ZHg
 ·refine Y5 ?_ ?_
  ·exact ZHh
  ·exact ZAs
def ZoL:Con:=fun
  |[.agg [.imm (.pair (.sl (.pair (.int .i64) (.int .i64))) (.int .i64)) d_0,.imm .bool d_1]],[]=>.opt _ (Zof (d_0,d_1)) (fun r=>.ret (.c (.int .i64 r)) [])
  |_,_=>.fail
def ZA0:Cfg:={ y:=tys,n:=26,h:=0,tab:=[(153,Zhz)] }
theorem ZBC:Zl Tryz.prog 91 ZoL:=by
 refine Zn (C:=ZA0) Tryz.f91 (Zj ZtO Zo) fun _ a b k he=>?_
 unfold ZoL at he;split at he;rotate_left;exact he.elim
 rename_i d_0 d_1
 refine Zq he fun he=>?_
 refine Zr (Zky (d_0,d_1)) (fun i=>(Zm [(1,.c (.ptr 10000000 0)),(3,.c (.int .i64 i))],[(10000000,.rc [.imm y6_ (d_0,d_1).1,.imm .bool (d_0,d_1).2])])) he (Za [(10000000,1)]) ?_
 rintro i _ he
 refine Zf he (fun he=>?_) fun he=>?_
 ·refine Zi he fun he=>?_
  refine Zf he (fun he=>?_) fun he=>?_
  ·refine Zi he fun he=>?_
   refine Zh he fun r1_ he=>?_
   exact Zsj
  ·exact Zdh
 ·exact ZA
def Zhy:Con:=fun
  |[.c (.imm (.pair (.sl (.pair (.int .i64) (.int .i64))) (.int .i64)) list_),.c (.imm (.pair (.int .i64) (.pair (.int .i64) (.pair (.int .i64) (.pair (.sl (.pair (.int .i64) (.int .i64))) (.int .i64))))) steps)],[]=>.opt _ (ZfP list_ steps) (fun r=>.ret (.c (.bool r)) [])
  |_,_=>.fail
def ZtA:Cfg:={ y:=tys,n:=24,h:=0,tab:=[(90,ZrM),(91,ZoL),(146,Zqf)] }
theorem ZtN:Zl Tryz.prog 82 Zhy:=by
 refine Zn (C:=ZtA) Tryz.f82 (Zj ZER (Zj ZBC (Zj ZDr Zo))) fun _ a b k he=>?_
 unfold Zhy at he;split at he;rotate_left;exact he.elim
 rename_i list_ steps
 refine Zq he fun he=>?_
 refine Zh he fun r1_ he=>?_
 refine Zf he (fun he=>?_) fun he=>?_
 ·exact Z6
 ·refine Zh he fun r2_ he=>?_
  refine Zf he (fun he=>?_) fun he=>?_
  ·refine Zh he fun r3_ he=>?_
   exact ZK
  ·exact ZK
def Zj2:Con:=fun
  |[.agg [.imm (.int .i64) m_0,.imm (.pair (.int .i64) (.pair (.sl (.int .i64)) (.pair (.sl (.int .i64)) (.pair (.int .i64) (.sl (.sl (.int .i64))))))) m_1],.c (.imm (.int .i64) coefs),.c (.imm (.int .i64) cells),.c (.imm (.pair (.int .i64) (.pair (.int .i64) (.pair (.int .i64) (.pair (.sl (.pair (.int .i64) (.int .i64))) (.int .i64))))) steps)],[]=>.opt _ (ZhV (m_0,m_1) coefs cells steps) (fun r=>.ret (.c (.bool r)) [])
  |_,_=>.fail
def Zme:Sched:=.alt 11 (.first 12 .done) .stop
def Zhv:Sched:=.alt 6 (Zv [7,8,9] Zme) .stop
def Zmf:Sched:=.alt 6 (Zv [7,8,9] (.alt 10 Zme .stop)) (.alt 10 Zhv .stop)
def Zmg:Sched:=.alt 4 (.first 5 Zhv) .stop
def Zmh:Sched:=.alt 0 Zhv .stop
def Zmi:Sched:=.alt 5 (.alt 7 (.first 8 .done) .stop) .stop
def Zmj:Sched:=.alt 4 Zmi .stop
def Zmk:Sched:=.alt 2 Zmi .stop
def Zml:Sched:=.alt 2 Zmj (.alt 4 Zmk .stop)
def Zv2:Cfg:={ y:=tys,n:=55,h:=0,tab:=[(62,ZkR),(63,Zlr),(64,ZgU),(65,ZoP),(81,ZkS),(82,Zhy)],cut:=[5],deep:=[47,51],sched:=[(4,(Zv [1,2,3] (.alt 0 (.alt 4 (.first 5 Zmf) (.alt 10 Zmg .stop)) (.alt 4 (.first 5 (.alt 0 Zmf (.alt 10 Zmh .stop))) (.alt 10 (.alt 0 Zmg (.alt 4 (.first 5 Zmh) .stop)) .stop))))),(5,(Zv [1,6] (.alt 0 (.alt 2 (.alt 3 Zmj .stop) (.alt 3 Zml .stop)) (.alt 3 (.alt 0 Zml (.alt 4 (.alt 0 Zmk .stop) .stop)) .stop))))] }
theorem Zc2 {P:Prop} (h:P:=by
  exact Zy [(8,[])] (Zk he :) (Za [])):P:=h
theorem ZxY {P:Prop} (h:P:=by
  refine Y4 ?_
  refine And.intro hq2 ?_
  refine Y4 ?_
  refine⟨r9_,hq3,?_⟩
  exact Zc2):P:=h
theorem ZHi {P:Prop} (h:P:=by
  skip
  refine Y5 ?_ ?_
  ·skip
   refine And.intro hq1 ?_
   refine Y4 ?_
   exact ZxY
  ·skip
   refine Y4 ?_
   refine And.intro hq1 ?_
   exact ZxY):P:=h
theorem ZHj {P:Prop} (h:P:=by
  refine Y4 ?_
  exact⟨_,he,(Za [(10000000,16900),(10000001,11),(10000002,45901)])⟩):P:=h
theorem ZxZ {P:Prop} (h:P:=by
  refine Y4 ?_
  refine⟨r7_,hq3,?_⟩
  exact ZHj):P:=h
theorem ZHk {P:Prop} (h:P:=by
  refine Y5 ?_ ?_
  ·skip
   refine⟨r7_,hq3,?_⟩
   refine Y4 ?_
   exact ZHj
  ·skip
   exact ZxZ):P:=h
theorem ZHl {P:Prop} (h:P:=by
  skip
  refine Y4 ?_
  refine⟨r6_,hq1,?_⟩
  refine And.intro hq2 ?_
  exact ZxZ):P:=h
theorem Zwj:Zl Tryz.prog 21 Zj2:=by
 refine Zn (C:=Zv2) Tryz.f21 (Zj ZwZ (Zj Zul (Zj ZsG (Zj ZBG (Zj Zw0 (Zj ZtN Zo)))))) fun _ a b k he=>?_
 unfold Zj2 at he;split at he;rotate_left;exact he.elim
 rename_i m_0 m_1 coefs cells steps
 refine Zq he fun he=>?_
 refine Zh he fun r1_ he=>?_
 refine ZC he (fun he=>?_) fun he=>?_
 ·refine Zh he fun r2_ he=>?_
  refine ZC he (fun he=>?_) fun he=>?_
  ·refine Zh he fun r3_ he=>?_
   refine ZC he (fun he=>?_) fun he=>?_
   ·refine Zf he (fun he=>?_) fun he=>?_
    ·exact Zc2
    ·refine ZT (Zi7 steps r1_) (fun (c_1,c_0)=>(Zm [(3,.c (.imm y9_ steps)),(9,.c (.own 10000000 false)),(11,.c (.ptr 10000001 0))],[(10000000,.sl 89 y6_ r1_.2 (.deep true .no)),(10000001,.rc [.own 10000002 false,.int .i64 c_1]),(10000002,.sl 155 y5_ c_0 .shallow)])) he ?_ ?_
     ·rintro⟨c_1,c_0⟩ he
      refine And.intro (by kernel_rfl) ?_
      obtain⟨hq1,he⟩:=ZG he
      obtain⟨hq2,he⟩:=ZG he
      obtain⟨r9_,hq3,he⟩:=Z5 he
      refine Y5 ?_ ?_
      ·skip
       refine Y5 ?_ ?_
       ·skip
        refine And.intro hq1 ?_
        refine Y4 ?_
        refine Y4 ?_
        exact ZxY
       ·exact ZHi
      ·skip
       refine Y5 ?_ ?_
       ·exact ZHi
       ·skip
        refine Y4 ?_
        refine Y4 ?_
        refine And.intro hq1 ?_
        exact ZxY
     ·skip
      refine And.intro (by kernel_rfl) ?_
      obtain⟨r6_,hq1,he⟩:=Z5 he
      obtain⟨hq2,he⟩:=ZG he
      obtain⟨r7_,hq3,he⟩:=Z5 he
      refine And.intro ?_ (And.intro ?_ (And.intro ?_ (Y1)))
      ·skip
       refine Y5 ?_ ?_
       ·skip
        refine⟨r6_,hq1,?_⟩
        refine And.intro hq2 ?_
        exact ZHk
       ·exact ZHl
      ·skip
       refine⟨r6_,hq1,?_⟩
       refine And.intro hq2 ?_
       refine Y5 ?_ ?_
       ·skip
        exact ZHk
       ·skip
        refine Y4 ?_
        exact ZxZ
      ·skip
       refine Y5 ?_ ?_
       ·exact ZHl
       ·skip
        refine⟨r6_,hq1,?_⟩
        refine And.intro hq2 ?_
        refine Y4 ?_
        exact ZxZ
   ·exact Zc2
  ·exact Zc2
 ·exact Zc2
def ZbF:Con:=fun
  |[.c (.int .i64 n),.c (.int .i64 low),.c (.int .i64 high)],[]=>.opt _ (Zbr n low high) (fun r=>.ret (.c (.bool r)) [])
  |_,_=>.fail
def ZCR:Cfg:={ y:=tys,n:=15,h:=0,tab:=[] }
theorem Zb5:Zl Tryz.prog 127 ZbF:=by
 refine Zn (C:=ZCR) Tryz.f127 Zo fun _ a b k he=>?_
 unfold ZbF at he;split at he;rotate_left;exact he.elim
 rename_i n low high
 refine Zq he fun he=>?_
 refine Zf he (fun he=>?_) fun he=>?_
 ·exact Z6
 ·exact Z6
def ZkQ:Con:=fun
  |[.c (.imm (.int .i64) s_),.c (.int .i64 v)],[]=>.opt _ (Zi6 s_ v) (fun r=>.ret (.c (.int .i64 r)) [])
  |_,_=>.fail
def Zww:Cfg:={ y:=tys,n:=19,h:=0,tab:=[] }
theorem ZwY:Zl Tryz.prog 237 ZkQ:=by
 refine Zn (C:=Zww) Tryz.f237 Zo fun _ a b k he=>?_
 unfold ZkQ at he;split at he;rotate_left;exact he.elim
 rename_i s_ v
 refine Zq he fun he=>?_
 refine Zr (Zch s_ v) (fun i=>(Zm [(0,.c (.imm y0_ s_)),(1,.c (.int .i64 v)),(7,.c (.int .i64 (s_.length:Int))),(8,.c (.int .i64 i))],[])) he (Za []) ?_
 rintro i _ he
 refine Zf he (fun he=>?_) fun he=>?_
 ·refine Zi he fun he=>?_
  exact ZAt
 ·exact Z6
def ZdA:Con:=fun
  |[.c (.imm (.int .i64) s_),.c (.int .i64 v)],[]=>.opt _ (ZbZ s_ v) (fun r=>.ret (.c (.bool r)) [])
  |_,_=>.fail
def Zt5:Cfg:={ y:=tys,n:=9,h:=0,tab:=[(237,ZkQ)] }
theorem Zim:Zl Tryz.prog 178 ZdA:=by
 refine Zn (C:=Zt5) Tryz.f178 (Zj ZwY Zo) fun _ a b k he=>?_
 unfold ZdA at he;split at he;rotate_left;exact he.elim
 rename_i s_ v
 refine Zq he fun he=>?_
 refine Zh he fun r1_ he=>?_
 exact Z6
end
end Go.AE.Y
