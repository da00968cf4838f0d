/-
  Walks: each function keeps the contract that its model gives. No conditions.
-/
import Derived.Test.YtaeeiddjpigemaaGreatR8Tab
import Derived.Test.YtaeeiddjpigemaaGreatR8W7
import Derived.Test.YtaeeiddjpigemaaGreatR8S
namespace Go.AE.Y
open Go Go.AE Go.Proofs
set_option linter.unusedVariables false
set_option maxHeartbeats 2000000
set_option maxRecDepth 100000
noncomputable section
def ZkM:Con:=fun
  |[.agg [.int .i64 s__0,.int .i64 s__1,.int .i64 s__2,.imm (.pair (.int .i64) (.int .i64)) s__3,.int .i64 s__4]],[]=>.opt _ (ZiY (s__0,(s__1,(s__2,(s__3,s__4))))) (fun r=>.ret (.c (.bool r)) [])
  |_,_=>.fail
def Zwq:Cfg:={ y:=tys,n:=50,h:=0,tab:=[(70,Zie),(155,Zmw)] }
theorem ZwT:Zl Tryz.prog 259 ZkM:=by
 refine Zn (C:=Zwq) Tryz.f259 (Zj Zue (Zj ZvK Zo)) fun _ a b k he=>?_
 unfold ZkM at he;split at he;rotate_left;exact he.elim
 rename_i s__0 s__1 s__2 s__3 s__4
 refine Zq he fun he=>?_
 refine Zh he fun r1_ he=>?_
 refine Zf he (fun he=>?_) fun he=>?_
 ·refine ZC he (fun he=>?_) fun he=>?_
  ·refine ZC he (fun he=>?_) fun he=>?_
   ·refine Zf he (fun he=>?_) fun he=>?_
    ·refine ZC he (fun he=>?_) fun he=>?_
     ·refine ZC he (fun he=>?_) fun he=>?_
      ·refine Zf he (fun he=>?_) fun he=>?_
       ·refine ZC he (fun he=>?_) fun he=>?_
        ·refine Zh he fun r2_ he=>?_
         exact ZA
        ·exact ZA
       ·exact ZA
      ·refine ZC he (fun he=>?_) fun he=>?_
       ·refine Zh he fun r3_ he=>?_
        exact ZA
       ·exact ZA
     ·refine ZC he (fun he=>?_) fun he=>?_
      ·refine Zh he fun r4_ he=>?_
       exact ZA
      ·exact ZA
    ·exact ZA
   ·refine ZC he (fun he=>?_) fun he=>?_
    ·refine ZC he (fun he=>?_) fun he=>?_
     ·refine Zf he (fun he=>?_) fun he=>?_
      ·refine ZC he (fun he=>?_) fun he=>?_
       ·refine Zh he fun r5_ he=>?_
        exact ZA
       ·exact ZA
      ·exact ZA
     ·refine ZC he (fun he=>?_) fun he=>?_
      ·refine Zh he fun r6_ he=>?_
       exact ZA
      ·exact ZA
    ·refine ZC he (fun he=>?_) fun he=>?_
     ·refine Zh he fun r7_ he=>?_
      exact ZA
     ·exact ZA
  ·refine ZC he (fun he=>?_) fun he=>?_
   ·refine ZC he (fun he=>?_) fun he=>?_
    ·refine Zf he (fun he=>?_) fun he=>?_
     ·refine ZC he (fun he=>?_) fun he=>?_
      ·refine Zh he fun r8_ he=>?_
       exact ZA
      ·exact ZA
     ·exact ZA
    ·refine ZC he (fun he=>?_) fun he=>?_
     ·refine Zh he fun r9_ he=>?_
      exact ZA
     ·exact ZA
   ·refine ZC he (fun he=>?_) fun he=>?_
    ·refine Zh he fun r10_ he=>?_
     exact ZA
    ·exact ZA
 ·exact ZA
def ZgS:Con:=fun
  |[.c (.ptr 0 0),.c (.int .i64 i)],[(0,.rc [.own 1 false,.own 2 false]),(1,.sl 89 (.pair (.sl (.pair (.int .i64) (.int .i64))) (.int .i64)) o1 .shallow),(2,.sl 4 .bool o2 .shallow)]=>.opt _ (Zc1 i o1 o2) (fun r=>.ret (.c (.bool r)) [(0,.rc [.own 1 false,.own 2 false]),(1,.sl 89 y6_ o1 .shallow),(2,.sl 4 .bool o2 .shallow)])
  |_,_=>.fail
def Zst:Cfg:={ y:=tys,n:=23,h:=3,tab:=[(127,ZbF)] }
theorem ZsE:Zl Tryz.prog 260 ZgS:=by
 refine Zn (C:=Zst) Tryz.f260 (Zj Zb5 Zo) fun _ a b k he=>?_
 unfold ZgS at he;split at he;rotate_left;exact he.elim
 rename_i i o1 o2
 refine Zq he fun he=>?_
 refine Zi he fun he=>?_
 refine Zh he fun r1_ he=>?_
 exact ZJL
def ZgT:Con:=fun
  |[.c (.nil),.c (.int .i64 n)],[]=>.opt _ (Ze5 n) (fun r=>.ret (.c (.own 900 false)) [(900,.sl 155 y5_ r .shallow)])
  |_,_=>.fail
def Zsu:Cfg:={ y:=tys,n:=27,h:=0,tab:=[] }
theorem ZsF:Zl Tryz.prog 304 ZgT:=by
 refine Zn (C:=Zsu) Tryz.f304 Zo fun _ a b k he=>?_
 unfold ZgT at he;split at he;rotate_left;exact he.elim
 rename_i n
 refine Zq he fun he=>?_
 refine Zf he (fun he=>?_) fun he=>?_
 ·exact(ZBK he).elim
 ·refine Zi he fun he=>?_
  refine Zi he fun he=>?_
  refine Zf he (fun he=>?_) fun he=>?_
  ·refine Zi he fun he=>?_
   refine Zi he fun he=>?_
   refine Zi he fun he=>?_
   exact Zy [(4,[])] (Zk he :) (Za [(900,25)])
  ·exact ZK
def Zfy:Con:=fun
  |[.c (.imm (.sl (.pair (.int .i64) (.int .i64))) slices)],[]=>.opt _ (Zeb slices) (fun r=>.ret (.c (.own 900 false)) [(900,.sl 155 y5_ r .shallow)])
  |_,_=>.fail
def ZqN:Cfg:={ y:=tys,n:=36,h:=0,tab:=[(304,ZgT)],hand:=[(304,[0])],nils:=[304] }
theorem Zq1:Zl Tryz.prog 290 Zfy:=by
 refine Zn (C:=ZqN) Tryz.f290 (Zj ZsF Zo) fun _ a b k he=>?_
 unfold Zfy at he;split at he;rotate_left;exact he.elim
 rename_i slices
 refine Zq he fun he=>?_
 refine Zr (Zbp slices) (fun (size,i)=>(Zm [(0,.c (.imm (.sl y5_) slices)),(3,.c (.int .i64 size)),(9,.c (.imm (.sl y5_) slices)),(10,.c (.int .i64 (slices.length:Int))),(11,.c (.int .i64 i))],[])) he (Za []) ?_
 rintro⟨size,i⟩ _ he
 refine Zf he (fun he=>?_) fun he=>?_
 ·refine Zi he fun he=>?_
  refine Zi he fun he=>?_
  refine Zf he (fun he=>?_) fun he=>?_
  ·exact(ZBK he).elim
  ·exact Zdh
 ·refine Zh he fun r1_ he=>?_
  refine Zr (Zbq slices) (fun (i1,newslice)=>(Zm [(6,.c (.own 10001000 false)),(25,.c (.imm (.sl y5_) slices)),(26,.c (.int .i64 (slices.length:Int))),(27,.c (.int .i64 i1))],[(10001000,.sl 155 y5_ newslice .shallow)])) he (Za [(10001000,25900)]) ?_
  rintro⟨i1,newslice⟩ _ he
  refine Zf he (fun he=>?_) fun he=>?_
  ·refine Zi he fun he=>?_
   refine Zi he fun he=>?_
   refine Zi he fun he=>?_
   exact⟨_,(Zk he :),(Za [(10001000,33)])⟩
  ·exact Zy [(2,[])] (Zk he :) (Za [(900,10001000)])
def Zid:Con:=fun
  |[.agg [.imm (.pair (.int .i64) (.int .i64)) a_0,.int .i64 a_1],.agg [.imm (.pair (.int .i64) (.int .i64)) b_0,.int .i64 b_1]],[]=>.opt _ (Zgx (a_0,a_1) (b_0,b_1)) (fun r=>.ret (.tup [.agg [.own 901 false,.int .i64 r.2.1],.c (.bool r.1)]) [(900,.rc [.own 901 false,.int .i64 r.2.1]),(901,.sl 155 y5_ r.2.2 .shallow)])
  |_,_=>.fail
def Zt1:Cfg:={ y:=tys,n:=29,h:=0,tab:=[(129,ZjF),(223,Z1),(290,Zfy)],cut:=[1],sched:=[(3,(Zv [0,1,2,3,6,7,8,9,10] (.alt 4 (.alt 5 (.alt 11 (Zv [12,13] (.alt 14 (.first 15 .done) .stop)) .stop) .stop) .stop)))] }
theorem Zud:Zl Tryz.prog 261 Zid:=by
 refine Zn (C:=Zt1) Tryz.f261 (Zj Zqr (Zj Zbk (Zj Zq1 Zo))) fun _ a b k he=>?_
 unfold Zid at he;split at he;rotate_left;exact he.elim
 rename_i a_0 a_1 b_0 b_1
 refine Zq he fun he=>?_
 refine ZT (ZhB (a_0,a_1) (b_0,b_1)) (fun _=>(Zm [(2,.c (.iptr y6_ (a_0,a_1) 0)),(3,.c (.iptr y6_ (b_0,b_1) 0)),(4,.c (.ptr 10000000 0))],[(10000000,.rc [.nil,.int .i64 (0:Int)])])) he ?_ ?_
 ·rintro⟨⟩ he
  refine Zh he fun r1_ he=>?_
  refine ZC he (fun he=>?_) fun he=>?_
  ·refine Zh he fun r2_ he=>?_
   refine Zf he (fun he=>?_) fun he=>?_
   ·exact Zsl
   ·refine And.intro (by kernel_rfl) ?_
    refine Zi he fun he=>?_
    refine Y4 ?_
    refine Y4 ?_
    refine Zh he fun r5_ he=>?_
    refine Y4 ?_
    refine Zh he fun r6_ he=>?_
    refine Y4 ?_
    exact Zy [(4,[900]),(5,[])] (Zk he :) (Za [(900,10000000),(901,27901)])
  ·exact Zsl
 ·skip
  exact⟨_,he,(ZcE [(10000000,4)] rfl rfl ⟨⟨rfl,rfl,Y1⟩,Y1⟩ ⟨.inr ⟨2,rfl,⟨rfl,by repeat (first|exact trivial|refine And.intro trivial ?_)⟩,rfl⟩,.inr ⟨3,rfl,⟨rfl,by repeat (first|exact trivial|refine And.intro trivial ?_)⟩,rfl⟩,⟨Y2,rfl⟩,Y1⟩)⟩
def Zf3:Con:=fun
  |[.c (.imm (.pair (.int .i64) (.int .i64)) s_)],[]=>.opt _ (Zey s_) (fun r=>.ret (.c (.own 900 false)) [(900,.sl 155 y5_ r .shallow)])
  |_,_=>.fail
def Zrr:Cfg:={ y:=tys,n:=8,h:=0,tab:=[] }
theorem ZrV:Zl Tryz.prog 224 Zf3:=by
 refine Zn (C:=Zrr) Tryz.f224 Zo fun _ a b k he=>?_
 unfold Zf3 at he;split at he;rotate_left;exact he.elim
 rename_i s_
 refine Zq he fun he=>?_
 refine fun b1_ hb1_=>?_
 have he:=ZH4 he hb1_
 refine And.intro (fun hb=>?_) (fun hb=>?_)
 ·have he:=ZE5 he hb
  exact ZA
 ·have he:=ZE4 he hb
  refine Zi he fun he=>?_
  exact Zy [(2,[])] (Zk he :) (Za [(900,7)])
def ZeW:Con:=fun
  |[.agg [.imm (.pair (.int .i64) (.int .i64)) c__0,.int .i64 c__1]],[]=>.opt _ (Zeg (c__0,c__1)) (fun r=>.ret (.agg [.own 901 false,.int .i64 r.1]) [(900,.rc [.own 901 false,.int .i64 r.1]),(901,.sl 155 y5_ r.2 .shallow)])
  |_,_=>.fail
def Zt3:Cfg:={ y:=tys,n:=8,h:=0,tab:=[(224,Zf3)] }
theorem Znf:Zl Tryz.prog 160 ZeW:=by
 refine Zn (C:=Zt3) Tryz.f160 (Zj ZrV Zo) fun _ a b k he=>?_
 unfold ZeW at he;split at he;rotate_left;exact he.elim
 rename_i c__0 c__1
 refine Zq he fun he=>?_
 refine Zh he fun r1_ he=>?_
 exact Zy [(2,[900])] (Zk he :) (Za [(900,2),(901,6900)])
def ZeH:Con:=fun
  |[.c (.int .i64 n),.c (.ptr 0 0)],[(0,.rc [.int .i64 o0])]=>.opt _ (ZbO n o0) (fun r=>.ret (.c (.int .i64 r)) [(0,.rc [.int .i64 o0])])
  |_,_=>.fail
def Zpo:Cfg:={ y:=tys,n:=7,h:=1,tab:=[] }
theorem ZpT:Zl Tryz.prog 292 ZeH:=by
 refine Zn (C:=Zpo) Tryz.f292 Zo fun _ a b k he=>?_
 unfold ZeH at he;split at he;rotate_left;exact he.elim
 rename_i n o0
 refine Zq he fun he=>?_
 refine Zi he fun he=>?_
 exact ZoZ
def Zd7:Con:=fun
  |[.agg [.imm (.pair (.int .i64) (.int .i64)) c__0,.int .i64 c__1]],[]=>.opt _ (Zcq (c__0,c__1)) (fun r=>.ret (.tup [.agg [.imm y5_ r.2.1,.int .i64 r.2.2],.c (.bool r.1)]) [(900,.rc [.imm y5_ r.2.1,.int .i64 r.2.2])])
  |_,_=>.fail
def Zsp:Cfg:={ y:=tys,n:=9,h:=0,tab:=[(223,Z1)] }
theorem ZlQ:Zl Tryz.prog 187 Zd7:=by
 refine Zn (C:=Zsp) Tryz.f187 (Zj Zbk Zo) fun _ a b k he=>?_
 unfold Zd7 at he;split at he;rotate_left;exact he.elim
 rename_i c__0 c__1
 refine Zq he fun he=>?_
 refine Zh he fun r1_ he=>?_
 refine Zf he (fun he=>?_) fun he=>?_
 ·exact Zy [(2,[900]),(3,[])] (Zk he :) (ZcE [(900,2)] rfl rfl ⟨⟨.inr (.inl Y2),rfl,Y1⟩,Y1⟩ ⟨⟨Y2,rfl⟩,.inr rfl,Y1⟩)
 ·exact Zon
def ZbE:Con:=fun
  |[.agg [.imm (.pair (.int .i64) (.int .i64)) c__0,.int .i64 c__1],.c (.fn 292 [0])],[(0,.rc [.int .i64 o0])]=>.opt _ (Zbf (c__0,c__1) o0) (fun r=>.ret (.tup [.agg [.imm y5_ r.2.1,.int .i64 r.2.2],.c (.bool r.1)]) [(0,.rc [.int .i64 o0]),(900,.rc [.imm y5_ r.2.1,.int .i64 r.2.2])])
  |_,_=>.fail
def Zcv:Sched:=Zv [11,12] (.alt 13 .done .stop)
def Zcw:Sched:=.alt 10 Zcv .stop
def Zcx:Sched:=.alt 9 Zcw .stop
def Zfb:Cfg:={ y:=tys,n:=39,h:=1,tab:=[(160,ZeW),(187,Zd7),(292,ZeH)],cut:=[8],good:=[187],sched:=[(6,(Zv [0,2,3,4,6] (.alt 1 (.alt 5 (Zv [7,8] Zcx) .stop) (.alt 5 (Zv [7,8] (.alt 1 Zcx (.alt 9 (.alt 1 Zcw (.alt 10 (.alt 1 Zcv .stop) .stop)) .stop))) .stop))))] }
theorem ZB8 {P:Prop} (h:P:=by
  refine Y4 ?_
  refine⟨r5_,hq2,?_⟩
  refine And.intro hq1 ?_
  exact ZiB):P:=h
theorem ZHs {P:Prop} (h:P:=by
  rintro⟨i,out_0⟩ _ he
  refine Zf he (fun he=>?_) fun he=>?_
  ·refine And.intro (by kernel_rfl) ?_
   obtain⟨hq1,he⟩:=ZG he
   obtain⟨r5_,hq2,he⟩:=Z5 he
   obtain⟨hq3,he⟩:=ZG he
   refine Y5 ?_ ?_
   ·skip
    refine Y4 ?_
    refine And.intro hq1 ?_
    refine Y4 ?_
    exact ZB8
   ·skip
    refine And.intro hq1 ?_
    refine Y5 ?_ ?_
    ·skip
     refine Y4 ?_
     exact ZB8
    ·skip
     refine Y5 ?_ ?_
     ·skip
      exact ZB8
     ·skip
      refine⟨r5_,hq2,?_⟩
      refine Y4 ?_
      refine And.intro hq1 ?_
      exact ZiB
  ·exact⟨_,(ZcJ he :),(Za [(10001000,10000000),(10001001,10000001),(10001002,10000002)])⟩):P:=h
theorem Zfg:Zl Tryz.prog 291 ZbE:=by
 refine Zn (C:=Zfb) Tryz.f291 (Zj Znf (Zj ZlQ (Zj ZpT Zo))) fun _ a b k he=>?_
 unfold ZbE at he;split at he;rotate_left;exact he.elim
 rename_i c__0 c__1 o0
 refine Zq he fun he=>?_
 refine Zh he fun r1_ he=>?_
 refine Zh he fun r2_ he=>?_
 refine ZT (ZbC r2_) (fun out_01=>(Zm [(4,.c (.ptr 10001000 0)),(6,.c (.ptr 10001001 0))],[(0,.rc [.int .i64 o0]),(10001000,.rc [.nil,.int .i64 (0:Int)]),(10001001,.rc [.own 10001002 false,.int .i64 r2_]),(10001002,.sl 155 y5_ out_01 .shallow)])) he ?_ ?_
 ·rintro out_01 he
  refine Zh he fun r6_ he=>?_
  exact ZFT
 ·skip
  refine Zr (Z8 o0 r1_ r2_) (fun (i,out_0)=>(Zm [(1,.c (.fn 292 [0])),(4,.c (.ptr 10000000 0)),(6,.c (.ptr 10000001 0)),(17,.c (.int .i64 (r1_.2.length:Int))),(18,.c (.int .i64 i))],[(0,.rc [.int .i64 o0]),(10000000,.rc [.nil,.int .i64 (0:Int)]),(10000001,.rc [.own 10000002 false,.int .i64 r2_]),(10000002,.sl 155 y5_ out_0 .shallow)])) he (Za [(10000000,4),(10000001,6),(10000002,10901)]) ?_
  exact ZHs
def Zfw:Con:=fun
  |[.agg [.imm (.pair (.int .i64) (.int .i64)) c__0,.int .i64 c__1],.c (.int .i64 k_)],[]=>.opt _ (Zd8 (c__0,c__1) k_) (fun r=>.ret (.tup [.agg [.imm y5_ r.2.1,.int .i64 r.2.2],.c (.bool r.1)]) [(900,.rc [.imm y5_ r.2.1,.int .i64 r.2.2])])
  |_,_=>.fail
def ZqL:Cfg:={ y:=tys,n:=20,h:=0,tab:=[(127,ZbF),(223,Z1),(291,ZbE)] }
theorem Zx0 {P:Prop} (h:P:=by
  exact Zy [(4,[900]),(5,[])] (Zk he :) (ZcE [(900,4)] rfl rfl ⟨⟨.inr (.inl Y2),rfl,Y1⟩,Y1⟩ ⟨⟨Y2,rfl⟩,.inr rfl,Y1⟩)):P:=h
theorem ZqZ:Zl Tryz.prog 262 Zfw:=by
 refine Zn (C:=ZqL) Tryz.f262 (Zj Zb5 (Zj Zbk (Zj Zfg Zo))) fun _ a b k he=>?_
 unfold Zfw at he;split at he;rotate_left;exact he.elim
 rename_i c__0 c__1 k_
 refine Zq he fun he=>?_
 refine Zh he fun r1_ he=>?_
 refine ZC he (fun he=>?_) fun he=>?_
 ·refine Zh he fun r2_ he=>?_
  refine Zf he (fun he=>?_) fun he=>?_
  ·exact Zx0
  ·refine Zh he fun r3_ he=>?_
   exact ZjN
 ·exact Zx0
def Zfv:Con:=fun
  |[.c (.int .i64 n),.c (.ptr 0 0)],[(0,.rc [.int .i64 o0])]=>.opt _ (Zdi n o0) (fun r=>.ret (.c (.int .i64 r)) [(0,.rc [.int .i64 o0])])
  |_,_=>.fail
def ZqK:Cfg:={ y:=tys,n:=10,h:=1,tab:=[] }
theorem ZqY:Zl Tryz.prog 293 Zfv:=by
 refine Zn (C:=ZqK) Tryz.f293 Zo fun _ a b k he=>?_
 unfold Zfv at he;split at he;rotate_left;exact he.elim
 rename_i n o0
 refine Zq he fun he=>?_
 refine Zi he fun he=>?_
 refine Zi he fun he=>?_
 refine Zi he fun he=>?_
 exact ZoZ
def ZbM:Con:=fun
  |[.agg [.imm (.pair (.int .i64) (.int .i64)) c__0,.int .i64 c__1],.c (.fn 293 [0])],[(0,.rc [.int .i64 o0])]=>.opt _ (Zbn (c__0,c__1) o0) (fun r=>.ret (.tup [.agg [.imm y5_ r.2.1,.int .i64 r.2.2],.c (.bool r.1)]) [(0,.rc [.int .i64 o0]),(900,.rc [.imm y5_ r.2.1,.int .i64 r.2.2])])
  |_,_=>.fail
def ZcN:Sched:=Zv [11,12] (.alt 13 .done .stop)
def ZcO:Sched:=.alt 10 ZcN .stop
def ZcP:Sched:=.alt 9 ZcO .stop
def Zfr:Cfg:={ y:=tys,n:=39,h:=1,tab:=[(160,ZeW),(187,Zd7),(293,Zfv)],cut:=[8],good:=[187],sched:=[(6,(Zv [0,2,3,4,6] (.alt 1 (.alt 5 (Zv [7,8] ZcP) .stop) (.alt 5 (Zv [7,8] (.alt 1 ZcP (.alt 9 (.alt 1 ZcO (.alt 10 (.alt 1 ZcN .stop) .stop)) .stop))) .stop))))] }
theorem ZfH:Zl Tryz.prog 291 ZbM:=by
 refine Zn (C:=Zfr) Tryz.f291 (Zj Znf (Zj ZlQ (Zj ZqY Zo))) fun _ a b k he=>?_
 unfold ZbM at he;split at he;rotate_left;exact he.elim
 rename_i c__0 c__1 o0
 refine Zq he fun he=>?_
 refine Zh he fun r1_ he=>?_
 refine Zh he fun r2_ he=>?_
 refine ZT (ZbL r2_) (fun out_01=>(Zm [(4,.c (.ptr 10001000 0)),(6,.c (.ptr 10001001 0))],[(0,.rc [.int .i64 o0]),(10001000,.rc [.nil,.int .i64 (0:Int)]),(10001001,.rc [.own 10001002 false,.int .i64 r2_]),(10001002,.sl 155 y5_ out_01 .shallow)])) he ?_ ?_
 ·rintro out_01 he
  refine Zh he fun r6_ he=>?_
  exact ZFT
 ·skip
  refine Zr (Zbd o0 r1_ r2_) (fun (i,out_0)=>(Zm [(1,.c (.fn 293 [0])),(4,.c (.ptr 10000000 0)),(6,.c (.ptr 10000001 0)),(17,.c (.int .i64 (r1_.2.length:Int))),(18,.c (.int .i64 i))],[(0,.rc [.int .i64 o0]),(10000000,.rc [.nil,.int .i64 (0:Int)]),(10000001,.rc [.own 10000002 false,.int .i64 r2_]),(10000002,.sl 155 y5_ out_0 .shallow)])) he (Za [(10000000,4),(10000001,6),(10000002,10901)]) ?_
  exact ZHs
def ZgP:Con:=fun
  |[.agg [.imm (.pair (.int .i64) (.int .i64)) c__0,.int .i64 c__1],.c (.int .i64 k_)],[]=>.opt _ (Ze0 (c__0,c__1) k_) (fun r=>.ret (.tup [.agg [.imm y5_ r.2.1,.int .i64 r.2.2],.c (.bool r.1)]) [(900,.rc [.imm y5_ r.2.1,.int .i64 r.2.2])])
  |_,_=>.fail
def Zsq:Cfg:={ y:=tys,n:=20,h:=0,tab:=[(127,ZbF),(223,Z1),(291,ZbM)] }
theorem ZsB:Zl Tryz.prog 263 ZgP:=by
 refine Zn (C:=Zsq) Tryz.f263 (Zj Zb5 (Zj Zbk (Zj ZfH Zo))) fun _ a b k he=>?_
 unfold ZgP at he;split at he;rotate_left;exact he.elim
 rename_i c__0 c__1 k_
 refine Zq he fun he=>?_
 refine Zh he fun r1_ he=>?_
 refine ZC he (fun he=>?_) fun he=>?_
 ·refine Zh he fun r2_ he=>?_
  refine Zf he (fun he=>?_) fun he=>?_
  ·exact Zx0
  ·refine Zh he fun r3_ he=>?_
   exact ZjN
 ·exact Zx0
def Zfx:Con:=fun
  |[.agg [.imm (.pair (.int .i64) (.int .i64)) c__0,.int .i64 c__1]],[]=>.opt _ (Zd9 (c__0,c__1)) (fun r=>.ret (.tup [.agg [.own 901 false,.int .i64 r.2.1],.c (.bool r.1)]) [(900,.rc [.own 901 false,.int .i64 r.2.1]),(901,.sl 155 y5_ r.2.2 .shallow)])
  |_,_=>.fail
def ZqM:Cfg:={ y:=tys,n:=39,h:=0,tab:=[(223,Z1)] }
theorem Zq0:Zl Tryz.prog 264 Zfx:=by
 refine Zn (C:=ZqM) Tryz.f264 (Zj Zbk Zo) fun _ a b k he=>?_
 unfold Zfx at he;split at he;rotate_left;exact he.elim
 rename_i c__0 c__1
 refine Zq he fun he=>?_
 refine Zh he fun r1_ he=>?_
 refine Zf he (fun he=>?_) fun he=>?_
 ·exact Zon
 ·refine Zf he (fun he=>?_) fun he=>?_
  ·refine Zr (ZcR (c__0,c__1)) (fun (i,out_0)=>(Zm [(1,.c (.ptr 10000000 0)),(2,.c (.ptr 10000001 0)),(4,.c (.ptr 10000002 0)),(18,.c (.imm y5_ (c__0,c__1).1)),(19,.c (.int .i64 ((c__0,c__1).1.length:Int))),(20,.c (.int .i64 i))],[(10000000,.rc [.imm y5_ (c__0,c__1).1,.int .i64 (c__0,c__1).2]),(10000001,.rc [.nil,.int .i64 (0:Int)]),(10000002,.rc [.own 10000003 false,.int .i64 (c__0,c__1).2]),(10000003,.sl 155 y5_ out_0 .shallow)])) he (Za [(10000000,1),(10000001,2),(10000002,4)]) ?_
   rintro⟨i,out_0⟩ _ he
   refine Zf he (fun he=>?_) fun he=>?_
   ·refine Zi he fun he=>?_
    refine Zi he fun he=>?_
    exact ZJH
   ·exact Zy [(2,[900]),(3,[])] (Zk he :) (Za [(900,10000001),(901,10000003)])
  ·exact Zon
def ZgR:Con:=fun
  |[.agg [.imm (.pair (.int .i64) (.int .i64)) c__0,.int .i64 c__1],.c (.int .i64 variable_)],[]=>.opt _ (Ze2 (c__0,c__1) variable_) (fun r=>.ret (.tup [.agg [.own 901 false,.int .i64 r.2.1],.c (.bool r.1)]) [(900,.rc [.own 901 false,.int .i64 r.2.1]),(901,.sl 155 y5_ r.2.2 .shallow)])
  |_,_=>.fail
def Zss:Cfg:={ y:=tys,n:=48,h:=0,tab:=[(127,ZbF),(170,Zfm),(223,Z1)] }
theorem ZsD:Zl Tryz.prog 265 ZgR:=by
 refine Zn (C:=Zss) Tryz.f265 (Zj Zb5 (Zj Zl1 (Zj Zbk Zo))) fun _ a b k he=>?_
 unfold ZgR at he;split at he;rotate_left;exact he.elim
 rename_i c__0 c__1 variable_
 refine Zq he fun he=>?_
 refine Zh he fun r1_ he=>?_
 refine ZC he (fun he=>?_) fun he=>?_
 ·refine Zh he fun r2_ he=>?_
  refine Zf he (fun he=>?_) fun he=>?_
  ·exact ZjN
  ·refine Zr (ZdU (c__0,c__1) variable_) (fun (i,out_1,out_0)=>(Zm [(1,.c (.int .i64 variable_)),(2,.c (.ptr 10000000 0)),(4,.c (.ptr 10000001 0)),(6,.c (.ptr 10000002 0)),(22,.c (.imm y5_ (c__0,c__1).1)),(23,.c (.int .i64 ((c__0,c__1).1.length:Int))),(24,.c (.int .i64 i))],[(10000000,.rc [.imm y5_ (c__0,c__1).1,.int .i64 (c__0,c__1).2]),(10000001,.rc [.nil,.int .i64 (0:Int)]),(10000002,.rc [.own 10000003 false,.int .i64 out_1]),(10000003,.sl 155 y5_ out_0 .shallow)])) he (Za [(10000000,2),(10000001,4),(10000002,6)]) ?_
   rintro⟨i,out_1,out_0⟩ _ he
   refine Zf he (fun he=>?_) fun he=>?_
   ·refine Zi he fun he=>?_
    refine Zh he fun r4_ he=>?_
    refine Zf he (fun he=>?_) fun he=>?_
    ·exact Zx7
    ·refine Zi he fun he=>?_
     refine Zi he fun he=>?_
     exact⟨_,(Zk he :),(Za [(10000003,44)])⟩
   ·exact Zy [(4,[900]),(5,[])] (Zk he :) (Za [(900,10000001),(901,10000003)])
 ·exact ZjN
def ZjS:Con:=fun
  |[.c (.int .i64 lit)],[]=>.opt _ (ZhQ lit) (fun r=>.ret (.tup [.agg [.own 901 false,.int .i64 r.2.1],.c (.bool r.1)]) [(900,.rc [.own 901 false,.int .i64 r.2.1]),(901,.sl 155 y5_ r.2.2 .shallow)])
  |_,_=>.fail
def ZvS:Cfg:={ y:=tys,n:=12,h:=0,tab:=[(177,Zf1)] }
theorem Zv9:Zl Tryz.prog 266 ZjS:=by
 refine Zn (C:=ZvS) Tryz.f266 (Zj ZmY Zo) fun _ a b k he=>?_
 unfold ZjS at he;split at he;rotate_left;exact he.elim
 rename_i lit
 refine Zq he fun he=>?_
 refine Zh he fun r1_ he=>?_
 refine Zf he (fun he=>?_) fun he=>?_
 ·exact Zon
 ·exact Zy [(2,[900]),(3,[])] (Zk he :) (Za [(900,2),(901,10)])
def Zf2:Con:=fun
  |[.c (.ptr 0 0)],[(0,.rc [.own 1 false,.own 2 false]),(1,.sl 89 (.pair (.sl (.pair (.int .i64) (.int .i64))) (.int .i64)) o1 .shallow),(2,.sl 4 .bool o2 .shallow)]=>.opt _ (Zev o1 o2) (fun r=>.ret (.c (.own 900 false)) [(0,.rc [.own 1 false,.own 2 false]),(1,.sl 89 y6_ o1 .shallow),(2,.sl 4 .bool o2 .shallow),(900,.sl 89 y6_ r .shallow)])
  |_,_=>.fail
def Zrq:Cfg:={ y:=tys,n:=30,h:=3,tab:=[] }
theorem ZrU:Zl Tryz.prog 268 Zf2:=by
 refine Zn (C:=Zrq) Tryz.f268 Zo fun _ a b k he=>?_
 unfold Zf2 at he;split at he;rotate_left;exact he.elim
 rename_i o1 o2
 refine Zq he fun he=>?_
 refine Zr (ZdG o1 o2) (fun (i,out)=>(Zm [(0,.c (.ptr 0 0)),(3,.c (.own 10000000 false)),(9,.c (.own 1 false)),(10,.c (.int .i64 (o1.length:Int))),(11,.c (.int .i64 i))],[(0,.rc [.own 1 false,.own 2 false]),(1,.sl 89 y6_ o1 .shallow),(2,.sl 4 .bool o2 .shallow),(10000000,.sl 89 y6_ out .shallow)])) he (Za []) ?_
 rintro⟨i,out⟩ _ he
 refine Zf he (fun he=>?_) fun he=>?_
 ·refine Zi he fun he=>?_
  refine Zi he fun he=>?_
  refine Zf he (fun he=>?_) fun he=>?_
  ·refine Zi he fun he=>?_
   refine Zi he fun he=>?_
   exact⟨_,(Zk he :),(Za [(10000000,27)])⟩
  ·exact Zdh
 ·exact Zy [(2,[])] (Zk he :) (Za [(900,10000000)])
def Zd6:Con:=fun
  |[.agg [.imm (.pair (.int .i64) (.int .i64)) c__0,.int .i64 c__1]],[]=>.opt _ (ZdC (c__0,c__1)) (fun r=>.ret (.c (.int .i64 r)) [])
  |_,_=>.fail
def Zso:Cfg:={ y:=tys,n:=19,h:=0,tab:=[] }
theorem ZlP:Zl Tryz.prog 236 Zd6:=by
 refine Zn (C:=Zso) Tryz.f236 Zo fun _ a b k he=>?_
 unfold Zd6 at he;split at he;rotate_left;exact he.elim
 rename_i c__0 c__1
 refine Zq he fun he=>?_
 refine Zr (ZdR (c__0,c__1)) (fun (sum,i)=>(Zm [(3,.c (.int .i64 sum)),(7,.c (.imm y5_ (c__0,c__1).1)),(8,.c (.int .i64 ((c__0,c__1).1.length:Int))),(9,.c (.int .i64 i))],[])) he (Za []) ?_
 rintro⟨sum,i⟩ _ he
 refine Zf he (fun he=>?_) fun he=>?_
 ·exact Zp0
 ·exact Z6
def Zfd:Con:=fun
  |[.agg [.imm (.pair (.int .i64) (.int .i64)) c__0,.int .i64 c__1]],[]=>.opt _ (ZdP (c__0,c__1)) (fun r=>.ret (.agg [.own 901 false,.int .i64 r.1]) [(900,.rc [.own 901 false,.int .i64 r.1]),(901,.sl 155 y5_ r.2 .shallow)])
  |_,_=>.fail
def ZhF:Sched:=.alt 9 .done .stop
def ZhG:Sched:=.alt 7 ZhF .stop
def ZhH:Sched:=.alt 6 ZhG .stop
def Zp1:Cfg:={ y:=tys,n:=34,h:=0,tab:=[(236,Zd6)],cut:=[1,2,5],sched:=[(1,(Zv [0,2,3] (.alt 1 (Zv [4,5] (.alt 6 (.alt 7 (.alt 8 ZhF .stop) (.alt 8 ZhG .stop)) (.alt 8 ZhH .stop))) (.alt 8 (.alt 1 (Zv [4,5] ZhH) .stop) .stop))))] }
theorem Zx1 {P:Prop} (h:P:=by
  refine Y4 ?_
  refine Y4 ?_
  exact⟨_,he,(Za [(10001000,10000000),(10001001,3)])⟩):P:=h
theorem Zqp:Zl Tryz.prog 294 Zfd:=by
 refine Zn (C:=Zp1) Tryz.f294 (Zj ZlP Zo) fun _ a b k he=>?_
 unfold Zfd at he;split at he;rotate_left;exact he.elim
 rename_i c__0 c__1
 refine Zq he fun he=>?_
 refine ZT (ZeL (c__0,c__1)) (fun _=>(Zm [(1,.c (.iptr y6_ (c__0,c__1) 0)),(2,.c (.ptr 10000000 0))],[(10000000,.rc [.nil,.int .i64 (0:Int)])])) he ?_ ?_
 ·rintro⟨⟩ he
  refine ZT (ZeM (c__0,c__1)) (fun out_1=>(Zm [(1,.c (.iptr y6_ (c__0,c__1) 0)),(2,.c (.ptr 10001000 0)),(3,.c (.ptr 10001001 0))],[(10001000,.rc [.nil,.int .i64 (0:Int)]),(10001001,.rc [.nil,.int .i64 out_1])])) he ?_ ?_
  ·rintro out_1 he
   refine Zr (ZcC (c__0,c__1) out_1) (fun (i,out_0)=>(Zm [(2,.c (.ptr 10002000 0)),(3,.c (.ptr 10002001 0)),(15,.c (.imm y5_ (c__0,c__1).1)),(16,.c (.int .i64 ((c__0,c__1).1.length:Int))),(17,.c (.int .i64 i))],[(10002000,.rc [.nil,.int .i64 (0:Int)]),(10002001,.rc [.own 10002002 false,.int .i64 out_1]),(10002002,.sl 155 y5_ out_0 .shallow)])) he (Za [(10002000,10001000),(10002001,10001001)]) ?_
   rintro⟨i,out_0⟩ _ he
   refine Zf he (fun he=>?_) fun he=>?_
   ·refine ZT (ZeN (c__0,c__1) i out_0) (fun _=>(Zm [(2,.c (.ptr 10004000 0)),(3,.c (.ptr 10004001 0)),(5,.c (.iptr y5_ ((c__0,c__1).1.getD i.toNat (0,0)) 0)),(15,.c (.imm y5_ (c__0,c__1).1)),(16,.c (.int .i64 ((c__0,c__1).1.length:Int))),(17,.c (.int .i64 i))],[(10004000,.rc [.nil,.int .i64 (0:Int)]),(10004001,.rc [.own 10004002 false,.int .i64 out_1]),(10004002,.sl 155 y5_ out_0 .shallow)])) he ?_ ?_
    ·rintro⟨⟩ he
     refine Zi he fun he=>?_
     refine Zi he fun he=>?_
     refine Zi he fun he=>?_
     exact⟨_,(Zk he :),(Za [(10002000,10004000),(10002001,10004001),(10002002,30)])⟩
    ·skip
     refine Zi he fun he=>?_
     exact⟨_,he,(ZcE [(10004000,10002000),(10004001,10002001),(10004002,10002002)] rfl rfl ⟨⟨rfl,rfl,Y1⟩,⟨Y3,rfl,Y1⟩,Y2,Y1⟩ ⟨⟨Y2,rfl⟩,⟨Y2,rfl⟩,.inr ⟨5,rfl,⟨rfl,by repeat (first|exact trivial|refine And.intro trivial ?_)⟩,rfl⟩,.inl rfl,rfl,rfl,Y1⟩)⟩
   ·exact Zy [(2,[900])] (Zk he :) (Za [(900,10002000),(901,10002002)])
  ·skip
   refine And.intro (by kernel_rfl) ?_
   obtain⟨r2_,hq1,he⟩:=Z5 he
   obtain⟨hq2,he⟩:=ZG he
   obtain⟨hq3,he⟩:=ZG he
   refine Y5 ?_ ?_
   ·skip
    refine⟨r2_,hq1,?_⟩
    refine And.intro hq2 ?_
    refine And.intro hq3 ?_
    refine Y5 ?_ ?_
    ·skip
     refine Y5 ?_ ?_
     ·skip
      exact Zx1
     ·skip
      exact Zx1
    ·skip
     refine Y4 ?_
     exact Zx1
   ·skip
    refine Y4 ?_
    refine⟨r2_,hq1,?_⟩
    refine And.intro hq2 ?_
    refine And.intro hq3 ?_
    refine Y4 ?_
    exact Zx1
 ·skip
  exact⟨_,he,(ZcE [(10000000,2)] rfl rfl ⟨⟨rfl,rfl,Y1⟩,Y1⟩ ⟨.inr ⟨1,rfl,⟨rfl,by repeat (first|exact trivial|refine And.intro trivial ?_)⟩,rfl⟩,⟨Y2,rfl⟩,Y1⟩)⟩
end
end Go.AE.Y
