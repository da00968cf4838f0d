/-
  Walks: each function keeps the contract that its model gives. No conditions.
-/
import Derived.Test.YtaeeiddjpigemaaGreatR8Tab
import Derived.Test.YtaeeiddjpigemaaGreatR8W7
import Derived.Test.YtaeeiddjpigemaaGreatR8S
namespace Go.AE.Y
open Go Go.AE Go.Proofs
set_option linter.unusedVariables false
set_option maxHeartbeats 2000000
set_option maxRecDepth 100000
noncomputable section
def Zch:Con:=fun
  |[.agg [.imm (.pair (.int .i64) (.int .i64)) c__0,.int .i64 c__1],.c (.fn 293 [0])],[(0,.rc [.int .i64 o0])]=>.opt _ (ZbE (c__0,c__1) o0) (fun r=>.ret (.tup [.agg [.imm y6_ r.2.1,.int .i64 r.2.2],.c (.bool r.1)]) [(0,.rc [.int .i64 o0]),(900,.rc [.imm y6_ r.2.1,.int .i64 r.2.2])])
  |_,_=>.fail
def Zdz:Sched:=ZF [11,12] (.alt 13 .done .stop)
def ZdA:Sched:=.alt 10 Zdz .stop
def ZdB:Sched:=.alt 9 ZdA .stop
def ZgH:Cfg:={ y:=tys,n:=39,h:=1,tab:=[(160,ZeD),(187,Zfe),(293,ZgL)],cut:=[8],good:=[187],sched:=[(6,(ZF [0,2,3,4,6] (.alt 1 (.alt 5 (ZF [7,8] ZdB) .stop) (.alt 5 (ZF [7,8] (.alt 1 ZdB (.alt 9 (.alt 1 ZdA (.alt 10 (.alt 1 Zdz .stop) .stop)) .stop))) .stop))))] }
theorem ZgV:Zn Tryz.prog 291 Zch:=by
 refine Zp (C:=ZgH) Tryz.f291 (Zk ZjJ (Zk Zm1 (Zk ZrZ Zq))) fun _ a b k he=>?_
 unfold Zch at he;split at he;rotate_left;exact he.elim
 rename_i c__0 c__1 o0
 refine Zs he fun he=>?_
 refine Zi he fun r1_ he=>?_
 refine Zi he fun r2_ he=>?_
 refine ZL (Zcf r2_) (fun out_01=>(Zm [(4,.c (.ptr 10001000 0)),(6,.c (.ptr 10001001 0))],[(0,.rc [.int .i64 o0]),(10001000,.rc [.nil,.int .i64 (0:Int)]),(10001001,.rc [.own 10001002 false,.int .i64 r2_]),(10001002,.sl 155 y6_ out_01 .shallow)])) he ?_ ?_
 ·exact ZHZ
 ·skip
  refine Zo (Zbs o0 r1_ r2_) (fun (i,out_0)=>(Zm [(1,.c (.fn 293 [0])),(4,.c (.ptr 10000000 0)),(6,.c (.ptr 10000001 0)),(17,.c (.int .i64 (r1_.2.length:Int))),(18,.c (.int .i64 i))],[(0,.rc [.int .i64 o0]),(10000000,.rc [.nil,.int .i64 (0:Int)]),(10000001,.rc [.own 10000002 false,.int .i64 r2_]),(10000002,.sl 155 y6_ out_0 .shallow)])) he (Za [(10000000,4),(10000001,6),(10000002,10901)]) ?_
  exact ZH0
def Zie:Con:=fun
  |[.agg [.imm (.pair (.int .i64) (.int .i64)) c__0,.int .i64 c__1],.c (.int .i64 k_)],[]=>.opt _ (Zf9 (c__0,c__1) k_) (fun r=>.ret (.tup [.agg [.imm y6_ r.2.1,.int .i64 r.2.2],.c (.bool r.1)]) [(900,.rc [.imm y6_ r.2.1,.int .i64 r.2.2])])
  |_,_=>.fail
def Ztk:Cfg:={ y:=tys,n:=20,h:=0,tab:=[(127,Zb7),(223,Z9),(291,Zch)] }
theorem Ztt:Zn Tryz.prog 263 Zie:=by
 refine Zp (C:=Ztk) Tryz.f263 (Zk ZcF (Zk ZbD (Zk ZgV Zq))) fun _ a b k he=>?_
 unfold Zie at he;split at he;rotate_left;exact he.elim
 rename_i c__0 c__1 k_
 refine Zs he fun he=>?_
 refine Zi he fun r1_ he=>?_
 refine ZI he (fun he=>?_) fun he=>?_
 ·refine Zi he fun r2_ he=>?_
  refine Zh he (fun he=>?_) fun he=>?_
  ·exact ZyK
  ·refine Zi he fun r3_ he=>?_
   exact ZyL
 ·exact ZyK
def ZgN:Con:=fun
  |[.agg [.imm (.pair (.int .i64) (.int .i64)) c__0,.int .i64 c__1]],[]=>.opt _ (Zfg (c__0,c__1)) (fun r=>.ret (.tup [.agg [.own 901 false,.int .i64 r.2.1],.c (.bool r.1)]) [(900,.rc [.own 901 false,.int .i64 r.2.1]),(901,.sl 155 y6_ r.2.2 .shallow)])
  |_,_=>.fail
def ZrQ:Cfg:={ y:=tys,n:=39,h:=0,tab:=[(223,Z9)] }
theorem Zr1:Zn Tryz.prog 264 ZgN:=by
 refine Zp (C:=ZrQ) Tryz.f264 (Zk ZbD Zq) fun _ a b k he=>?_
 unfold ZgN at he;split at he;rotate_left;exact he.elim
 rename_i c__0 c__1
 refine Zs he fun he=>?_
 refine Zi he fun r1_ he=>?_
 refine Zh he (fun he=>?_) fun he=>?_
 ·exact Ztf
 ·refine Zh he (fun he=>?_) fun he=>?_
  ·refine Zo (ZdD (c__0,c__1)) (fun (i,out_0)=>(Zm [(1,.c (.ptr 10000000 0)),(2,.c (.ptr 10000001 0)),(4,.c (.ptr 10000002 0)),(18,.c (.imm y6_ (c__0,c__1).1)),(19,.c (.int .i64 ((c__0,c__1).1.length:Int))),(20,.c (.int .i64 i))],[(10000000,.rc [.imm y6_ (c__0,c__1).1,.int .i64 (c__0,c__1).2]),(10000001,.rc [.nil,.int .i64 (0:Int)]),(10000002,.rc [.own 10000003 false,.int .i64 (c__0,c__1).2]),(10000003,.sl 155 y6_ out_0 .shallow)])) he (Za [(10000000,1),(10000001,2),(10000002,4)]) ?_
   rintro⟨i,out_0⟩ _ he
   refine Zh he (fun he=>?_) fun he=>?_
   ·refine Zg he fun he=>?_
    refine Zg he fun he=>?_
    exact ZIV
   ·exact Zv [(2,[900]),(3,[])] (Zj he :) (Za [(900,10000001),(901,10000003)])
  ·exact Ztf
def Zig:Con:=fun
  |[.agg [.imm (.pair (.int .i64) (.int .i64)) c__0,.int .i64 c__1],.c (.int .i64 variable_)],[]=>.opt _ (Zga (c__0,c__1) variable_) (fun r=>.ret (.tup [.agg [.own 901 false,.int .i64 r.2.1],.c (.bool r.1)]) [(900,.rc [.own 901 false,.int .i64 r.2.1]),(901,.sl 155 y6_ r.2.2 .shallow)])
  |_,_=>.fail
def Ztm:Cfg:={ y:=tys,n:=48,h:=0,tab:=[(127,Zb7),(170,Zeg),(223,Z9)] }
theorem Ztv:Zn Tryz.prog 265 Zig:=by
 refine Zp (C:=Ztm) Tryz.f265 (Zk ZcF (Zk ZgA (Zk ZbD Zq))) fun _ a b k he=>?_
 unfold Zig at he;split at he;rotate_left;exact he.elim
 rename_i c__0 c__1 variable_
 refine Zs he fun he=>?_
 refine Zi he fun r1_ he=>?_
 refine ZI he (fun he=>?_) fun he=>?_
 ·refine Zi he fun r2_ he=>?_
  refine Zh he (fun he=>?_) fun he=>?_
  ·exact ZyL
  ·refine Zo (Ze2 (c__0,c__1) variable_) (fun (i,out_1,out_0)=>(Zm [(1,.c (.int .i64 variable_)),(2,.c (.ptr 10000000 0)),(4,.c (.ptr 10000001 0)),(6,.c (.ptr 10000002 0)),(22,.c (.imm y6_ (c__0,c__1).1)),(23,.c (.int .i64 ((c__0,c__1).1.length:Int))),(24,.c (.int .i64 i))],[(10000000,.rc [.imm y6_ (c__0,c__1).1,.int .i64 (c__0,c__1).2]),(10000001,.rc [.nil,.int .i64 (0:Int)]),(10000002,.rc [.own 10000003 false,.int .i64 out_1]),(10000003,.sl 155 y6_ out_0 .shallow)])) he (Za [(10000000,2),(10000001,4),(10000002,6)]) ?_
   rintro⟨i,out_1,out_0⟩ _ he
   refine Zh he (fun he=>?_) fun he=>?_
   ·refine Zg he fun he=>?_
    refine Zi he fun r4_ he=>?_
    refine Zh he (fun he=>?_) fun he=>?_
    ·exact ZyQ
    ·refine Zg he fun he=>?_
     refine Zg he fun he=>?_
     exact⟨_,(Zj he :),(Za [(10000003,44)])⟩
   ·exact Zv [(4,[900]),(5,[])] (Zj he :) (Za [(900,10000001),(901,10000003)])
 ·exact ZyL
def Zlf:Con:=fun
  |[.c (.int .i64 lit)],[]=>.opt _ (Zjh lit) (fun r=>.ret (.tup [.agg [.own 901 false,.int .i64 r.2.1],.c (.bool r.1)]) [(900,.rc [.own 901 false,.int .i64 r.2.1]),(901,.sl 155 y6_ r.2.2 .shallow)])
  |_,_=>.fail
def Zwo:Cfg:={ y:=tys,n:=12,h:=0,tab:=[(177,Zhj)] }
theorem ZwE:Zn Tryz.prog 266 Zlf:=by
 refine Zp (C:=Zwo) Tryz.f266 (Zk Zn9 Zq) fun _ a b k he=>?_
 unfold Zlf at he;split at he;rotate_left;exact he.elim
 rename_i lit
 refine Zs he fun he=>?_
 refine Zi he fun r1_ he=>?_
 refine Zh he (fun he=>?_) fun he=>?_
 ·exact Ztf
 ·exact Zv [(2,[900]),(3,[])] (Zj he :) (Za [(900,2),(901,10)])
def Zhl:Con:=fun
  |[.c (.ptr 0 0)],[(0,.rc [.own 1 false,.own 2 false]),(1,.sl 89 (.pair (.sl (.pair (.int .i64) (.int .i64))) (.int .i64)) o1 .shallow),(2,.sl 4 .bool o2 .shallow)]=>.opt _ (ZfK o1 o2) (fun r=>.ret (.c (.own 900 false)) [(0,.rc [.own 1 false,.own 2 false]),(1,.sl 89 y7_ o1 .shallow),(2,.sl 4 .bool o2 .shallow),(900,.sl 89 y7_ r .shallow)])
  |_,_=>.fail
def Zsp:Cfg:={ y:=tys,n:=30,h:=3,tab:=[] }
theorem ZsS:Zn Tryz.prog 268 Zhl:=by
 refine Zp (C:=Zsp) Tryz.f268 Zq fun _ a b k he=>?_
 unfold Zhl at he;split at he;rotate_left;exact he.elim
 rename_i o1 o2
 refine Zs he fun he=>?_
 refine Zo (ZeL o1 o2) (fun (i,out)=>(Zm [(0,.c (.ptr 0 0)),(3,.c (.own 10000000 false)),(9,.c (.own 1 false)),(10,.c (.int .i64 (o1.length:Int))),(11,.c (.int .i64 i))],[(0,.rc [.own 1 false,.own 2 false]),(1,.sl 89 y7_ o1 .shallow),(2,.sl 4 .bool o2 .shallow),(10000000,.sl 89 y7_ out .shallow)])) he (Za []) ?_
 rintro⟨i,out⟩ _ he
 refine Zh he (fun he=>?_) fun he=>?_
 ·refine Zg he fun he=>?_
  refine Zg he fun he=>?_
  refine Zh he (fun he=>?_) fun he=>?_
  ·refine Zg he fun he=>?_
   refine Zg he fun he=>?_
   exact⟨_,(Zj he :),(Za [(10000000,27)])⟩
  ·exact Zdy
 ·exact Zv [(2,[])] (Zj he :) (Za [(900,10000000)])
def Zfd:Con:=fun
  |[.agg [.imm (.pair (.int .i64) (.int .i64)) c__0,.int .i64 c__1]],[]=>.opt _ (ZeH (c__0,c__1)) (fun r=>.ret (.c (.int .i64 r)) [])
  |_,_=>.fail
def Zti:Cfg:={ y:=tys,n:=19,h:=0,tab:=[] }
theorem Zm0:Zn Tryz.prog 236 Zfd:=by
 refine Zp (C:=Zti) Tryz.f236 Zq fun _ a b k he=>?_
 unfold Zfd at he;split at he;rotate_left;exact he.elim
 rename_i c__0 c__1
 refine Zs he fun he=>?_
 refine Zo (ZeY (c__0,c__1)) (fun (sum,i)=>(Zm [(3,.c (.int .i64 sum)),(7,.c (.imm y6_ (c__0,c__1).1)),(8,.c (.int .i64 ((c__0,c__1).1.length:Int))),(9,.c (.int .i64 i))],[])) he (Za []) ?_
 rintro⟨sum,i⟩ _ he
 refine Zh he (fun he=>?_) fun he=>?_
 ·exact ZuU
 ·exact Z5
def Zgm:Con:=fun
  |[.agg [.imm (.pair (.int .i64) (.int .i64)) c__0,.int .i64 c__1]],[]=>.opt _ (ZeW (c__0,c__1)) (fun r=>.ret (.agg [.own 901 false,.int .i64 r.1]) [(900,.rc [.own 901 false,.int .i64 r.1]),(901,.sl 155 y6_ r.2 .shallow)])
  |_,_=>.fail
def Zi2:Sched:=.alt 9 .done .stop
def Zi3:Sched:=.alt 7 Zi2 .stop
def Zi4:Sched:=.alt 6 Zi3 .stop
def Zre:Cfg:={ y:=tys,n:=34,h:=0,tab:=[(236,Zfd)],cut:=[1,2,5],sched:=[(1,(ZF [0,2,3] (.alt 1 (ZF [4,5] (.alt 6 (.alt 7 (.alt 8 Zi2 .stop) (.alt 8 Zi3 .stop)) (.alt 8 Zi4 .stop))) (.alt 8 (.alt 1 (ZF [4,5] Zi4) .stop) .stop))))] }
theorem ZyM {P:Prop} (h:P:=by
  refine Y4 ?_
  refine Y4 ?_
  exact⟨_,he,(Za [(10001000,10000000),(10001001,3)])⟩):P:=h
theorem Zru:Zn Tryz.prog 294 Zgm:=by
 refine Zp (C:=Zre) Tryz.f294 (Zk Zm0 Zq) fun _ a b k he=>?_
 unfold Zgm at he;split at he;rotate_left;exact he.elim
 rename_i c__0 c__1
 refine Zs he fun he=>?_
 refine ZL (ZfX (c__0,c__1)) (fun _=>(Zm [(1,.c (.iptr y7_ (c__0,c__1) 0)),(2,.c (.ptr 10000000 0))],[(10000000,.rc [.nil,.int .i64 (0:Int)])])) he ?_ ?_
 ·rintro⟨⟩ he
  refine ZL (ZfY (c__0,c__1)) (fun out_1=>(Zm [(1,.c (.iptr y7_ (c__0,c__1) 0)),(2,.c (.ptr 10001000 0)),(3,.c (.ptr 10001001 0))],[(10001000,.rc [.nil,.int .i64 (0:Int)]),(10001001,.rc [.nil,.int .i64 out_1])])) he ?_ ?_
  ·rintro out_1 he
   refine Zo (Zdn (c__0,c__1) out_1) (fun (i,out_0)=>(Zm [(2,.c (.ptr 10002000 0)),(3,.c (.ptr 10002001 0)),(15,.c (.imm y6_ (c__0,c__1).1)),(16,.c (.int .i64 ((c__0,c__1).1.length:Int))),(17,.c (.int .i64 i))],[(10002000,.rc [.nil,.int .i64 (0:Int)]),(10002001,.rc [.own 10002002 false,.int .i64 out_1]),(10002002,.sl 155 y6_ out_0 .shallow)])) he (Za [(10002000,10001000),(10002001,10001001)]) ?_
   rintro⟨i,out_0⟩ _ he
   refine Zh he (fun he=>?_) fun he=>?_
   ·refine ZL (ZfZ (c__0,c__1) i out_0) (fun _=>(Zm [(2,.c (.ptr 10004000 0)),(3,.c (.ptr 10004001 0)),(5,.c (.iptr y6_ ((c__0,c__1).1.getD i.toNat (0,0)) 0)),(15,.c (.imm y6_ (c__0,c__1).1)),(16,.c (.int .i64 ((c__0,c__1).1.length:Int))),(17,.c (.int .i64 i))],[(10004000,.rc [.nil,.int .i64 (0:Int)]),(10004001,.rc [.own 10004002 false,.int .i64 out_1]),(10004002,.sl 155 y6_ out_0 .shallow)])) he ?_ ?_
    ·rintro⟨⟩ he
     refine Zg he fun he=>?_
     refine Zg he fun he=>?_
     refine Zg he fun he=>?_
     exact⟨_,(Zj he :),(Za [(10002000,10004000),(10002001,10004001),(10002002,30)])⟩
    ·skip
     refine Zg he fun he=>?_
     exact⟨_,he,(Zdp [(10004000,10002000),(10004001,10002001),(10004002,10002002)] rfl rfl ⟨⟨rfl,rfl,Y1⟩,⟨Y3,rfl,Y1⟩,Y2,Y1⟩ ⟨⟨Y2,rfl⟩,⟨Y2,rfl⟩,.inr ⟨5,rfl,⟨rfl,by repeat (first|exact trivial|refine And.intro trivial ?_)⟩,rfl⟩,.inl rfl,rfl,rfl,Y1⟩)⟩
   ·exact Zv [(2,[900])] (Zj he :) (Za [(900,10002000),(901,10002002)])
  ·skip
   refine And.intro (by kernel_rfl) ?_
   obtain⟨r2_,hq1,he⟩:=Z6 he
   obtain⟨hq2,he⟩:=ZO he
   obtain⟨hq3,he⟩:=ZO he
   refine Y5 ?_ ?_
   ·skip
    refine⟨r2_,hq1,?_⟩
    refine And.intro hq2 ?_
    refine And.intro hq3 ?_
    refine Y5 ?_ ?_
    ·skip
     refine Y5 ?_ ?_
     ·skip
      exact ZyM
     ·skip
      exact ZyM
    ·skip
     refine Y4 ?_
     exact ZyM
   ·skip
    refine Y4 ?_
    refine⟨r2_,hq1,?_⟩
    refine And.intro hq2 ?_
    refine And.intro hq3 ?_
    refine Y4 ?_
    exact ZyM
 ·skip
  exact⟨_,he,(Zdp [(10000000,2)] rfl rfl ⟨⟨rfl,rfl,Y1⟩,Y1⟩ ⟨.inr ⟨1,rfl,⟨rfl,by repeat (first|exact trivial|refine And.intro trivial ?_)⟩,rfl⟩,⟨Y2,rfl⟩,Y1⟩)⟩
def Zvh:Con:=fun
  |[.c (.imm (.pair (.sl (.pair (.int .i64) (.int .i64))) (.int .i64)) list_),.agg [.imm (.pair (.int .i64) (.int .i64)) c__0,.int .i64 c__1]],[]=>.opt _ (Zvy list_ (c__0,c__1)) (fun r=>.ret (.c (.bool r)) [])
  |_,_=>.fail
def Zv7:Sched:=.alt 7 (ZF [8,9,10,11,12] .done) .stop
def Zv8:Sched:=.alt 5 Zv7 .stop
def Zv9:Sched:=.alt 4 Zv8 .stop
def Zrg:Sched:=.alt 3 Zv9 .stop
def Zwa:Sched:=.alt 3 (.alt 4 (.alt 5 (.alt 6 Zv7 .stop) (.alt 6 Zv8 .stop)) (.alt 6 Zv9 .stop)) (.alt 6 Zrg .stop)
def Zwb:Sched:=.alt 2 Zrg .stop
def Zwc:Sched:=.alt 1 Zrg .stop
def ZIb:Cfg:={ y:=tys,n:=20,h:=0,tab:=[(61,Zb2),(171,Zhk),(294,Zgm)],cut:=[2],sched:=[(1,(.first 0 (.alt 1 (.alt 2 Zwa (.alt 6 Zwb .stop)) (.alt 2 (.alt 1 Zwa (.alt 6 Zwc .stop)) (.alt 6 (.alt 1 Zwb (.alt 2 Zwc .stop)) .stop)))))] }
theorem ZCF {P:Prop} (h:P:=by
  refine Y4 ?_
  refine⟨r6_,hq5,?_⟩
  exact⟨_,he,(Za [])⟩):P:=h
theorem ZH1 {P:Prop} (h:P:=by
  refine Y4 ?_
  refine Y4 ?_
  refine And.intro hq3 ?_
  exact ZCF):P:=h
theorem ZuZ {P:Prop} (h:P:=by
  refine Y4 ?_
  refine⟨r5_,hq2,?_⟩
  exact ZH1):P:=h
theorem ZH2 {P:Prop} (h:P:=by
  refine Y5 ?_ ?_
  ·skip
   refine⟨r5_,hq2,?_⟩
   refine Y5 ?_ ?_
   ·skip
    refine Y5 ?_ ?_
    ·skip
     refine And.intro hq3 ?_
     refine Y4 ?_
     refine And.intro hq4 ?_
     exact ZCF
    ·skip
     refine And.intro hq4 ?_
     refine Y4 ?_
     refine And.intro hq3 ?_
     exact ZCF
   ·skip
    refine And.intro hq4 ?_
    exact ZH1
  ·skip
   refine And.intro hq4 ?_
   exact ZuZ):P:=h
theorem ZIt:Zn Tryz.prog 267 Zvh:=by
 refine Zp (C:=ZIb) Tryz.f267 (Zk ZdS (Zk Zoa (Zk Zru Zq))) fun _ a b k he=>?_
 unfold Zvh at he;split at he;rotate_left;exact he.elim
 rename_i list_ c__0 c__1
 refine Zs he fun he=>?_
 refine ZL (Zuc) (fun i=>(Zm [(6,.c (.int .i64 i))],[])) he ?_ ?_
 ·rintro i he
  exact Z5
 ·skip
  refine And.intro (by kernel_rfl) ?_
  obtain⟨r4_,hq1,he⟩:=Z6 he
  obtain⟨r5_,hq2,he⟩:=Z6 he
  obtain⟨hq3,he⟩:=ZO he
  obtain⟨hq4,he⟩:=ZO he
  obtain⟨r6_,hq5,he⟩:=Z6 he
  refine And.intro ?_ (And.intro ?_ (And.intro ?_ (Y1)))
  ·skip
   refine⟨r4_,hq1,?_⟩
   refine Y5 ?_ ?_
   ·skip
    exact ZH2
   ·skip
    refine And.intro hq4 ?_
    refine Y4 ?_
    exact ZuZ
  ·skip
   refine Y5 ?_ ?_
   ·skip
    refine⟨r4_,hq1,?_⟩
    exact ZH2
   ·skip
    refine And.intro hq4 ?_
    refine Y4 ?_
    refine⟨r4_,hq1,?_⟩
    exact ZuZ
  ·skip
   refine And.intro hq4 ?_
   refine Y5 ?_ ?_
   ·skip
    refine⟨r4_,hq1,?_⟩
    refine Y4 ?_
    exact ZuZ
   ·skip
    refine Y4 ?_
    refine⟨r4_,hq1,?_⟩
    exact ZuZ
def Zll:Con:=fun
  |[.c (.ptr 0 0),.agg [.int .i64 a1_0,.int .i64 a1_1,.int .i64 a1_2,.imm (.pair (.int .i64) (.int .i64)) a1_3,.int .i64 a1_4]],[(0,.rc [.own 1 false,.own 2 false]),(1,.sl 89 (.pair (.sl (.pair (.int .i64) (.int .i64))) (.int .i64)) o1 .shallow),(2,.sl 4 .bool o2 .shallow)]=>.opt _ (Zes (a1_0,(a1_1,(a1_2,(a1_3,a1_4)))) o1 o2) (fun r=>.ret (.c (.bool r.1)) [(0,.rc [.own 900 false,.own 901 false]),(1,.dead),(2,.dead),(900,.sl 89 y7_ r.2.1 .shallow),(901,.sl 4 .bool r.2.2 .shallow)])
  |_,_=>.fail
def ZjZ:Sched:=.alt 16 (ZF [17,18,19] (.alt 20 (.first 21 .done) .stop)) .stop
def Zj0:Sched:=.alt 15 ZjZ .stop
def Zj1:Sched:=.alt 7 ZjZ .stop
def Zj2:Sched:=.alt 7 Zj0 (.alt 15 Zj1 .stop)
def ZfQ:Sched:=ZF [0,1,2,4,5,8,9] (.alt 3 (.first 6 (.alt 7 (.alt 10 (ZF [11,12,13] (.alt 14 (.first 15 .done) .stop)) .stop) .stop)) .stop)
def Zj3:Sched:=.first 11 (.alt 12 (.first 13 .done) .stop)
def ZfR:Sched:=.alt 14 (ZF [15,16] (.alt 17 (ZF [18,19] (.alt 20 .done .stop)) .stop)) .stop
def Zj4:Sched:=.alt 13 ZfR .stop
def Zj5:Sched:=.alt 12 ZfR .stop
def Zd6:Sched:=.alt 8 ZfR .stop
def Zfu:Sched:=.alt 8 Zj4 (.alt 13 Zd6 .stop)
def Zfv:Sched:=.alt 8 Zj5 (.alt 12 Zd6 .stop)
def Zjq:Sched:=.alt 8 (.alt 12 Zj4 (.alt 13 Zj5 .stop)) (.alt 12 Zfu (.alt 13 Zfv .stop))
def Zfw:Sched:=.alt 7 Zd6 .stop
def Zjr:Sched:=.alt 7 Zfu (.alt 13 Zfw .stop)
def Zjs:Sched:=.alt 7 Zfv (.alt 12 Zfw .stop)
def Zfx:Sched:=.alt 5 Zd6 .stop
def Zjt:Sched:=.alt 5 Zfu (.alt 13 Zfx .stop)
def Zju:Sched:=.alt 5 Zfv (.alt 12 Zfx .stop)
def Zjv:Sched:=.alt 5 Zfw (.alt 7 Zfx .stop)
def Zww:Cfg:={ y:=tys,n:=177,h:=3,tab:=[(155,ZnH),(223,Z9),(259,Zl3),(260,Zih),(261,ZjC),(262,ZgM),(263,Zie),(264,ZgN),(265,Zig),(266,Zlf),(267,Zvh),(268,Zhl)],cut:=[1,4,24,25],sched:=[(8,(ZF [0,1,2,4,5] (.alt 3 (.first 6 (.alt 7 .done .stop)) .stop))),(11,(ZF [0,1,2,4,5,8,9,10,12,13] (.alt 3 (.first 6 (.alt 7 (.alt 11 (.first 14 Zj0) .stop) (.alt 11 (.first 14 Zj2) .stop))) (.alt 11 (.first 14 (.alt 3 (.first 6 Zj2) (.alt 15 (.alt 3 (.first 6 Zj1) .stop) .stop))) .stop)))),(13,ZfQ),(15,ZfQ),(17,(ZF [0,1,2,4,5] (.alt 3 (.first 6 (.alt 7 (.alt 8 (ZF [9,10] Zj3) .stop) .stop)) .stop))),(19,ZfQ),(23,(ZF [0,1,2,3] (.alt 4 (ZF [5,6,8,9] (.alt 7 (.alt 10 Zj3 .stop) .stop)) .stop))),(24,(ZF [0,1,2,3,4,6,9,10,11] (.alt 5 (.alt 7 Zjq (.alt 12 Zjr (.alt 13 Zjs .stop))) (.alt 7 (.alt 5 Zjq (.alt 12 Zjt (.alt 13 Zju .stop))) (.alt 12 (.alt 5 Zjr (.alt 7 Zjt (.alt 13 Zjv .stop))) (.alt 13 (.alt 5 Zjs (.alt 7 Zju (.alt 12 Zjv .stop))) .stop))))))] }
theorem Zu0 {P:Prop} (h:P:=by
  refine Y4 ?_
  refine And.intro hq2 ?_
  refine Y4 ?_
  refine Y4 ?_
  exact⟨_,he,(Za [(10003000,165),(10003001,171)])⟩):P:=h
theorem ZCG {P:Prop} (h:P:=by
  skip
  refine Y5 ?_ ?_
  ·skip
   refine And.intro hq1 ?_
   refine Y4 ?_
   exact Zu0
  ·skip
   refine Y4 ?_
   refine And.intro hq1 ?_
   exact Zu0):P:=h
theorem ZCH {P:Prop} (h:P:=by
  skip
  refine Y4 ?_
  refine Y4 ?_
  refine And.intro hq1 ?_
  exact Zu0):P:=h
theorem ZyN {P:Prop} (h:P:=by
  skip
  refine Y5 ?_ ?_
  ·exact ZCG
  ·exact ZCH):P:=h
theorem ZH3 {P:Prop} (h:P:=by
  skip
  refine And.intro ?_ (And.intro ?_ (And.intro ?_ (Y1)))
  ·skip
   refine And.intro ?_ (And.intro ?_ (And.intro ?_ (Y1)))
   ·skip
    refine And.intro hq1 ?_
    refine Y5 ?_ ?_
    ·skip
     refine Y4 ?_
     exact Zu0
    ·skip
     refine Y4 ?_
     exact Zu0
   ·exact ZCG
   ·exact ZCG
  ·exact ZyN
  ·exact ZyN):P:=h
theorem ZH4 {P:Prop} (h:P:=by
  skip
  refine And.intro ?_ (And.intro ?_ (And.intro ?_ (Y1)))
  ·exact ZyN
  ·exact ZyN
  ·skip
   refine Y5 ?_ ?_
   ·exact ZCH
   ·exact ZCH):P:=h
theorem ZyO {P:Prop} (h:P:=by
  exact Zv [(4,[])] (Zj he :) (Za [(900,1),(901,2)])):P:=h
theorem ZyP {P:Prop} (h:P:=by
  refine Y4 ?_
  refine Y4 ?_
  refine⟨r7_,hq3,?_⟩
  refine Y4 ?_
  exact⟨_,he,((Zf2 [71901]).trans (Zdp [] (l:=[(0,.c (.ptr 0 0)),(7,.c (.iptr y7_ (r7_.2.2,r7_.2.1) 0)),(8,.c (.bool r7_.1))]) (st':=[(0,.rc [.own 1 false,.own 2 false]),(1,.sl 89 y7_ o1 .shallow),(2,.sl 4 .bool o2 .shallow)]) rfl rfl ⟨⟨Y3,Y3,Y1⟩,Y2,Y2,Y1⟩ ⟨⟨Y2,rfl⟩,.inr ⟨7,rfl,⟨rfl,by repeat (first|exact trivial|refine And.intro trivial ?_)⟩,rfl⟩,.inl rfl,Y1⟩))⟩):P:=h
theorem ZH5 {P:Prop} (h:P:=by
  refine Y5 ?_ ?_
  ·skip
   exact ZyP
  ·skip
   exact ZyP):P:=h
theorem ZCI {P:Prop} (h:P:=by
  refine Y4 ?_
  exact⟨_,he,(Zdp [] rfl rfl ⟨⟨Y3,Y3,Y1⟩,Y2,Y2,Y1⟩ ⟨⟨Y2,rfl⟩,.inr ⟨7,rfl,⟨rfl,by repeat (first|exact trivial|refine And.intro trivial ?_)⟩,rfl⟩,.inl rfl,Y1⟩)⟩):P:=h
theorem ZH6 {P:Prop} (h:P:=by
  exact⟨_,he,(Zdp [] rfl rfl ⟨⟨Y3,Y3,Y1⟩,Y2,Y2,Y1⟩ ⟨⟨Y2,rfl⟩,.inr ⟨7,rfl,⟨rfl,by repeat (first|exact trivial|refine And.intro trivial ?_)⟩,rfl⟩,.inr rfl,Y1⟩)⟩):P:=h
theorem ZH7 {P:Prop} (h:P:=by
  refine Zh he (fun he=>?_) fun he=>?_
  ·exact ZyO
  ·exact⟨_,he,(Za [])⟩):P:=h
theorem ZwK:Zn Tryz.prog 235 Zll:=by
 refine Zp (C:=Zww) Tryz.f235 (Zk Zwg (Zk ZbD (Zk Zxs (Zk Ztw (Zk Zuy (Zk Zr0 (Zk Ztt (Zk Zr1 (Zk Ztv (Zk ZwE (Zk ZIt (Zk ZsS Zq)))))))))))) fun _ a b k he=>?_
 unfold Zll at he;split at he;rotate_left;exact he.elim
 rename_i a1_0 a1_1 a1_2 a1_3 a1_4 o1 o2
 refine Zs he fun he=>?_
 refine ZL (ZgT (a1_0,(a1_1,(a1_2,(a1_3,a1_4)))) o1 o2) (fun _=>(Zm [(0,.c (.ptr 0 0)),(3,.c (.iptr Zcb (a1_0,(a1_1,(a1_2,(a1_3,a1_4)))) 0))],[(0,.rc [.own 1 false,.own 2 false]),(1,.sl 89 y7_ o1 .shallow),(2,.sl 4 .bool o2 .shallow)])) he ?_ ?_
 ·rintro⟨⟩ he
  refine Zi he fun r1_ he=>?_
  refine ZL (ZbP (a1_0,(a1_1,(a1_2,(a1_3,a1_4)))) o1 o2) (fun _=>(Zm [(0,.c (.ptr 0 0)),(3,.c (.iptr Zcb (a1_0,(a1_1,(a1_2,(a1_3,a1_4)))) 0))],[(0,.rc [.own 1 false,.own 2 false]),(1,.sl 89 y7_ o1 .shallow),(2,.sl 4 .bool o2 .shallow)])) he ?_ ?_
  ·rintro⟨⟩ he
   refine ZL (ZS o1 o2) (fun (i,i1)=>(Zm [(0,.c (.ptr 0 0)),(7,.c (.iptr y7_ i 0)),(8,.c (.bool i1))],[(0,.rc [.own 1 false,.own 2 false]),(1,.sl 89 y7_ o1 .shallow),(2,.sl 4 .bool o2 .shallow)])) he ?_ ?_
   ·rintro⟨i,i1⟩ he
    refine ZL (ZgU o1 o2 i i1) (fun _=>(Zm [(8,.c (.bool i1))],[(0,.rc [.own 10003000 false,.own 10003001 false]),(1,.dead),(2,.dead),(10003000,.sl 89 y7_ (o1++[i]) .shallow),(10003001,.sl 4 .bool (o2++[false]) .shallow)])) he ?_ ?_
    ·rintro⟨⟩ he
     exact Zv [(4,[])] (Zj he :) (Za [(900,10003000),(901,10003001)])
    ·skip
     refine And.intro (by kernel_rfl) ?_
     obtain⟨hq1,he⟩:=ZO he
     obtain⟨hq2,he⟩:=ZO he
     refine And.intro ?_ (And.intro ?_ (And.intro ?_ (And.intro ?_ (Y1))))
     ·exact ZH3
     ·exact ZH3
     ·exact ZH4
     ·exact ZH4
   ·skip
    refine Zh he (fun he=>?_) fun he=>?_
    ·refine And.intro (by kernel_rfl) ?_
     refine Y4 ?_
     refine Zg he fun he=>?_
     refine Y4 ?_
     exact ZyO
    ·refine Zh he (fun he=>?_) fun he=>?_
     ·refine And.intro (by kernel_rfl) ?_
      obtain⟨hq1,he⟩:=ZO he
      obtain⟨hq2,he⟩:=ZO he
      obtain⟨r7_,hq3,he⟩:=Z6 he
      refine Y5 ?_ ?_
      ·skip
       refine And.intro hq1 ?_
       refine Y5 ?_ ?_
       ·skip
        refine Y4 ?_
        refine And.intro hq2 ?_
        exact ZyP
       ·skip
        refine And.intro hq2 ?_
        exact ZH5
      ·skip
       refine And.intro hq2 ?_
       refine Y5 ?_ ?_
       ·skip
        refine And.intro hq1 ?_
        exact ZH5
       ·skip
        refine Y4 ?_
        refine And.intro hq1 ?_
        exact ZyP
     ·refine Zh he (fun he=>?_) fun he=>?_
      ·refine And.intro (by kernel_rfl) ?_
       refine Y4 ?_
       refine Zg he fun he=>?_
       refine Y4 ?_
       refine Y4 ?_
       refine Zi he fun r9_ he=>?_
       exact ZCI
      ·refine Zh he (fun he=>?_) fun he=>?_
       ·refine And.intro (by kernel_rfl) ?_
        refine Y4 ?_
        refine Zg he fun he=>?_
        refine Y4 ?_
        refine Y4 ?_
        refine Zi he fun r11_ he=>?_
        exact ZCI
       ·refine Zh he (fun he=>?_) fun he=>?_
        ·refine And.intro (by kernel_rfl) ?_
         refine Y4 ?_
         refine Zg he fun he=>?_
         refine Y4 ?_
         refine Y4 ?_
         refine Zi he fun r13_ he=>?_
         refine Y4 ?_
         exact⟨_,he,((Zf2 [117901]).trans (Zdp [] (l:=[(0,.c (.ptr 0 0)),(7,.c (.iptr y7_ (r13_.2.2,r13_.2.1) 0)),(8,.c (.bool r13_.1))]) (st':=[(0,.rc [.own 1 false,.own 2 false]),(1,.sl 89 y7_ o1 .shallow),(2,.sl 4 .bool o2 .shallow)]) rfl rfl ⟨⟨Y3,Y3,Y1⟩,Y2,Y2,Y1⟩ ⟨⟨Y2,rfl⟩,.inr ⟨7,rfl,⟨rfl,by repeat (first|exact trivial|refine And.intro trivial ?_)⟩,rfl⟩,.inl rfl,Y1⟩))⟩
        ·refine Zh he (fun he=>?_) fun he=>?_
         ·refine And.intro (by kernel_rfl) ?_
          refine Y4 ?_
          refine Zg he fun he=>?_
          refine Y4 ?_
          refine Y4 ?_
          refine Zi he fun r15_ he=>?_
          refine Y4 ?_
          exact⟨_,he,((Zf2 [133901]).trans (Zdp [] (l:=[(0,.c (.ptr 0 0)),(7,.c (.iptr y7_ (r15_.2.2,r15_.2.1) 0)),(8,.c (.bool r15_.1))]) (st':=[(0,.rc [.own 1 false,.own 2 false]),(1,.sl 89 y7_ o1 .shallow),(2,.sl 4 .bool o2 .shallow)]) rfl rfl ⟨⟨Y3,Y3,Y1⟩,Y2,Y2,Y1⟩ ⟨⟨Y2,rfl⟩,.inr ⟨7,rfl,⟨rfl,by repeat (first|exact trivial|refine And.intro trivial ?_)⟩,rfl⟩,.inl rfl,Y1⟩))⟩
         ·refine Zh he (fun he=>?_) fun he=>?_
          ·refine Zi he fun r16_ he=>?_
           exact⟨_,he,((Zf2 [141901]).trans (Zdp [] (l:=[(0,.c (.ptr 0 0)),(7,.c (.iptr y7_ (r16_.2.2,r16_.2.1) 0)),(8,.c (.bool r16_.1))]) (st':=[(0,.rc [.own 1 false,.own 2 false]),(1,.sl 89 y7_ o1 .shallow),(2,.sl 4 .bool o2 .shallow)]) rfl rfl ⟨⟨Y3,Y3,Y1⟩,Y2,Y2,Y1⟩ ⟨⟨Y2,rfl⟩,.inr ⟨7,rfl,⟨rfl,by repeat (first|exact trivial|refine And.intro trivial ?_)⟩,rfl⟩,.inl rfl,Y1⟩))⟩
          ·refine Zh he (fun he=>?_) fun he=>?_
           ·refine And.intro (by kernel_rfl) ?_
            refine Y4 ?_
            refine Zi he fun r20_ he=>?_
            refine Zh he (fun he=>?_) fun he=>?_
            ·refine Y4 ?_
             refine Zi he fun r21_ he=>?_
             refine Y4 ?_
             refine Zi he fun r22_ he=>?_
             exact ZCI
            ·refine Y4 ?_
             refine Y4 ?_
             refine Y4 ?_
             exact ZH6
           ·exact ZH6
  ·skip
   refine Zi he fun r2_ he=>?_
   refine ZI he (fun he=>?_) fun he=>?_
   ·refine Zh he (fun he=>?_) fun he=>?_
    ·refine Zi he fun r3_ he=>?_
     refine ZI he (fun he=>?_) fun he=>?_
     ·refine Zh he (fun he=>?_) fun he=>?_
      ·refine Zi he fun r4_ he=>?_
       exact ZH7
      ·exact⟨_,he,(Za [])⟩
     ·exact ZyO
    ·refine Zh he (fun he=>?_) fun he=>?_
     ·refine Zi he fun r5_ he=>?_
      exact ZH7
     ·exact⟨_,he,(Za [])⟩
   ·exact ZyO
 ·skip
  exact⟨_,he,(Zdp [] rfl rfl ⟨⟨Y3,Y3,Y1⟩,Y2,Y2,Y1⟩ ⟨⟨Y2,rfl⟩,.inr ⟨3,rfl,⟨rfl,by repeat (first|exact trivial|refine And.intro trivial ?_)⟩,rfl⟩,Y1⟩)⟩
def Zvg:Con:=fun
  |[.c (.imm (.pair (.sl (.pair (.int .i64) (.int .i64))) (.int .i64)) list_),.c (.imm (.pair (.int .i64) (.pair (.int .i64) (.pair (.int .i64) (.pair (.sl (.pair (.int .i64) (.int .i64))) (.int .i64))))) steps)],[]=>.opt _ (Zvx list_ steps) (fun r=>.ite r.1 (.ret (.tup [.c (.ptr 900 0),.c (.int .i64 r.2.1)]) [(900,.rc [.own 901 false,.own 902 false]),(901,.sl 89 y7_ r.2.2.1 .shallow),(902,.sl 4 .bool r.2.2.2.1 .shallow)]) (.ret (.tup [.c (.undef),.c (.int .i64 r.2.2.2.2)]) []))
  |_,_=>.fail
def Zv6:Sched:=.alt 5 (.alt 6 (.first 7 .done) .stop) .stop
def ZIa:Cfg:={ y:=tys,n:=38,h:=0,tab:=[(61,Zb2),(98,ZhL),(235,Zll)],cut:=[4],sched:=[(3,(ZF [0,2,3] (.alt 1 (.alt 4 Zv6 .stop) (.alt 4 (.alt 1 Zv6 .stop) .stop))))] }
theorem ZCJ {P:Prop} (h:P:=by
  have he:=Zj he
  have he:=he.2 rfl
  exact⟨rfl,_,_,Leads.refl _ _,he⟩):P:=h
theorem ZH8 {P:Prop} (h:P:=by
  refine Y4 ?_
  refine Y4 ?_
  exact⟨_,he,(Za [(10000000,23),(10000001,19900),(10000002,21)])⟩):P:=h
theorem ZIs:Zn Tryz.prog 174 Zvg:=by
 refine Zp (C:=ZIa) Tryz.f174 (Zk ZdS (Zk ZpF (Zk ZwK Zq))) fun _ a b k he=>?_
 unfold Zvg at he;split at he;rotate_left;exact he.elim
 rename_i list_ steps
 refine ZLB he fun he=>?_
 refine Zi he fun r1_ he=>?_
 refine ZI he (fun he=>?_) fun he=>?_
 ·refine Zh he (fun he=>?_) fun he=>?_
  ·exact ZCJ
  ·refine ZL (Zub list_ steps) (fun r_0=>(Zm [(1,.c (.imm Zcb steps)),(6,.c (.ptr 10000000 0))],[(10000000,.rc [.own 10000001 false,.own 10000002 false]),(10000001,.sl 89 y7_ r_0 .shallow),(10000002,.sl 4 .bool (List.replicate (list_.length:Int).toNat false) .shallow)])) he ?_ ?_
   ·rintro r_0 he
    refine Zo (Zqg steps) (fun (i,r_01,r_1)=>(Zm [(6,.c (.ptr 10001000 0)),(24,.c (.imm Zcb steps)),(25,.c (.int .i64 (steps.length:Int))),(26,.c (.int .i64 i))],[(10001000,.rc [.own 10001001 false,.own 10001002 false]),(10001001,.sl 89 y7_ r_01 .shallow),(10001002,.sl 4 .bool r_1 .shallow)])) he (Za [(10001000,10000000),(10001001,10000001),(10001002,10000002)]) ?_
    rintro⟨i,r_01,r_1⟩ _ he
    refine Zh he (fun he=>?_) fun he=>?_
    ·refine Zg he fun he=>?_
     refine Zi he fun r5_ he=>?_
     refine Zh he (fun he=>?_) fun he=>?_
     ·have he:=Zj he
      have he:=he.2 rfl
      exact⟨rfl,_,_,(Za [] (l:=[(4,.c (.undef)),(5,.c (.int .i64 i))]) (st':=[])),he⟩
     ·refine Zg he fun he=>?_
      exact⟨_,(Zj he :),(Za [(10001001,34900),(10001002,34901)])⟩
    ·have he:=Zj he
     have he:=he.1 rfl
     exact⟨rfl,_,_,(Za [(900,10001000),(901,10001001),(902,10001002)] (l:=[(4,.c (.ptr 900 0)),(5,.c (.int .i64 (-1:Int)))]) (st':=[(900,.rc [.own 901 false,.own 902 false]),(901,.sl 89 y7_ r_01 .shallow),(902,.sl 4 .bool r_1 .shallow)])),he⟩
   ·skip
    refine And.intro (by kernel_rfl) ?_
    obtain⟨r3_,hq1,he⟩:=Z6 he
    obtain⟨hq2,he⟩:=ZO he
    refine Y5 ?_ ?_
    ·skip
     refine⟨r3_,hq1,?_⟩
     refine Y4 ?_
     refine And.intro hq2 ?_
     exact ZH8
    ·skip
     refine And.intro hq2 ?_
     refine Y4 ?_
     refine⟨r3_,hq1,?_⟩
     exact ZH8
 ·exact ZCJ
def ZiY:Con:=fun
  |[.agg [.imm (.pair (.int .i64) (.int .i64)) c__0,.int .i64 c__1]],[]=>.opt _ (ZeV (c__0,c__1)) (fun r=>.ret (.c (.bool r)) [])
  |_,_=>.fail
def ZlA:Sched:=ZF [7,8,9] .done
def ZlB:Sched:=.alt 6 ZlA .stop
def Zt3:Cfg:={ y:=tys,n:=12,h:=0,tab:=[(223,Z9),(236,Zfd)],sched:=[(1,(.alt 0 (.alt 1 (ZF [2,3] (.alt 4 (.alt 5 ZlB .stop) (.alt 5 (.alt 4 ZlB (.alt 6 (.alt 4 ZlA .stop) .stop)) .stop))) .stop) .stop))] }
theorem Zue:Zn Tryz.prog 175 ZiY:=by
 refine Zp (C:=Zt3) Tryz.f175 (Zk ZbD (Zk Zm0 Zq)) fun _ a b k he=>?_
 unfold ZiY at he;split at he;rotate_left;exact he.elim
 rename_i c__0 c__1
 refine Zs he fun he=>?_
 refine And.intro (by kernel_rfl) ?_
 refine Y4 ?_
 refine Y4 ?_
 refine Zi he fun r3_ he=>?_
 refine Zh he (fun he=>?_) fun he=>?_
 ·obtain⟨r4_,hq1,he⟩:=Z6 he
  refine Y5 ?_ ?_
  ·skip
   refine Y4 ?_
   refine Y4 ?_
   refine⟨r4_,hq1,?_⟩
   exact ZN
  ·skip
   refine Y5 ?_ ?_
   ·skip
    refine Y4 ?_
    refine⟨r4_,hq1,?_⟩
    exact ZN
   ·skip
    refine⟨r4_,hq1,?_⟩
    exact Zyp
 ·refine Y5 ?_ ?_
  ·exact ZGj
  ·skip
   refine Y5 ?_ ?_
   ·skip
    exact Zyp
   ·skip
    exact Zyp
def ZoY:Con:=fun
  |[.c (.imm (.pair (.sl (.pair (.int .i64) (.int .i64))) (.int .i64)) list_),.c (.imm (.pair (.int .i64) (.pair (.int .i64) (.pair (.int .i64) (.pair (.sl (.pair (.int .i64) (.int .i64))) (.int .i64))))) steps)],[]=>.opt _ (ZnL list_ steps) (fun r=>.ite r.1 (.ret (.tup [.c (.ptr 900 0),.c (.int .i64 r.2.1)]) [(900,.rc [.own 901 false,.own 902 false]),(901,.sl 89 y7_ r.2.2.1 .shallow),(902,.sl 4 .bool r.2.2.2.1 .shallow)]) (.ret (.tup [.c (.undef),.c (.int .i64 r.2.2.2.2)]) []))
  |_,_=>.fail
def ZAe:Cfg:={ y:=tys,n:=44,h:=0,tab:=[(174,Zvg),(175,ZiY)] }
theorem ZAI:Zn Tryz.prog 115 ZoY:=by
 refine Zp (C:=ZAe) Tryz.f115 (Zk ZIs (Zk Zue Zq)) fun _ a b k he=>?_
 unfold ZoY at he;split at he;rotate_left;exact he.elim
 rename_i list_ steps
 refine ZLB he fun he=>?_
 refine Zi he fun r1_ he=>?_
 refine Zh he (fun he=>?_) fun he=>?_
 ·refine Zh he (fun he=>?_) fun he=>?_
  ·have he:=Zj he
   have he:=he.2 rfl
   exact⟨rfl,_,_,(Za [] (l:=[(4,.c (.undef)),(5,.c (.int .i64 (-1:Int)))]) (st':=[])),he⟩
  ·refine Zo (Zhu r1_) (fun i=>(Zm [(6,.c (.ptr 10000000 0)),(21,.c (.own 10000001 false)),(22,.c (.int .i64 (r1_.2.2.1.length:Int))),(23,.c (.int .i64 i))],[(10000000,.rc [.own 10000001 false,.own 10000002 false]),(10000001,.sl 89 y7_ r1_.2.2.1 .shallow),(10000002,.sl 4 .bool r1_.2.2.2.1 .shallow)])) he (Za [(10000000,14900),(10000001,14901),(10000002,14902)]) ?_
   rintro i _ he
   refine Zh he (fun he=>?_) fun he=>?_
   ·refine Zg he fun he=>?_
    refine Zg he fun he=>?_
    refine Zh he (fun he=>?_) fun he=>?_
    ·refine Zi he fun r2_ he=>?_
     refine Zh he (fun he=>?_) fun he=>?_
     ·have he:=Zj he
      have he:=he.1 rfl
      exact⟨rfl,_,_,(Za [(900,10000000),(901,10000001),(902,10000002)] (l:=[(4,.c (.ptr 900 0)),(5,.c (.int .i64 i))]) (st':=[(900,.rc [.own 901 false,.own 902 false]),(901,.sl 89 y7_ r1_.2.2.1 .shallow),(902,.sl 4 .bool r1_.2.2.2.1 .shallow)])),he⟩
     ·exact Zdy
    ·exact Zdy
   ·have he:=Zj he
    have he:=he.1 rfl
    exact⟨rfl,_,_,(Za [(900,10000000),(901,10000001),(902,10000002)] (l:=[(4,.c (.ptr 900 0)),(5,.c (.int .i64 (-1:Int)))]) (st':=[(900,.rc [.own 901 false,.own 902 false]),(901,.sl 89 y7_ r1_.2.2.1 .shallow),(902,.sl 4 .bool r1_.2.2.2.1 .shallow)])),he⟩
 ·refine Zh he (fun he=>?_) fun he=>?_
  ·exact ZCJ
  ·exact(ZCe he).elim
def ZiX:Con:=fun
  |[.c (.imm (.pair (.sl (.pair (.int .i64) (.int .i64))) (.int .i64)) list_),.c (.imm (.pair (.int .i64) (.pair (.int .i64) (.pair (.int .i64) (.pair (.sl (.pair (.int .i64) (.int .i64))) (.int .i64))))) steps)],[]=>.opt _ (ZgQ list_ steps) (fun r=>.ret (.c (.bool r)) [])
  |_,_=>.fail
def Zt2:Cfg:={ y:=tys,n:=15,h:=0,tab:=[(115,ZoY)] }
theorem Zud:Zn Tryz.prog 45 ZiX:=by
 refine Zp (C:=Zt2) Tryz.f45 (Zk ZAI Zq) fun _ a b k he=>?_
 unfold ZiX at he;split at he;rotate_left;exact he.elim
 rename_i list_ steps
 refine Zs he fun he=>?_
 refine Zi he fun r1_ he=>?_
 refine Zh he (fun he=>?_) fun he=>?_
 ·exact Zbg
 ·exact Z5
def Zl6:Con:=fun
  |[.c (.imm (.int .u8) a0)],[]=>.opt _ (Zod a0) (fun r=>.ret (.c (.bool r)) [])
  |_,_=>.fail
def ZwX:Cfg:={ y:=tys,n:=81,h:=0,tab:=[(11,Zik),(12,Zli),(13,Zlo),(15,Zn1),(45,ZiX),(48,Ziy),(49,Zm6)] }
theorem Zxw:Zn Tryz.prog 10 Zl6:=by
 refine Zp (C:=ZwX) Tryz.f10 (Zk Ztz (Zk ZwH (Zk ZwN (Zk ZzH (Zk Zud (Zk Zq2 (Zk Zy2 Zq))))))) fun _ a b k he=>?_
 unfold Zl6 at he;split at he;rotate_left;exact he.elim
 rename_i a0
 refine Zs he fun he=>?_
 refine Zh he (fun he=>?_) fun he=>?_
 ·exact Z5
 ·refine Zi he fun r1_ he=>?_
  refine Zi he fun r2_ he=>?_
  refine Zi he fun r3_ he=>?_
  refine ZI he (fun he=>?_) fun he=>?_
  ·refine Zi he fun r4_ he=>?_
   refine ZI he (fun he=>?_) fun he=>?_
   ·refine Zh he (fun he=>?_) fun he=>?_
    ·refine Zh he (fun he=>?_) fun he=>?_
     ·refine Zi he fun r5_ he=>?_
      exact ZN
     ·exact ZN
    ·refine Zi he fun r8_ he=>?_
     refine Zh he (fun he=>?_) fun he=>?_
     ·refine Zh he (fun he=>?_) fun he=>?_
      ·refine Zi he fun r9_ he=>?_
       refine Zh he (fun he=>?_) fun he=>?_
       ·refine Zi he fun r10_ he=>?_
        exact ZN
       ·exact ZN
      ·exact ZN
     ·exact ZN
   ·refine Zh he (fun he=>?_) fun he=>?_
    ·refine Zi he fun r6_ he=>?_
     exact ZN
    ·exact ZN
  ·refine Zh he (fun he=>?_) fun he=>?_
   ·refine Zi he fun r7_ he=>?_
    exact ZN
   ·exact ZN
end
end Go.AE.Y
