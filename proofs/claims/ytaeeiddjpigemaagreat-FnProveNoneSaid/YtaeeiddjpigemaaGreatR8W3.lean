/-
  Walks: each function keeps the contract that its model gives. No conditions.
-/
import Derived.Test.YtaeeiddjpigemaaGreatR8Tab
import Derived.Test.YtaeeiddjpigemaaGreatR8W2
import Derived.Test.YtaeeiddjpigemaaGreatR8S
namespace Go.AE.Y
open Go Go.AE Go.Proofs
set_option linter.unusedVariables false
set_option maxHeartbeats 2000000
set_option maxRecDepth 100000
noncomputable section
def ZrI:Con:=ZFI
theorem Zy4:Zn Tryz.prog 182 ZrI:=ZGP ZLQ
def Zl7:Con:=fun
  |[.c (.imm (.int .i64) s1_),.c (.imm (.int .i64) s2_)],[]=>.opt _ (ZkA s1_ s2_) (fun r=>.ret (.c (.bool r)) [])
  |_,_=>.fail
def ZwZ:Cfg:={ y:=tys,n:=26,h:=0,tab:=[] }
theorem ZF9 {P:Prop} (h:P:=by
  rintro i _ he
  refine Zh he (fun he=>?_) fun he=>?_
  ·refine And.intro (by kernel_rfl) ?_
   refine Zg he fun he=>?_
   refine Zg he fun he=>?_
   exact ZBt
  ·exact Z5):P:=h
theorem Zxx:Zn Tryz.prog 242 Zl7:=by
 refine Zp (C:=ZwZ) Tryz.f242 Zq fun _ a b k he=>?_
 unfold Zl7 at he;split at he;rotate_left;exact he.elim
 rename_i s1_ s2_
 refine Zs he fun he=>?_
 refine Zh he (fun he=>?_) fun he=>?_
 ·exact Z5
 ·refine Zo (ZhT s1_ s2_) (fun i=>(Zm [(0,.c (.imm y0_ s1_)),(1,.c (.imm y0_ s2_)),(12,.c (.int .i64 (s1_.length:Int))),(13,.c (.int .i64 i))],[])) he (Za []) ?_
  exact ZF9
def Zlj:Con:=fun
  |[.c (.imm (.int .i64) row),.c (.ptr 0 0)],[(0,.rc [.imm (.int .i64) o0])]=>.opt _ (Zm9 row o0) (fun r=>.ret (.c (.bool r)) [(0,.rc [.imm y0_ o0])])
  |_,_=>.fail
def Zwu:Cfg:={ y:=tys,n:=7,h:=1,tab:=[(242,Zl7)] }
theorem ZwI:Zn Tryz.prog 241 Zlj:=by
 refine Zp (C:=Zwu) Tryz.f241 (Zk Zxx Zq) fun _ a b k he=>?_
 unfold Zlj at he;split at he;rotate_left;exact he.elim
 rename_i row o0
 refine Zs he fun he=>?_
 refine Zi he fun r1_ he=>?_
 exact Zte
def ZcX:Con:=fun
  |[.c (.imm (.sl (.int .i64)) s_),.c (.fn 241 [0])],[(0,.rc [.imm (.int .i64) o0])]=>.opt _ (Zdk s_ o0) (fun r=>.ret (.c (.int .i64 r)) [(0,.rc [.imm y0_ o0])])
  |_,_=>.fail
def Zjc:Cfg:={ y:=tys,n:=19,h:=1,tab:=[(241,Zlj)] }
theorem Zje:Zn Tryz.prog 250 ZcX:=by
 refine Zp (C:=Zjc) Tryz.f250 (Zk ZwI Zq) fun _ a b k he=>?_
 unfold ZcX at he;split at he;rotate_left;exact he.elim
 rename_i s_ o0
 refine Zs he fun he=>?_
 refine Zo (Zbl s_ o0) (fun i=>(Zm [(0,.c (.imm (.sl y0_) s_)),(1,.c (.fn 241 [0])),(7,.c (.int .i64 (s_.length:Int))),(8,.c (.int .i64 i))],[(0,.rc [.imm y0_ o0])])) he (Za []) ?_
 rintro i _ he
 exact Zyn
def ZcD:Con:=fun
  |[.c (.imm (.sl (.int .i64)) s_),.c (.fn 241 [0])],[(0,.rc [.imm (.int .i64) o0])]=>.opt _ (ZcS s_ o0) (fun r=>.ret (.c (.bool r)) [(0,.rc [.imm y0_ o0])])
  |_,_=>.fail
def Zib:Cfg:={ y:=tys,n:=9,h:=1,tab:=[(250,ZcX)] }
theorem Zim:Zn Tryz.prog 200 ZcD:=by
 refine Zp (C:=Zib) Tryz.f200 (Zk Zje Zq) fun _ a b k he=>?_
 unfold ZcD at he;split at he;rotate_left;exact he.elim
 rename_i s_ o0
 refine Zs he fun he=>?_
 refine Zi he fun r1_ he=>?_
 exact Zbg
def Zjf:Con:=fun
  |[.agg [.int .i64 r__0,.imm (.int .i64) r__1,.imm (.int .i64) r__2,.int .i64 r__3,.imm (.sl (.int .i64)) r__4],.c (.imm (.int .i64) vals)],[]=>.opt _ (ZiH (r__0,(r__1,(r__2,(r__3,r__4)))) vals) (fun r=>.ret (.c (.bool r)) [])
  |_,_=>.fail
def ZyV:Cfg:={ y:=tys,n:=63,h:=0,tab:=[(178,ZeE),(200,ZcD)] }
theorem Zyo {P:Prop} (h:P:=by
  refine Zg he fun he=>?_
  exact Ztb):P:=h
theorem ZrK:Zn Tryz.prog 184 Zjf:=by
 refine Zp (C:=ZyV) Tryz.f184 (Zk ZjL (Zk Zim Zq)) fun _ a b k he=>?_
 unfold Zjf at he;split at he;rotate_left;exact he.elim
 rename_i r__0 r__1 r__2 r__3 r__4 vals
 refine Zs he fun he=>?_
 refine Zh he (fun he=>?_) fun he=>?_
 ·refine Zo (Zmk (r__0,(r__1,(r__2,(r__3,r__4)))) vals) (fun (sum,i)=>(Zm [(2,.c (.ptr 10000000 0)),(5,.c (.int .i64 sum)),(14,.c (.imm y0_ vals)),(15,.c (.int .i64 (vals.length:Int))),(16,.c (.int .i64 i))],[(10000000,.rc [.int .i64 (r__0,(r__1,(r__2,(r__3,r__4)))).1,.imm y0_ (r__0,(r__1,(r__2,(r__3,r__4)))).2.1,.imm y0_ (r__0,(r__1,(r__2,(r__3,r__4)))).2.2.1,.int .i64 (r__0,(r__1,(r__2,(r__3,r__4)))).2.2.2.1,.imm (.sl y0_) (r__0,(r__1,(r__2,(r__3,r__4)))).2.2.2.2])])) he (Za [(10000000,2)]) ?_
  rintro⟨sum,i⟩ _ he
  refine Zh he (fun he=>?_) fun he=>?_
  ·exact Zyo
  ·exact Zbg
 ·refine Zh he (fun he=>?_) fun he=>?_
  ·refine Zo (Zf0 vals) (fun i1=>(Zm [(3,.c (.ptr 10001000 0)),(37,.c (.imm y0_ vals)),(38,.c (.int .i64 (vals.length:Int))),(39,.c (.int .i64 i1))],[(10001000,.rc [.imm y0_ vals])])) he (Za [(10001000,3)]) ?_
   rintro i1 _ he
   refine Zh he (fun he=>?_) fun he=>?_
   ·refine Zg he fun he=>?_
    exact ZJ7
   ·exact Zbg
  ·refine Zh he (fun he=>?_) fun he=>?_
   ·refine Zi he fun r2_ he=>?_
    exact Zbg
   ·refine And.intro (by kernel_rfl) ?_
    exact ZEb
def Zev:Con:=fun
  |[.c (.own 3 false),.c (.ptr 0 0),.c (.ptr 1 0),.c (.ptr 2 0)],[(0,.rc [.int .i64 o0_0,.imm (.int .i64) o0_1,.imm (.int .i64) o0_2,.int .i64 o0_3,.imm (.sl (.int .i64)) o0_4]),(1,.rc [.imm (.int .i64) o1_0,.imm (.pair (.int .i64) (.pair (.sl (.int .i64)) (.pair (.sl (.int .i64)) (.pair (.int .i64) (.sl (.sl (.int .i64))))))) o1_1]),(2,.rc [.own 4 false]),(3,.sl 3 (.int .i64) vals .shallow),(4,.sl 89 (.pair (.sl (.pair (.int .i64) (.int .i64))) (.int .i64)) o4 (.deep true .no))]=>.opt _ (ZdR (o0_0,(o0_1,(o0_2,(o0_3,o0_4)))) (o1_0,o1_1) vals o4) (fun r=>.ret (.c (.bool r.1)) [(0,.rc [.int .i64 o0_0,.imm y0_ o0_1,.imm y0_ o0_2,.int .i64 o0_3,.imm (.sl y0_) o0_4]),(1,.rc [.imm y0_ o1_0,.imm y5_ o1_1]),(2,.rc [.own 900 false]),(3,.sl 3 y0_ vals .shallow),(4,.dead),(900,.sl 89 y7_ r.2 (.deep true .no))])
  |_,_=>.fail
def Zf5:Sched:=.alt 7 (.first 8 (.alt 9 (.alt 10 (.first 11 .done) .stop) .stop)) .stop
def ZnW:Cfg:={ y:=tys,n:=44,h:=5,tab:=[(119,Zix),(128,Zd7),(184,Zjf)],cut:=[8],deep:=[42],sched:=[(6,(ZF [0,2,3,4,5] (.alt 1 (.alt 6 Zf5 .stop) (.alt 6 (.alt 1 Zf5 .stop) .stop))))] }
theorem ZKa {P:Prop} (h:P:=by
  skip
  refine Y4 ?_
  refine Y4 ?_
  refine⟨r4_,hq1,?_⟩
  refine And.intro hq2 ?_
  refine Y4 ?_
  refine Y4 ?_
  refine And.intro hq3 ?_
  refine Zg he fun he=>?_
  exact⟨_,(Zj he :),(Za [(10000000,33)])⟩):P:=h
theorem Zn8:Zn Tryz.prog 183 Zev:=by
 refine Zp (C:=ZnW) Tryz.f183 (Zk Zpg (Zk ZgW (Zk ZrK Zq))) fun _ a b k he=>?_
 unfold Zev at he;split at he;rotate_left;exact he.elim
 rename_i o0_0 o0_1 o0_2 o0_3 o0_4 o1_0 o1_1 vals o4
 refine Zs he fun he=>?_
 refine Zi he fun r1_ he=>?_
 refine Zh he (fun he=>?_) fun he=>?_
 ·refine ZL (Zco o4) (fun lits1=>(Zm [(3,.c (.ptr 2 0)),(6,.c (.own 10001000 false))],[(0,.rc [.int .i64 (o0_0,(o0_1,(o0_2,(o0_3,o0_4)))).1,.imm y0_ (o0_0,(o0_1,(o0_2,(o0_3,o0_4)))).2.1,.imm y0_ (o0_0,(o0_1,(o0_2,(o0_3,o0_4)))).2.2.1,.int .i64 (o0_0,(o0_1,(o0_2,(o0_3,o0_4)))).2.2.2.1,.imm (.sl y0_) (o0_0,(o0_1,(o0_2,(o0_3,o0_4)))).2.2.2.2]),(1,.rc [.imm y0_ (o1_0,o1_1).1,.imm y5_ (o1_0,o1_1).2]),(2,.rc [.own 4 false]),(3,.sl 3 y0_ vals .shallow),(4,.sl 89 y7_ o4 (.deep true .no)),(10001000,.sl 3 y0_ lits1 .shallow)])) he ?_ ?_
  ·rintro lits1 he
   refine Zi he fun r5_ he=>?_
   refine Zg he fun he=>?_
   exact Zv [(5,[])] (Zj he :) (Za [(900,43)])
  ·skip
   refine Zo (Zcp (o0_0,(o0_1,(o0_2,(o0_3,o0_4)))) (o1_0,o1_1) vals o4) (fun (i,lits)=>(Zm [(0,.c (.own 3 false)),(2,.c (.ptr 1 0)),(3,.c (.ptr 2 0)),(6,.c (.own 10000000 false)),(16,.c (.imm y0_ (o0_0,(o0_1,(o0_2,(o0_3,o0_4)))).2.1)),(17,.c (.int .i64 ((o0_0,(o0_1,(o0_2,(o0_3,o0_4)))).2.1.length:Int))),(18,.c (.int .i64 i))],[(0,.rc [.int .i64 (o0_0,(o0_1,(o0_2,(o0_3,o0_4)))).1,.imm y0_ (o0_0,(o0_1,(o0_2,(o0_3,o0_4)))).2.1,.imm y0_ (o0_0,(o0_1,(o0_2,(o0_3,o0_4)))).2.2.1,.int .i64 (o0_0,(o0_1,(o0_2,(o0_3,o0_4)))).2.2.2.1,.imm (.sl y0_) (o0_0,(o0_1,(o0_2,(o0_3,o0_4)))).2.2.2.2]),(1,.rc [.imm y0_ (o1_0,o1_1).1,.imm y5_ (o1_0,o1_1).2]),(2,.rc [.own 4 false]),(3,.sl 3 y0_ vals .shallow),(4,.sl 89 y7_ o4 (.deep true .no)),(10000000,.sl 3 y0_ lits .shallow)])) he (Za []) ?_
   rintro⟨i,lits⟩ _ he
   refine Zh he (fun he=>?_) fun he=>?_
   ·refine Zg he fun he=>?_
    refine And.intro (by kernel_rfl) ?_
    refine Zg he fun he=>?_
    obtain⟨r4_,hq1,he⟩:=Z6 he
    obtain⟨hq2,he⟩:=ZO he
    obtain⟨hq3,he⟩:=ZO he
    refine Y5 ?_ ?_
    ·exact ZKa
    ·exact ZKa
   ·exact⟨_,(Zbh he :),(Za [(10001000,10000000)])⟩
 ·exact Zv [(5,[])] (Zj he :) (Za [(900,4)])
def Zc4:Con:=fun
  |[.c (.imm (.int .i64) sizes),.c (.imm (.int .i64) from_),.c (.fn 183 [0,1,2])],[(0,.rc [.int .i64 o0_0,.imm (.int .i64) o0_1,.imm (.int .i64) o0_2,.int .i64 o0_3,.imm (.sl (.int .i64)) o0_4]),(1,.rc [.imm (.int .i64) o1_0,.imm (.pair (.int .i64) (.pair (.sl (.int .i64)) (.pair (.sl (.int .i64)) (.pair (.int .i64) (.sl (.sl (.int .i64))))))) o1_1]),(2,.rc [.nil])]=>.opt _ (Zck sizes from_ (o0_0,(o0_1,(o0_2,(o0_3,o0_4)))) (o1_0,o1_1)) (fun r=>.ret (.tup []) [(0,.rc [.int .i64 o0_0,.imm y0_ o0_1,.imm y0_ o0_2,.int .i64 o0_3,.imm (.sl y0_) o0_4]),(1,.rc [.imm y0_ o1_0,.imm y5_ o1_1]),(2,.rc [.own 900 false]),(900,.sl 89 y7_ r (.deep true .no))])
  |_,_=>.fail
def Zjp:Cfg:={ y:=tys,n:=42,h:=3,tab:=[(75,Zdm),(183,Zev)],cut:=[6],hand:=[(183,[0])] }
theorem ZKb {P:Prop} (h:P:=by
  refine Zg he fun he=>?_
  exact⟨_,(Zj he :),(Za [(10000000,10004000),(10000001,10004001)])⟩):P:=h
theorem ZjK:Zn Tryz.prog 72 Zc4:=by
 refine Zp (C:=Zjp) Tryz.f72 (Zk ZeI (Zk Zn8 Zq)) fun _ a b k he=>?_
 unfold Zc4 at he;split at he;rotate_left;exact he.elim
 rename_i sizes from_ o0_0 o0_1 o0_2 o0_3 o0_4 o1_0 o1_1
 refine Zs he fun he=>?_
 refine Zi he fun r1_ he=>?_
 refine Zo (ZbY sizes (o0_0,(o0_1,(o0_2,(o0_3,o0_4)))) (o1_0,o1_1)) (fun (cells2,cap)=>(Zm [(0,.c (.imm y0_ sizes)),(2,.c (.fn 183 [0,1,2])),(6,.c (.own 10000000 false))],[(0,.rc [.int .i64 (o0_0,(o0_1,(o0_2,(o0_3,o0_4)))).1,.imm y0_ (o0_0,(o0_1,(o0_2,(o0_3,o0_4)))).2.1,.imm y0_ (o0_0,(o0_1,(o0_2,(o0_3,o0_4)))).2.2.1,.int .i64 (o0_0,(o0_1,(o0_2,(o0_3,o0_4)))).2.2.2.1,.imm (.sl y0_) (o0_0,(o0_1,(o0_2,(o0_3,o0_4)))).2.2.2.2]),(1,.rc [.imm y0_ (o1_0,o1_1).1,.imm y5_ (o1_0,o1_1).2]),(2,.rc [.own 10000001 false]),(10000000,.sl 3 y0_ cells2 .shallow),(10000001,.sl 89 y7_ cap (.deep true .no))])) he (Za [(10000000,10900)]) ?_
 rintro⟨cells2,cap⟩ _ he
 refine Zi he fun r3_ he=>?_
 refine Zh he (fun he=>?_) fun he=>?_
 ·refine Zg he fun he=>?_
  refine ZL (ZbX r3_) (fun (i3,cells4)=>(Zm [(0,.c (.imm y0_ sizes)),(2,.c (.fn 183 [0,1,2])),(6,.c (.own 10004000 false)),(7,.c (.int .i64 i3))],[(0,.rc [.int .i64 (o0_0,(o0_1,(o0_2,(o0_3,o0_4)))).1,.imm y0_ (o0_0,(o0_1,(o0_2,(o0_3,o0_4)))).2.1,.imm y0_ (o0_0,(o0_1,(o0_2,(o0_3,o0_4)))).2.2.1,.int .i64 (o0_0,(o0_1,(o0_2,(o0_3,o0_4)))).2.2.2.1,.imm (.sl y0_) (o0_0,(o0_1,(o0_2,(o0_3,o0_4)))).2.2.2.2]),(1,.rc [.imm y0_ (o1_0,o1_1).1,.imm y5_ (o1_0,o1_1).2]),(2,.rc [.own 10004001 false]),(10004000,.sl 3 y0_ cells4 .shallow),(10004001,.sl 89 y7_ r3_.2 (.deep true .no))])) he ?_ ?_
  ·rintro⟨i3,cells4⟩ he
   refine Zh he (fun he=>?_) fun he=>?_
   ·exact Zv [] (Zj he :) (Za [(900,10004001)] (l:=[]) (st':=[(0,.rc [.int .i64 o0_0,.imm y0_ o0_1,.imm y0_ o0_2,.int .i64 o0_3,.imm (.sl y0_) o0_4]),(1,.rc [.imm y0_ o1_0,.imm y5_ o1_1]),(2,.rc [.own 900 false]),(900,.sl 89 y7_ r3_.2 (.deep true .no))]))
   ·refine Zg he fun he=>?_
    refine Zg he fun he=>?_
    exact ZKb
  ·skip
   refine Zo (ZcY sizes r3_) (fun (i2,cells3)=>(Zm [(0,.c (.imm y0_ sizes)),(2,.c (.fn 183 [0,1,2])),(6,.c (.own 10003000 false)),(7,.c (.int .i64 i2))],[(0,.rc [.int .i64 (o0_0,(o0_1,(o0_2,(o0_3,o0_4)))).1,.imm y0_ (o0_0,(o0_1,(o0_2,(o0_3,o0_4)))).2.1,.imm y0_ (o0_0,(o0_1,(o0_2,(o0_3,o0_4)))).2.2.1,.int .i64 (o0_0,(o0_1,(o0_2,(o0_3,o0_4)))).2.2.2.1,.imm (.sl y0_) (o0_0,(o0_1,(o0_2,(o0_3,o0_4)))).2.2.2.2]),(1,.rc [.imm y0_ (o1_0,o1_1).1,.imm y5_ (o1_0,o1_1).2]),(2,.rc [.own 10003001 false]),(10003000,.sl 3 y0_ cells3 .shallow),(10003001,.sl 89 y7_ r3_.2 (.deep true .no))])) he (Za [(10003000,10000000),(10003001,13900)]) ?_
   rintro⟨i2,cells3⟩ _ he
   refine And.intro (by kernel_rfl) ?_
   refine Zh he (fun he=>?_) fun he=>?_
   ·refine Zg he fun he=>?_
    refine Zg he fun he=>?_
    refine Zh he (fun he=>?_) fun he=>?_
    ·exact ZyQ
    ·exact⟨_,(Zbh he :),(Za [(10004000,10003000),(10004001,10003001)])⟩
   ·exact⟨_,(Zbh he :),(Za [(10004000,10003000),(10004001,10003001)])⟩
 ·exact Zv [] (Zj he :) (Za [(900,13900)] (l:=[]) (st':=[(0,.rc [.int .i64 o0_0,.imm y0_ o0_1,.imm y0_ o0_2,.int .i64 o0_3,.imm (.sl y0_) o0_4]),(1,.rc [.imm y0_ o1_0,.imm y5_ o1_1]),(2,.rc [.own 900 false]),(900,.sl 89 y7_ r3_.2 (.deep true .no))]))
def Zif:Con:=fun
  |[.agg [.imm (.int .i64) a0_0,.imm (.pair (.int .i64) (.pair (.sl (.int .i64)) (.pair (.sl (.int .i64)) (.pair (.int .i64) (.sl (.sl (.int .i64))))))) a0_1],.agg [.int .i64 a1_0,.imm (.int .i64) a1_1,.imm (.int .i64) a1_2,.int .i64 a1_3,.imm (.sl (.int .i64)) a1_4]],[]=>.opt _ (Zb3 (a0_0,a0_1) (a1_0,(a1_1,(a1_2,(a1_3,a1_4))))) (fun r=>.ret (.c (.own 900 false)) [(900,.sl 89 y7_ r (.deep true .no))])
  |_,_=>.fail
def ZkZ:Sched:=.alt 12 (.alt 13 (.alt 14 (.first 15 .done) .stop) .stop) .stop
def Zk0:Sched:=.alt 11 ZkZ .stop
def Zk1:Sched:=.alt 4 (.alt 5 .done .stop) .stop
def Zk2:Sched:=.alt 3 Zk1 .stop
def Ztl:Cfg:={ y:=tys,n:=128,h:=0,tab:=[(72,Zc4),(120,Zke),(128,Zd7),(129,Zk5),(182,ZrI)],cut:=[14,27,38],hand:=[(182,[0])],deep:=[65,101],sched:=[(11,(ZF [0,1,3,6,9,10] (.alt 2 (ZF [4,5,7] (.alt 8 Zk0 .stop)) (.alt 8 (.alt 2 (ZF [4,5,7] Zk0) (.alt 11 (.alt 2 (ZF [4,5,7] ZkZ) .stop) .stop)) .stop)))),(29,(.first 1 (.alt 0 (.alt 2 Zk2 .stop) (.alt 2 (.alt 0 Zk2 (.alt 3 (.alt 0 Zk1 .stop) .stop)) .stop))))] }
theorem ZKc {P:Prop} (h:P:=by
  refine Zg he fun he=>?_
  exact⟨_,(Zj he :),(Za [(10002002,54)])⟩):P:=h
theorem ZGa {P:Prop} (h:P:=by
  refine Y4 ?_
  refine Y4 ?_
  refine Y4 ?_
  refine And.intro hq4 ?_
  exact ZKc):P:=h
theorem ZGb {P:Prop} (h:P:=by
  refine Y4 ?_
  refine Y4 ?_
  refine And.intro hq2 ?_
  refine Y4 ?_
  refine Zg he fun he=>?_
  exact⟨_,(Zj he :),(Za [(10004000,10008000),(10004001,10008001),(10004002,10008002),(10004003,102)])⟩):P:=h
theorem Ztu:Zn Tryz.prog 121 Zif:=by
 refine Zp (C:=Ztl) Tryz.f121 (Zk ZjK (Zk ZsR (Zk ZgW (Zk Zrw (Zk Zy4 Zq))))) fun _ a b k he=>?_
 unfold Zif at he;split at he;rotate_left;exact he.elim
 rename_i a0_0 a0_1 a1_0 a1_1 a1_2 a1_3 a1_4
 refine Zs he fun he=>?_
 refine Zh he (fun he=>?_) fun he=>?_
 ·refine ZL (Ze0 (a1_0,(a1_1,(a1_2,(a1_3,a1_4))))) (fun i6=>(Zm [(3,.c (.ptr 10003000 0)),(6,.c (.own 10003001 false))],[(10003000,.rc [.int .i64 (a1_0,(a1_1,(a1_2,(a1_3,a1_4)))).1,.imm y0_ (a1_0,(a1_1,(a1_2,(a1_3,a1_4)))).2.1,.imm y0_ (a1_0,(a1_1,(a1_2,(a1_3,a1_4)))).2.2.1,.int .i64 (a1_0,(a1_1,(a1_2,(a1_3,a1_4)))).2.2.2.1,.imm (.sl y0_) (a1_0,(a1_1,(a1_2,(a1_3,a1_4)))).2.2.2.2]),(10003001,.sl 155 y6_ i6 .shallow)])) he ?_ ?_
  ·rintro i6 he
   refine Zi he fun r6_ he=>?_
   exact Zv [(4,[])] (Zj he :) (Za [(900,65)])
  ·skip
   refine Zo (Zhr (a0_0,a0_1) (a1_0,(a1_1,(a1_2,(a1_3,a1_4))))) (fun (i,i3)=>(Zm [(2,.c (.ptr 10000000 0)),(3,.c (.ptr 10000001 0)),(6,.c (.own 10000002 false)),(24,.c (.imm y0_ (a1_0,(a1_1,(a1_2,(a1_3,a1_4)))).2.1)),(25,.c (.int .i64 ((a1_0,(a1_1,(a1_2,(a1_3,a1_4)))).2.1.length:Int))),(26,.c (.int .i64 i))],[(10000000,.rc [.imm y0_ (a0_0,a0_1).1,.imm y5_ (a0_0,a0_1).2]),(10000001,.rc [.int .i64 (a1_0,(a1_1,(a1_2,(a1_3,a1_4)))).1,.imm y0_ (a1_0,(a1_1,(a1_2,(a1_3,a1_4)))).2.1,.imm y0_ (a1_0,(a1_1,(a1_2,(a1_3,a1_4)))).2.2.1,.int .i64 (a1_0,(a1_1,(a1_2,(a1_3,a1_4)))).2.2.2.1,.imm (.sl y0_) (a1_0,(a1_1,(a1_2,(a1_3,a1_4)))).2.2.2.2]),(10000002,.sl 155 y6_ i3 .shallow)])) he (Za [(10000000,2),(10000001,3)]) ?_
   rintro⟨i,i3⟩ _ he
   refine Zh he (fun he=>?_) fun he=>?_
   ·refine Zg he fun he=>?_
    refine Zg he fun he=>?_
    refine Zg he fun he=>?_
    refine Zo (Zda (a0_0,a0_1) (a1_0,(a1_1,(a1_2,(a1_3,a1_4)))) i) (fun (i4,i5)=>(Zm [(2,.c (.ptr 10002000 0)),(3,.c (.ptr 10002001 0)),(6,.c (.own 10002002 false)),(7,.c (.int .i64 i)),(8,.c (.int .i64 ((a1_0,(a1_1,(a1_2,(a1_3,a1_4)))).2.1.getD i.toNat 0))),(24,.c (.imm y0_ (a1_0,(a1_1,(a1_2,(a1_3,a1_4)))).2.1)),(25,.c (.int .i64 ((a1_0,(a1_1,(a1_2,(a1_3,a1_4)))).2.1.length:Int))),(26,.c (.int .i64 i)),(36,.c (.int .i64 (((a0_0,a0_1).1.getD ((a1_0,(a1_1,(a1_2,(a1_3,a1_4)))).2.1.getD i.toNat 0).toNat 0)+(1:Int)))),(37,.c (.int .i64 i4))],[(10002000,.rc [.imm y0_ (a0_0,a0_1).1,.imm y5_ (a0_0,a0_1).2]),(10002001,.rc [.int .i64 (a1_0,(a1_1,(a1_2,(a1_3,a1_4)))).1,.imm y0_ (a1_0,(a1_1,(a1_2,(a1_3,a1_4)))).2.1,.imm y0_ (a1_0,(a1_1,(a1_2,(a1_3,a1_4)))).2.2.1,.int .i64 (a1_0,(a1_1,(a1_2,(a1_3,a1_4)))).2.2.2.1,.imm (.sl y0_) (a1_0,(a1_1,(a1_2,(a1_3,a1_4)))).2.2.2.2]),(10002002,.sl 155 y6_ i5 .shallow)])) he (Za [(10002000,10000000),(10002001,10000001),(10002002,10000002)]) ?_
    rintro⟨i4,i5⟩ _ he
    refine Zh he (fun he=>?_) fun he=>?_
    ·refine And.intro (by kernel_rfl) ?_
     obtain⟨hq1,he⟩:=ZO he
     obtain⟨hq2,he⟩:=ZO he
     obtain⟨r5_,hq3,he⟩:=Z6 he
     obtain⟨hq4,he⟩:=ZO he
     refine Y5 ?_ ?_
     ·skip
      refine And.intro hq1 ?_
      refine And.intro hq2 ?_
      refine Y4 ?_
      refine Y4 ?_
      refine⟨r5_,hq3,?_⟩
      exact ZGa
     ·skip
      refine Y5 ?_ ?_
      ·skip
       refine And.intro hq1 ?_
       refine And.intro hq2 ?_
       refine Y4 ?_
       refine⟨r5_,hq3,?_⟩
       exact ZGa
      ·skip
       refine⟨r5_,hq3,?_⟩
       refine Y4 ?_
       refine And.intro hq1 ?_
       refine And.intro hq2 ?_
       exact ZGa
    ·refine Zg he fun he=>?_
     exact⟨_,(Zj he :),(Za [(10000000,10002000),(10000001,10002001),(10000002,10002002)])⟩
   ·exact⟨_,(Zbh he :),(Za [(10003000,10000001),(10003001,10000002)])⟩
 ·refine Zh he (fun he=>?_) fun he=>?_
  ·refine Zo (Zhs (a0_0,a0_1) (a1_0,(a1_1,(a1_2,(a1_3,a1_4))))) (fun (i7,i11)=>(Zm [(2,.c (.ptr 10004000 0)),(3,.c (.ptr 10004001 0)),(5,.c (.ptr 10004002 0)),(68,.c (.int .i64 i7))],[(10004000,.rc [.imm y0_ (a0_0,a0_1).1,.imm y5_ (a0_0,a0_1).2]),(10004001,.rc [.int .i64 (a1_0,(a1_1,(a1_2,(a1_3,a1_4)))).1,.imm y0_ (a1_0,(a1_1,(a1_2,(a1_3,a1_4)))).2.1,.imm y0_ (a1_0,(a1_1,(a1_2,(a1_3,a1_4)))).2.2.1,.int .i64 (a1_0,(a1_1,(a1_2,(a1_3,a1_4)))).2.2.2.1,.imm (.sl y0_) (a1_0,(a1_1,(a1_2,(a1_3,a1_4)))).2.2.2.2]),(10004002,.rc [.own 10004003 false]),(10004003,.sl 89 y7_ i11 (.deep true .no))])) he (Za [(10004000,2),(10004001,3),(10004002,5)]) ?_
   rintro⟨i7,i11⟩ _ he
   refine Zh he (fun he=>?_) fun he=>?_
   ·refine ZL (Zd0 i7 i11) (fun i14=>(Zm [(2,.c (.ptr 10008000 0)),(3,.c (.ptr 10008001 0)),(5,.c (.ptr 10008002 0)),(13,.c (.own 10008003 false)),(68,.c (.int .i64 i7))],[(10008000,.rc [.imm y0_ (a0_0,a0_1).1,.imm y5_ (a0_0,a0_1).2]),(10008001,.rc [.int .i64 (a1_0,(a1_1,(a1_2,(a1_3,a1_4)))).1,.imm y0_ (a1_0,(a1_1,(a1_2,(a1_3,a1_4)))).2.1,.imm y0_ (a1_0,(a1_1,(a1_2,(a1_3,a1_4)))).2.2.1,.int .i64 (a1_0,(a1_1,(a1_2,(a1_3,a1_4)))).2.2.2.1,.imm (.sl y0_) (a1_0,(a1_1,(a1_2,(a1_3,a1_4)))).2.2.2.2]),(10008002,.rc [.own 10008004 false]),(10008003,.sl 3 y0_ i14 .shallow),(10008004,.sl 89 y7_ i11 (.deep true .no))])) he ?_ ?_
    ·rintro i14 he
     refine Zh he (fun he=>?_) fun he=>?_
     ·refine Zi he fun r14_ he=>?_
      refine And.intro (by kernel_rfl) ?_
      obtain⟨r15_,hq1,he⟩:=Z6 he
      obtain⟨hq2,he⟩:=ZO he
      refine Y5 ?_ ?_
      ·skip
       refine Y4 ?_
       refine⟨r15_,hq1,?_⟩
       exact ZGb
      ·skip
       refine⟨r15_,hq1,?_⟩
       refine Y5 ?_ ?_
       ·skip
        exact ZGb
       ·skip
        exact ZGb
     ·refine Zg he fun he=>?_
      exact⟨_,(Zj he :),(Za [(10004000,10008000),(10004001,10008001),(10004002,10008002),(10004003,10008004)])⟩
    ·skip
     refine Zo (Zd2 (a0_0,a0_1) (a1_0,(a1_1,(a1_2,(a1_3,a1_4)))) i7 i11) (fun (i12,i13)=>(Zm [(2,.c (.ptr 10007000 0)),(3,.c (.ptr 10007001 0)),(5,.c (.ptr 10007002 0)),(12,.c (.int .i64 i7)),(13,.c (.own 10007003 false)),(68,.c (.int .i64 i7)),(72,.c (.imm y0_ (a1_0,(a1_1,(a1_2,(a1_3,a1_4)))).2.1)),(73,.c (.int .i64 ((a1_0,(a1_1,(a1_2,(a1_3,a1_4)))).2.1.length:Int))),(74,.c (.int .i64 i12))],[(10007000,.rc [.imm y0_ (a0_0,a0_1).1,.imm y5_ (a0_0,a0_1).2]),(10007001,.rc [.int .i64 (a1_0,(a1_1,(a1_2,(a1_3,a1_4)))).1,.imm y0_ (a1_0,(a1_1,(a1_2,(a1_3,a1_4)))).2.1,.imm y0_ (a1_0,(a1_1,(a1_2,(a1_3,a1_4)))).2.2.1,.int .i64 (a1_0,(a1_1,(a1_2,(a1_3,a1_4)))).2.2.2.1,.imm (.sl y0_) (a1_0,(a1_1,(a1_2,(a1_3,a1_4)))).2.2.2.2]),(10007002,.rc [.own 10007004 false]),(10007003,.sl 3 y0_ i13 .shallow),(10007004,.sl 89 y7_ i11 (.deep true .no))])) he (Za [(10007000,10004000),(10007001,10004001),(10007002,10004002),(10007004,10004003)]) ?_
     rintro⟨i12,i13⟩ _ he
     refine Zh he (fun he=>?_) fun he=>?_
     ·refine Zg he fun he=>?_
      refine Zg he fun he=>?_
      refine Zh he (fun he=>?_) fun he=>?_
      ·refine Zi he fun r13_ he=>?_
       refine Zg he fun he=>?_
       refine Zg he fun he=>?_
       exact⟨_,(Zj he :),(Za [(10007003,91)])⟩
      ·exact Zdy
     ·exact⟨_,(Zbh he :),(Za [(10008000,10007000),(10008001,10007001),(10008002,10007002),(10008003,10007003),(10008004,10007004)])⟩
   ·exact Zv [(4,[])] (Zj he :) (Za [(900,10004003)])
  ·refine ZL (Zd1 (a0_0,a0_1) (a1_0,(a1_1,(a1_2,(a1_3,a1_4))))) (fun i17=>(Zm [(2,.c (.ptr 10010000 0)),(3,.c (.ptr 10010001 0)),(5,.c (.ptr 10010002 0)),(16,.c (.own 10010003 false))],[(10010000,.rc [.imm y0_ (a0_0,a0_1).1,.imm y5_ (a0_0,a0_1).2]),(10010001,.rc [.int .i64 (a1_0,(a1_1,(a1_2,(a1_3,a1_4)))).1,.imm y0_ (a1_0,(a1_1,(a1_2,(a1_3,a1_4)))).2.1,.imm y0_ (a1_0,(a1_1,(a1_2,(a1_3,a1_4)))).2.2.1,.int .i64 (a1_0,(a1_1,(a1_2,(a1_3,a1_4)))).2.2.2.1,.imm (.sl y0_) (a1_0,(a1_1,(a1_2,(a1_3,a1_4)))).2.2.2.2]),(10010002,.rc [.nil]),(10010003,.sl 3 y0_ i17 .shallow)])) he ?_ ?_
   ·rintro i17 he
    refine Zg he fun he=>?_
    refine Zi he fun r16_ he=>?_
    exact Zv [(4,[])] (Zj he :) (Za [(900,127900)])
   ·skip
    refine Zo (Zd3 (a0_0,a0_1) (a1_0,(a1_1,(a1_2,(a1_3,a1_4))))) (fun (i15,i16)=>(Zm [(2,.c (.ptr 10009000 0)),(3,.c (.ptr 10009001 0)),(5,.c (.ptr 10009002 0)),(16,.c (.own 10009003 false)),(106,.c (.imm y0_ (a1_0,(a1_1,(a1_2,(a1_3,a1_4)))).2.1)),(107,.c (.int .i64 ((a1_0,(a1_1,(a1_2,(a1_3,a1_4)))).2.1.length:Int))),(108,.c (.int .i64 i15))],[(10009000,.rc [.imm y0_ (a0_0,a0_1).1,.imm y5_ (a0_0,a0_1).2]),(10009001,.rc [.int .i64 (a1_0,(a1_1,(a1_2,(a1_3,a1_4)))).1,.imm y0_ (a1_0,(a1_1,(a1_2,(a1_3,a1_4)))).2.1,.imm y0_ (a1_0,(a1_1,(a1_2,(a1_3,a1_4)))).2.2.1,.int .i64 (a1_0,(a1_1,(a1_2,(a1_3,a1_4)))).2.2.2.1,.imm (.sl y0_) (a1_0,(a1_1,(a1_2,(a1_3,a1_4)))).2.2.2.2]),(10009002,.rc [.nil]),(10009003,.sl 3 y0_ i16 .shallow)])) he (Za [(10009000,2),(10009001,3),(10009002,5)]) ?_
    rintro⟨i15,i16⟩ _ he
    refine Zh he (fun he=>?_) fun he=>?_
    ·refine Zg he fun he=>?_
     refine Zg he fun he=>?_
     refine Zg he fun he=>?_
     refine Zg he fun he=>?_
     exact⟨_,(Zj he :),(Za [(10009003,119)])⟩
    ·exact⟨_,(Zbh he :),(Za [(10010000,10009000),(10010001,10009001),(10010002,10009002),(10010003,10009003)])⟩
def Ziy:Con:=fun
  |[.agg [.imm (.int .i64) m_0,.imm (.pair (.int .i64) (.pair (.sl (.int .i64)) (.pair (.sl (.int .i64)) (.pair (.int .i64) (.sl (.sl (.int .i64))))))) m_1]],[]=>.opt _ (Zfy (m_0,m_1)) (fun r=>.ret (.tup [.c (.own 900 false),.c (.bool r.1)]) [(900,.sl 89 y7_ r.2 (.deep true .no))])
  |_,_=>.fail
def Zop:Sched:=.alt 4 (.alt 5 (.first 6 .done) .stop) .stop
def ZwR:Cfg:={ y:=tys,n:=52,h:=0,tab:=[(71,Ze7),(118,ZhK),(119,Zix),(120,Zke),(121,Zif)],cut:=[11,16],deep:=[32],sched:=[(9,(ZF [0,2] (.alt 1 (.alt 3 Zop .stop) (.alt 3 (.alt 1 Zop .stop) .stop))))] }
theorem ZKd {P:Prop} (h:P:=by
  refine Y4 ?_
  refine Y4 ?_
  refine And.intro hq2 ?_
  refine Zg he fun he=>?_
  exact⟨_,(Zj he :),(Za [(10000001,33)])⟩):P:=h
theorem Zq2:Zn Tryz.prog 48 Ziy:=by
 refine Zp (C:=ZwR) Tryz.f48 (Zk Zjk (Zk ZpE (Zk Zpg (Zk ZsR (Zk Ztu Zq))))) fun _ a b k he=>?_
 unfold Ziy at he;split at he;rotate_left;exact he.elim
 rename_i m_0 m_1
 refine Zs he fun he=>?_
 refine Zi he fun r1_ he=>?_
 refine Zh he (fun he=>?_) fun he=>?_
 ·exact Zv [(2,[]),(3,[])] (Zj he :) (Za [])
 ·refine ZL (ZhN (m_0,m_1)) (fun out1=>(Zm [(1,.c (.ptr 10001000 0)),(4,.c (.own 10001001 false))],[(10001000,.rc [.imm y0_ (m_0,m_1).1,.imm y5_ (m_0,m_1).2]),(10001001,.sl 89 y7_ out1 (.deep true .no))])) he ?_ ?_
  ·rintro out1 he
   refine ZL (ZhO) (fun out3=>(Zm [(4,.c (.own 10003000 false))],[(10003000,.sl 89 y7_ out3 (.deep true .no))])) he ?_ ?_
   ·rintro out3 he
    refine Zh he (fun he=>?_) fun he=>?_
    ·exact Zv [(2,[]),(3,[])] (Zj he :) (Za [])
    ·exact Zv [(2,[]),(3,[])] (Zj he :) (Za [(900,10003000)])
   ·skip
    refine Zo (ZhP (m_0,m_1)) (fun (i1,out2)=>(Zm [(1,.c (.ptr 10002000 0)),(4,.c (.own 10002001 false)),(36,.c (.imm y5_ (m_0,m_1).2)),(37,.c (.int .i64 ((m_0,m_1).2.length:Int))),(38,.c (.int .i64 i1))],[(10002000,.rc [.imm y0_ (m_0,m_1).1,.imm y5_ (m_0,m_1).2]),(10002001,.sl 89 y7_ out2 (.deep true .no))])) he (Za [(10002000,10001000),(10002001,10001001)]) ?_
    rintro⟨i1,out2⟩ _ he
    refine Zh he (fun he=>?_) fun he=>?_
    ·refine Zg he fun he=>?_
     refine Zi he fun r10_ he=>?_
     refine Zg he fun he=>?_
     refine Zg he fun he=>?_
     exact⟨_,(Zj he :),(Za [(10002001,46)])⟩
    ·exact⟨_,(Zbh he :),(Za [(10003000,10002001)])⟩
  ·skip
   refine Zo (ZhQ (m_0,m_1)) (fun (i,out)=>(Zm [(1,.c (.ptr 10000000 0)),(4,.c (.own 10000001 false)),(16,.c (.int .i64 ((m_0,m_1).1.length:Int))),(17,.c (.int .i64 i))],[(10000000,.rc [.imm y0_ (m_0,m_1).1,.imm y5_ (m_0,m_1).2]),(10000001,.sl 89 y7_ out (.deep true .no))])) he (Za [(10000000,1)]) ?_
   rintro⟨i,out⟩ _ he
   refine Zh he (fun he=>?_) fun he=>?_
   ·refine Zi he fun r6_ he=>?_
    refine Zi he fun r7_ he=>?_
    refine And.intro (by kernel_rfl) ?_
    obtain⟨r8_,hq1,he⟩:=Z6 he
    obtain⟨hq2,he⟩:=ZO he
    refine Y5 ?_ ?_
    ·skip
     refine Y4 ?_
     refine⟨r8_,hq1,?_⟩
     exact ZKd
    ·skip
     refine⟨r8_,hq1,?_⟩
     refine Y4 ?_
     exact ZKd
   ·exact⟨_,(Zbh he :),(Za [(10001000,10000000),(10001001,10000001)])⟩
def ZpO:Con:=fun
  |[.agg [.imm (.int .i64) m_0,.imm (.pair (.int .i64) (.pair (.sl (.int .i64)) (.pair (.sl (.int .i64)) (.pair (.int .i64) (.sl (.sl (.int .i64))))))) m_1]],[]=>.opt _ (ZsP (m_0,m_1)) (fun r=>.ret (.tup [.c (.own 900 false),.c (.bool r.1)]) [(900,.sl 89 y7_ r.2 (.deep true .no))])
  |_,_=>.fail
def ZBF:Cfg:={ y:=tys,n:=18,h:=0,tab:=[(48,Ziy)] }
theorem ZKe {P:Prop} (h:P:=by
  exact Zv [(2,[]),(3,[])] (Zj he :) (Za [(900,9900)])):P:=h
theorem ZB4:Zn Tryz.prog 55 ZpO:=by
 refine Zp (C:=ZBF) Tryz.f55 (Zk Zq2 Zq) fun _ a b k he=>?_
 unfold ZpO at he;split at he;rotate_left;exact he.elim
 rename_i m_0 m_1
 refine Zs he fun he=>?_
 refine Zi he fun r1_ he=>?_
 refine Zh he (fun he=>?_) fun he=>?_
 ·exact ZKe
 ·exact ZKe
def Zkf:Con:=fun
  |[.c (.int .i64 n)],[]=>.opt _ (Zml n) (fun r=>.ret (.c (.bool r)) [])
  |_,_=>.fail
def Zu6:Cfg:={ y:=tys,n:=6,h:=0,tab:=[(127,Zb7)] }
theorem Zvz:Zn Tryz.prog 126 Zkf:=by
 refine Zp (C:=Zu6) Tryz.f126 (Zk ZcF Zq) fun _ a b k he=>?_
 unfold Zkf at he;split at he;rotate_left;exact he.elim
 rename_i n
 refine Zs he fun he=>?_
 refine Zi he fun r1_ he=>?_
 exact Z5
def Zc5:Con:=fun
  |[.c (.imm (.int .i64) s_),.c (.fn 126 [])],[]=>.opt _ (Zds s_) (fun r=>.ret (.c (.int .i64 r)) [])
  |_,_=>.fail
def Zjw:Cfg:={ y:=tys,n:=19,h:=0,tab:=[(126,Zkf)] }
theorem ZjM:Zn Tryz.prog 186 Zc5:=by
 refine Zp (C:=Zjw) Tryz.f186 (Zk Zvz Zq) fun _ a b k he=>?_
 unfold Zc5 at he;split at he;rotate_left;exact he.elim
 rename_i s_
 refine Zs he fun he=>?_
 refine Zo (Zbn s_) (fun i=>(Zm [(0,.c (.imm y0_ s_)),(1,.c (.fn 126 [])),(7,.c (.int .i64 (s_.length:Int))),(8,.c (.int .i64 i))],[])) he (Za []) ?_
 exact Zym
def ZcI:Con:=fun
  |[.c (.imm (.int .i64) s_),.c (.fn 126 [])],[]=>.opt _ (Zc0 s_) (fun r=>.ret (.c (.bool r)) [])
  |_,_=>.fail
def Zit:Cfg:={ y:=tys,n:=9,h:=0,tab:=[(186,Zc5)] }
theorem ZiJ:Zn Tryz.prog 125 ZcI:=by
 refine Zp (C:=Zit) Tryz.f125 (Zk ZjM Zq) fun _ a b k he=>?_
 unfold ZcI at he;split at he;rotate_left;exact he.elim
 rename_i s_
 refine Zs he fun he=>?_
 refine Zi he fun r1_ he=>?_
 exact Z5
def Ziz:Con:=fun
  |[.agg [.imm (.int .i64) m_0,.imm (.pair (.int .i64) (.pair (.sl (.int .i64)) (.pair (.sl (.int .i64)) (.pair (.int .i64) (.sl (.sl (.int .i64))))))) m_1],.c (.imm (.int .i64) coefs)],[]=>.opt _ (Zht (m_0,m_1) coefs) (fun r=>.ret (.c (.bool r)) [])
  |_,_=>.fail
def ZwU:Cfg:={ y:=tys,n:=16,h:=0,tab:=[(125,ZcI)] }
theorem ZBw {P:Prop} (h:P:=by
  refine Zi he fun r1_ he=>?_
  exact Zbg):P:=h
theorem Zq4:Zn Tryz.prog 56 Ziz:=by
 refine Zp (C:=ZwU) Tryz.f56 (Zk ZiJ Zq) fun _ a b k he=>?_
 unfold Ziz at he;split at he;rotate_left;exact he.elim
 rename_i m_0 m_1 coefs
 refine Zs he fun he=>?_
 refine Zh he (fun he=>?_) fun he=>?_
 ·exact ZBw
 ·exact Zbg
def ZnG:Con:=fun
  |[.c (.int .i64 fuel)],[]=>.opt _ (Znx fuel) (fun r=>.ret (.c (.bool r)) [])
  |_,_=>.fail
def ZDq:Cfg:={ y:=tys,n:=5,h:=0,tab:=[(127,Zb7)] }
theorem Zwf:Zn Tryz.prog 57 ZnG:=by
 refine Zp (C:=ZDq) Tryz.f57 (Zk ZcF Zq) fun _ a b k he=>?_
 unfold ZnG at he;split at he;rotate_left;exact he.elim
 rename_i fuel
 refine Zs he fun he=>?_
 refine Zi he fun r1_ he=>?_
 exact Z5
def Zm7:Con:=fun
  |[.agg [.imm (.pair (.int .i64) (.int .i64)) c__0,.int .i64 c__1]],[]=>.opt _ (Zpd (c__0,c__1)) (fun r=>.ret (.c (.bool r)) [])
  |_,_=>.fail
def ZyW:Cfg:={ y:=tys,n:=6,h:=0,tab:=[(223,Z9)] }
theorem Zy3:Zn Tryz.prog 222 Zm7:=by
 refine Zp (C:=ZyW) Tryz.f222 (Zk ZbD Zq) fun _ a b k he=>?_
 unfold Zm7 at he;split at he;rotate_left;exact he.elim
 rename_i c__0 c__1
 refine Zs he fun he=>?_
 refine Zi he fun r1_ he=>?_
 exact ZN
def Zce:Con:=fun
  |[.c (.imm (.pair (.sl (.pair (.int .i64) (.int .i64))) (.int .i64)) s_),.c (.fn 222 [])],[]=>.opt _ (Zcr s_) (fun r=>.ret (.c (.int .i64 r)) [])
  |_,_=>.fail
def Zgt:Cfg:={ y:=tys,n:=19,h:=0,tab:=[(222,Zm7)] }
theorem ZgB:Zn Tryz.prog 225 Zce:=by
 refine Zp (C:=Zgt) Tryz.f225 (Zk Zy3 Zq) fun _ a b k he=>?_
 unfold Zce at he;split at he;rotate_left;exact he.elim
 rename_i s_
 refine Zs he fun he=>?_
 refine Zo (Z0 s_) (fun i=>(Zm [(0,.c (.imm y7_ s_)),(1,.c (.fn 222 [])),(7,.c (.int .i64 (s_.length:Int))),(8,.c (.int .i64 i))],[])) he (Za []) ?_
 exact Zym
def ZbW:Con:=fun
  |[.c (.imm (.pair (.sl (.pair (.int .i64) (.int .i64))) (.int .i64)) s_),.c (.fn 222 [])],[]=>.opt _ (Zca s_) (fun r=>.ret (.c (.bool r)) [])
  |_,_=>.fail
def ZfS:Cfg:={ y:=tys,n:=9,h:=0,tab:=[(225,Zce)] }
theorem Zf1:Zn Tryz.prog 161 ZbW:=by
 refine Zp (C:=ZfS) Tryz.f161 (Zk ZgB Zq) fun _ a b k he=>?_
 unfold ZbW at he;split at he;rotate_left;exact he.elim
 rename_i s_
 refine Zs he fun he=>?_
 refine Zi he fun r1_ he=>?_
 exact Z5
def ZoX:Con:=fun
  |[.c (.imm (.pair (.sl (.pair (.int .i64) (.int .i64))) (.int .i64)) list_)],[]=>.opt _ (Zrt list_) (fun r=>.ret (.c (.bool r)) [])
  |_,_=>.fail
def ZAd:Cfg:={ y:=tys,n:=6,h:=0,tab:=[(161,ZbW)] }
theorem ZAH:Zn Tryz.prog 159 ZoX:=by
 refine Zp (C:=ZAd) Tryz.f159 (Zk Zf1 Zq) fun _ a b k he=>?_
 unfold ZoX at he;split at he;rotate_left;exact he.elim
 rename_i list_
 refine Zs he fun he=>?_
 refine Zi he fun r1_ he=>?_
 exact Z5
end
end Go.AE.Y
