/-
  Walks: each function keeps the contract that its model gives. No conditions.
-/
import Derived.Test.YtaeeiddjpigemaaGreatR8Tab
import Derived.Test.YtaeeiddjpigemaaGreatR8W4
import Derived.Test.YtaeeiddjpigemaaGreatR8S
namespace Go.AE.Y
open Go Go.AE Go.Proofs
set_option linter.unusedVariables false
set_option maxHeartbeats 2000000
set_option maxRecDepth 100000
noncomputable section
def ZkI:Con:=fun args st=>match args,st with
  |[.c (.imm (.int .i64) s1_),.c (.imm (.int .i64) s2_)],[]=>.opt (Bool) (Zgy s1_ s2_) (fun r=>.ret (.c (.bool r)) [])
  |_,_=>.fail
def Zo3:Cfg:={ y:=tys,n:=26,h:=0,tab:=[],cut:=[],hand:=[],good:=[],deep:=[],sched:=[] }
theorem Zph:Zs Tryz.prog Zo3:=Zn (fun p h=>by cases h)
theorem Zt9:Zq Tryz.prog 242 ZkI:=by
 refine Zm (C:=Zo3) mixed Ze Zph (fn:=Tryz.f242) (c:=bd Tryz.f242) (by kernel_rfl) (by kernel_rfl) (by kernel_rfl) (by kernel_rfl) ?_
 intro args st k he
 unfold ZkI at he
 split at he
 rotate_left
 ·exact he.elim
 rename_i s1_ s2_
 have he:Ok (Zgy s1_ s2_) (fun r=>k (.c (.bool r)) []):=he
 refine⟨rfl,rfl,?_⟩
 refine Zh he (fun he=>?_) fun he=>?_
 ·have he:=Zb he
  exact⟨rfl,_,_,Leads.refl _ _,he⟩
 ·refine Zl mixed Ze Zph (S:=Int) (I:=(fun i=>(Zo [(0,.c (.imm y0_ s1_)),(1,.c (.imm y0_ s2_)),(12,.c (.int .i64 (s1_.length:Int))),(13,.c (.int .i64 i))],[]))) (f:=ZgS s1_ s2_) (K:=(fun r=>k (.c (.bool r)) [])) he (Za [] rfl rfl trivial ⟨.inl rfl,.inl rfl,rfl,rfl,Y1⟩) ?_
  rintro i J1 he
  refine Zh he (fun he=>?_) fun he=>?_
  ·refine And.intro (by kernel_rfl) ?_
   refine Zc he fun he=>?_
   refine Zc he fun he=>?_
   refine Zh he (fun he=>?_) fun he=>?_
   ·have he:=Zb he
    exact⟨rfl,_,_,Leads.refl _ _,he⟩
   ·refine Zc he fun he=>?_
    have he:=Zb he
    exact⟨(i+(1:Int)),he,(Za [] rfl rfl trivial ⟨.inl rfl,.inl rfl,rfl,rfl,Y1⟩)⟩
  ·have he:=Zb he
   exact⟨rfl,_,_,Leads.refl _ _,he⟩
def ZjS:Con:=fun args st=>match args,st with
  |[.c (.imm (.int .i64) row),.c (.ptr 0 0)],[(0,.rc [.imm (.int .i64) o0])]=>.opt (Bool) (ZhX row o0) (fun r=>.ret (.c (.bool r)) [(0,.rc [.imm y0_ o0])])
  |_,_=>.fail
def ZjF:Cfg:={ y:=tys,n:=7,h:=1,tab:=[(242,ZkI)],cut:=[],hand:=[],good:=[],deep:=[],sched:=[] }
theorem ZtI:Zs Tryz.prog ZjF:=by
  refine Zn ?_
  simp only[ZjF,List.forall_mem_cons]
  exact⟨Zt9,fun p h=>by cases h⟩
theorem Ztx:Zq Tryz.prog 241 ZjS:=by
 refine Zm (C:=ZjF) mixed Ze ZtI (fn:=Tryz.f241) (c:=bd Tryz.f241) (by kernel_rfl) (by kernel_rfl) (by kernel_rfl) (by kernel_rfl) ?_
 intro args st k he
 unfold ZjS at he
 split at he
 rotate_left
 ·exact he.elim
 rename_i row o0
 have he:Ok (ZhX row o0) (fun r=>k (.c (.bool r)) [(0,.rc [.imm y0_ o0])]):=he
 refine⟨rfl,rfl,?_⟩
 refine Zk he fun r1_ he=>?_
 have he:=Zb he
 exact⟨rfl,_,_,(Za [] (l:=[(3,.c (.bool r1_))]) (st':=[(0,.rc [.imm y0_ o0])]) rfl rfl ⟨⟨.inl rfl,Y1⟩,Y1⟩ ⟨.inl rfl,Y1⟩),he⟩
def Zcs:Con:=fun args st=>match args,st with
  |[.c (.imm (.sl (.int .i64)) s_),.c (.fn 241 [0])],[(0,.rc [.imm (.int .i64) o0])]=>.opt (Int) (ZbI s_ o0) (fun r=>.ret (.c (.int .i64 r)) [(0,.rc [.imm y0_ o0])])
  |_,_=>.fail
def Zcq:Cfg:={ y:=tys,n:=19,h:=1,tab:=[(241,ZjS)],cut:=[],hand:=[],good:=[],deep:=[],sched:=[] }
theorem ZdS:Zs Tryz.prog Zcq:=by
  refine Zn ?_
  simp only[Zcq,List.forall_mem_cons]
  exact⟨Ztx,fun p h=>by cases h⟩
theorem ZhT:Zq Tryz.prog 250 Zcs:=by
 refine Zm (C:=Zcq) mixed Ze ZdS (fn:=Tryz.f250) (c:=bd Tryz.f250) (by kernel_rfl) (by kernel_rfl) (by kernel_rfl) (by kernel_rfl) ?_
 intro args st k he
 unfold Zcs at he
 split at he
 rotate_left
 ·exact he.elim
 rename_i s_ o0
 have he:Ok (ZbI s_ o0) (fun r=>k (.c (.int .i64 r)) [(0,.rc [.imm y0_ o0])]):=he
 refine⟨rfl,rfl,?_⟩
 refine Zl mixed Ze ZdS (S:=Int) (I:=(fun i=>(Zo [(0,.c (.imm (.sl y0_) s_)),(1,.c (.fn 241 [0])),(7,.c (.int .i64 (s_.length:Int))),(8,.c (.int .i64 i))],[(0,.rc [.imm y0_ o0])]))) (f:=ZY s_ o0) (K:=(fun r=>k (.c (.int .i64 r)) [(0,.rc [.imm y0_ o0])])) he (Za [] rfl rfl ⟨⟨.inl rfl,Y1⟩,Y1⟩ ⟨.inl rfl,⟨rfl,Y3⟩,rfl,rfl,Y1⟩) ?_
 rintro i J1 he
 refine Zh he (fun he=>?_) fun he=>?_
 ·refine Zc he fun he=>?_
  refine Zk he fun r1_ he=>?_
  refine Zh he (fun he=>?_) fun he=>?_
  ·have he:=Zb he
   exact⟨rfl,_,_,(Za [] (l:=[(4,.c (.int .i64 i))]) (st':=[(0,.rc [.imm y0_ o0])]) rfl rfl ⟨⟨.inl rfl,Y1⟩,Y1⟩ ⟨rfl,Y1⟩),he⟩
  ·refine Zc he fun he=>?_
   have he:=Zb he
   exact⟨(i+(1:Int)),he,(Za [] rfl rfl ⟨⟨.inl rfl,Y1⟩,Y1⟩ ⟨.inl rfl,⟨rfl,Y3⟩,rfl,rfl,Y1⟩)⟩
 ·have he:=Zb he
  exact⟨rfl,_,_,(Za [] (l:=[(4,.c (.int .i64 (-1:Int)))]) (st':=[(0,.rc [.imm y0_ o0])]) rfl rfl ⟨⟨.inl rfl,Y1⟩,Y1⟩ ⟨rfl,Y1⟩),he⟩
def Zb7:Con:=fun args st=>match args,st with
  |[.c (.imm (.sl (.int .i64)) s_),.c (.fn 241 [0])],[(0,.rc [.imm (.int .i64) o0])]=>.opt (Bool) (Zbv s_ o0) (fun r=>.ret (.c (.bool r)) [(0,.rc [.imm y0_ o0])])
  |_,_=>.fail
def Zb6:Cfg:={ y:=tys,n:=9,h:=1,tab:=[(250,Zcs)],cut:=[],hand:=[],good:=[],deep:=[],sched:=[] }
theorem Zhc:Zs Tryz.prog Zb6:=by
  refine Zn ?_
  simp only[Zb6,List.forall_mem_cons]
  exact⟨ZhT,fun p h=>by cases h⟩
theorem Zhb:Zq Tryz.prog 200 Zb7:=by
 refine Zm (C:=Zb6) mixed Ze Zhc (fn:=Tryz.f200) (c:=bd Tryz.f200) (by kernel_rfl) (by kernel_rfl) (by kernel_rfl) (by kernel_rfl) ?_
 intro args st k he
 unfold Zb7 at he
 split at he
 rotate_left
 ·exact he.elim
 rename_i s_ o0
 have he:Ok (Zbv s_ o0) (fun r=>k (.c (.bool r)) [(0,.rc [.imm y0_ o0])]):=he
 refine⟨rfl,rfl,?_⟩
 refine Zk he fun r1_ he=>?_
 have he:=Zb he
 exact⟨rfl,_,_,(Za [] (l:=[(4,.c (.bool (decide ((0:Int)≤r1_))))]) (st':=[(0,.rc [.imm y0_ o0])]) rfl rfl ⟨⟨.inl rfl,Y1⟩,Y1⟩ ⟨.inl rfl,Y1⟩),he⟩
def ZlM:Con:=fun args st=>match args,st with
  |[.agg [.int .i64 r__0,.imm (.int .i64) r__1,.imm (.int .i64) r__2,.int .i64 r__3,.imm (.sl (.int .i64)) r__4],.c (.imm (.int .i64) vals)],[]=>.opt (Bool) (Zhu (r__0,(r__1,(r__2,(r__3,r__4)))) vals) (fun r=>.ret (.c (.bool r)) [])
  |_,_=>.fail
def ZlH:Cfg:={ y:=tys,n:=63,h:=0,tab:=[(178,Zd2),(200,Zb7)],cut:=[],hand:=[],good:=[],deep:=[],sched:=[] }
theorem ZlW:Zs Tryz.prog ZlH:=by
  refine Zn ?_
  simp only[ZlH,List.forall_mem_cons]
  exact⟨Zif,Zhb,fun p h=>by cases h⟩
theorem Zu9:Zq Tryz.prog 184 ZlM:=by
 refine Zm (C:=ZlH) mixed Ze ZlW (fn:=Tryz.f184) (c:=bd Tryz.f184) (by kernel_rfl) (by kernel_rfl) (by kernel_rfl) (by kernel_rfl) ?_
 intro args st k he
 unfold ZlM at he
 split at he
 rotate_left
 ·exact he.elim
 rename_i r__0 r__1 r__2 r__3 r__4 vals
 have he:Ok (Zhu (r__0,(r__1,(r__2,(r__3,r__4)))) vals) (fun r=>k (.c (.bool r)) []):=he
 refine⟨rfl,rfl,?_⟩
 refine Zh he (fun he=>?_) fun he=>?_
 ·refine Zl mixed Ze ZlW (S:=Int×Int) (I:=(fun (sum,i)=>(Zo [(2,.c (.ptr 10000000 0)),(5,.c (.int .i64 sum)),(14,.c (.imm y0_ vals)),(15,.c (.int .i64 (vals.length:Int))),(16,.c (.int .i64 i))],[(10000000,.rc [.int .i64 (r__0,(r__1,(r__2,(r__3,r__4)))).1,.imm y0_ (r__0,(r__1,(r__2,(r__3,r__4)))).2.1,.imm y0_ (r__0,(r__1,(r__2,(r__3,r__4)))).2.2.1,.int .i64 (r__0,(r__1,(r__2,(r__3,r__4)))).2.2.2.1,.imm (.sl y0_) (r__0,(r__1,(r__2,(r__3,r__4)))).2.2.2.2])]))) (f:=ZkS (r__0,(r__1,(r__2,(r__3,r__4)))) vals) (K:=(fun r=>k (.c (.bool r)) [])) he (Za [(10000000,2)] rfl rfl ⟨⟨rfl,.inl rfl,.inl rfl,rfl,.inl rfl,Y1⟩,Y1⟩ ⟨⟨Y2,rfl⟩,rfl,.inl rfl,rfl,rfl,Y1⟩) ?_
  rintro⟨sum,i⟩ J1 he
  refine Zh he (fun he=>?_) fun he=>?_
  ·refine Zc he fun he=>?_
   refine Zc he fun he=>?_
   refine Zc he fun he=>?_
   refine Zc he fun he=>?_
   refine Zc he fun he=>?_
   have he:=Zb he
   exact⟨((sum+(((r__0,(r__1,(r__2,(r__3,r__4)))).2.2.1.getD i.toNat 0)*(vals.getD i.toNat 0))),(i+(1:Int))),he,(Za [] rfl rfl ⟨⟨rfl,.inl rfl,.inl rfl,rfl,.inl rfl,Y1⟩,Y1⟩ ⟨⟨Y2,rfl⟩,rfl,.inl rfl,rfl,rfl,Y1⟩)⟩
  ·have he:=Zb he
   exact⟨rfl,_,_,(Za [] (l:=[(4,.c (.bool (decide ((r__0,(r__1,(r__2,(r__3,r__4)))).2.2.2.1≤sum))))]) (st':=[]) rfl rfl trivial ⟨.inl rfl,Y1⟩),he⟩
 ·refine Zh he (fun he=>?_) fun he=>?_
  ·refine Zl mixed Ze ZlW (S:=Int) (I:=(fun i1=>(Zo [(3,.c (.ptr 10001000 0)),(37,.c (.imm y0_ vals)),(38,.c (.int .i64 (vals.length:Int))),(39,.c (.int .i64 i1))],[(10001000,.rc [.imm y0_ vals])]))) (f:=Zfa vals) (K:=(fun r=>k (.c (.bool r)) [])) he (Za [(10001000,3)] rfl rfl ⟨⟨.inl rfl,Y1⟩,Y1⟩ ⟨⟨Y2,rfl⟩,.inl rfl,rfl,rfl,Y1⟩) ?_
   rintro i1 J1 he
   refine Zh he (fun he=>?_) fun he=>?_
   ·refine Zc he fun he=>?_
    refine Zc he fun he=>?_
    refine Zk he fun r1_ he=>?_
    refine Zh he (fun he=>?_) fun he=>?_
    ·have he:=Zb he
     exact⟨rfl,_,_,(Za [] (l:=[(4,.c (.bool false))]) (st':=[]) rfl rfl trivial ⟨.inr rfl,Y1⟩),he⟩
    ·refine Zc he fun he=>?_
     have he:=Zb he
     exact⟨(i1+(1:Int)),he,(Za [] rfl rfl ⟨⟨.inl rfl,Y1⟩,Y1⟩ ⟨⟨Y2,rfl⟩,.inl rfl,rfl,rfl,Y1⟩)⟩
   ·have he:=Zb he
    exact⟨rfl,_,_,(Za [] (l:=[(4,.c (.bool true))]) (st':=[]) rfl rfl trivial ⟨.inr rfl,Y1⟩),he⟩
  ·refine Zh he (fun he=>?_) fun he=>?_
   ·refine Zk he fun r2_ he=>?_
    have he:=Zb he
    exact⟨rfl,_,_,(Za [] (l:=[(4,.c (.bool r2_))]) (st':=[]) rfl rfl trivial ⟨.inl rfl,Y1⟩),he⟩
   ·refine And.intro (by kernel_rfl) ?_
    refine Zc he fun he=>?_
    refine Zc he fun he=>?_
    have he:=Zb he
    exact⟨rfl,_,_,(Za [] (l:=[(4,.c (.bool (decide ((vals.getD (0:Int).toNat 0)<(vals.getD (1:Int).toNat 0)))))]) (st':=[]) rfl rfl trivial ⟨.inl rfl,Y1⟩),he⟩
def ZdU:Con:=fun args st=>match args,st with
  |[.c (.own 3 false),.c (.ptr 0 0),.c (.ptr 1 0),.c (.ptr 2 0)],[(0,.rc [.int .i64 o0_0,.imm (.int .i64) o0_1,.imm (.int .i64) o0_2,.int .i64 o0_3,.imm (.sl (.int .i64)) o0_4]),(1,.rc [.imm (.int .i64) o1_0,.imm (.pair (.int .i64) (.pair (.sl (.int .i64)) (.pair (.sl (.int .i64)) (.pair (.int .i64) (.sl (.sl (.int .i64))))))) o1_1]),(2,.rc [.own 4 false]),(3,.sl 3 (.int .i64) vals .shallow),(4,.sl 89 (.pair (.sl (.pair (.int .i64) (.int .i64))) (.int .i64)) o4 (.deep true .no))]=>.opt (Bool×(List D6_)) (Zcg (o0_0,(o0_1,(o0_2,(o0_3,o0_4)))) (o1_0,o1_1) vals o4) (fun r=>.ret (.c (.bool r.1)) [(0,.rc [.int .i64 o0_0,.imm y0_ o0_1,.imm y0_ o0_2,.int .i64 o0_3,.imm (.sl y0_) o0_4]),(1,.rc [.imm y0_ o1_0,.imm y4_ o1_1]),(2,.rc [.own 900 false]),(3,.sl 3 y0_ vals .shallow),(4,.dead),(900,.sl 89 y6_ r.2 (.deep true .no))])
  |_,_=>.fail
def ZdT:Cfg:={ y:=tys,n:=44,h:=5,tab:=[(119,Zhn),(128,Zdp),(184,ZlM)],cut:=[8],hand:=[],good:=[],deep:=[42],sched:=[(6,(.first 0 (.first 2 (.first 3 (.first 4 (.first 5 (.alt 1 (.alt 6 (.alt 7 (.first 8 (.alt 9 (.alt 10 (.first 11 .done) .stop) .stop)) .stop) .stop) (.alt 6 (.alt 1 (.alt 7 (.first 8 (.alt 9 (.alt 10 (.first 11 .done) .stop) .stop)) .stop) .stop) .stop))))))))] }
theorem Zd1:Zs Tryz.prog ZdT:=by
  refine Zn ?_
  simp only[ZdT,List.forall_mem_cons]
  exact⟨ZnF,Zf0,Zu9,fun p h=>by cases h⟩
theorem ZmM:Zq Tryz.prog 183 ZdU:=by
 refine Zm (C:=ZdT) mixed Ze Zd1 (fn:=Tryz.f183) (c:=bd Tryz.f183) (by kernel_rfl) (by kernel_rfl) (by kernel_rfl) (by kernel_rfl) ?_
 intro args st k he
 unfold ZdU at he
 split at he
 rotate_left
 ·exact he.elim
 rename_i o0_0 o0_1 o0_2 o0_3 o0_4 o1_0 o1_1 vals o4
 have he:Ok (Zcg (o0_0,(o0_1,(o0_2,(o0_3,o0_4)))) (o1_0,o1_1) vals o4) (fun r=>k (.c (.bool r.1)) [(0,.rc [.int .i64 o0_0,.imm y0_ o0_1,.imm y0_ o0_2,.int .i64 o0_3,.imm (.sl y0_) o0_4]),(1,.rc [.imm y0_ o1_0,.imm y4_ o1_1]),(2,.rc [.own 900 false]),(3,.sl 3 y0_ vals .shallow),(4,.dead),(900,.sl 89 y6_ r.2 (.deep true .no))]):=he
 refine⟨rfl,rfl,?_⟩
 refine Zk he fun r1_ he=>?_
 refine Zh he (fun he=>?_) fun he=>?_
 ·refine Zt mixed Ze Zd1 (S:=(List Int)) (I:=(fun lits1=>(Zo [(3,.c (.ptr 2 0)),(6,.c (.own 10001000 false))],[(0,.rc [.int .i64 (o0_0,(o0_1,(o0_2,(o0_3,o0_4)))).1,.imm y0_ (o0_0,(o0_1,(o0_2,(o0_3,o0_4)))).2.1,.imm y0_ (o0_0,(o0_1,(o0_2,(o0_3,o0_4)))).2.2.1,.int .i64 (o0_0,(o0_1,(o0_2,(o0_3,o0_4)))).2.2.2.1,.imm (.sl y0_) (o0_0,(o0_1,(o0_2,(o0_3,o0_4)))).2.2.2.2]),(1,.rc [.imm y0_ (o1_0,o1_1).1,.imm y4_ (o1_0,o1_1).2]),(2,.rc [.own 4 false]),(3,.sl 3 y0_ vals .shallow),(4,.sl 89 y6_ o4 (.deep true .no)),(10001000,.sl 3 y0_ lits1 .shallow)]))) (B:=fun s=>Ok (ZbU o4 s) (fun r=>k (.c (.bool r.1)) [(0,.rc [.int .i64 o0_0,.imm y0_ o0_1,.imm y0_ o0_2,.int .i64 o0_3,.imm (.sl y0_) o0_4]),(1,.rc [.imm y0_ o1_0,.imm y4_ o1_1]),(2,.rc [.own 900 false]),(3,.sl 3 y0_ vals .shallow),(4,.dead),(900,.sl 89 y6_ r.2 (.deep true .no))])) ?_ ?_
  ·rintro lits1 he
   refine Zk he fun r5_ he=>?_
   refine Zc he fun he=>?_
   have he:=Zb he
   exact⟨rfl,_,_,(Za [(900,43)] (l:=[(5,.c (.bool true))]) (st':=[(0,.rc [.int .i64 o0_0,.imm y0_ o0_1,.imm y0_ o0_2,.int .i64 o0_3,.imm (.sl y0_) o0_4]),(1,.rc [.imm y0_ o1_0,.imm y4_ o1_1]),(2,.rc [.own 900 false]),(3,.sl 3 y0_ vals .shallow),(4,.dead),(900,.sl 89 y6_ (o4++[(r5_.2.2,r5_.2.1)]) (.deep true .no))]) rfl rfl ⟨⟨rfl,.inl rfl,.inl rfl,rfl,.inl rfl,Y1⟩,⟨.inl rfl,.inl rfl,Y1⟩,⟨Y3,Y1⟩,Y2,Y1,Y2,Y1⟩ ⟨.inr rfl,Y1⟩),he⟩
  ·skip
   refine Zl mixed Ze Zd1 (S:=Int×(List Int)) (I:=(fun (i,lits)=>(Zo [(0,.c (.own 3 false)),(2,.c (.ptr 1 0)),(3,.c (.ptr 2 0)),(6,.c (.own 10000000 false)),(16,.c (.imm y0_ (o0_0,(o0_1,(o0_2,(o0_3,o0_4)))).2.1)),(17,.c (.int .i64 ((o0_0,(o0_1,(o0_2,(o0_3,o0_4)))).2.1.length:Int))),(18,.c (.int .i64 i))],[(0,.rc [.int .i64 (o0_0,(o0_1,(o0_2,(o0_3,o0_4)))).1,.imm y0_ (o0_0,(o0_1,(o0_2,(o0_3,o0_4)))).2.1,.imm y0_ (o0_0,(o0_1,(o0_2,(o0_3,o0_4)))).2.2.1,.int .i64 (o0_0,(o0_1,(o0_2,(o0_3,o0_4)))).2.2.2.1,.imm (.sl y0_) (o0_0,(o0_1,(o0_2,(o0_3,o0_4)))).2.2.2.2]),(1,.rc [.imm y0_ (o1_0,o1_1).1,.imm y4_ (o1_0,o1_1).2]),(2,.rc [.own 4 false]),(3,.sl 3 y0_ vals .shallow),(4,.sl 89 y6_ o4 (.deep true .no)),(10000000,.sl 3 y0_ lits .shallow)]))) (f:=ZbV (o0_0,(o0_1,(o0_2,(o0_3,o0_4)))) (o1_0,o1_1) vals o4) (K:=(fun r=>k (.c (.bool r.1)) [(0,.rc [.int .i64 o0_0,.imm y0_ o0_1,.imm y0_ o0_2,.int .i64 o0_3,.imm (.sl y0_) o0_4]),(1,.rc [.imm y0_ o1_0,.imm y4_ o1_1]),(2,.rc [.own 900 false]),(3,.sl 3 y0_ vals .shallow),(4,.dead),(900,.sl 89 y6_ r.2 (.deep true .no))])) he (Za [] rfl rfl ⟨⟨rfl,.inl rfl,.inl rfl,rfl,.inl rfl,Y1⟩,⟨.inl rfl,.inl rfl,Y1⟩,⟨Y3,Y1⟩,Y2,Y2,Y1,Y1⟩ ⟨Y3,⟨Y2,rfl⟩,⟨Y2,rfl⟩,⟨rfl,Y1⟩,.inl rfl,rfl,rfl,Y1⟩) ?_
   rintro⟨i,lits⟩ J1 he
   refine Zh he (fun he=>?_) fun he=>?_
   ·refine Zc he fun he=>?_
    refine And.intro (by kernel_rfl) ?_
    refine Zc he fun he=>?_
    obtain⟨r4_,hq1,he⟩:=Zb1 he
    have he:=ZU he
    have hq2:=he.1
    have he:=he.2
    have he:=ZU he
    have hq3:=he.1
    have he:=he.2
    refine Y5 ?_ ?_
    ·skip
     refine Y4 ?_
     refine Y4 ?_
     refine⟨r4_,hq1,?_⟩
     refine And.intro hq2 ?_
     refine Y4 ?_
     refine Y4 ?_
     refine And.intro hq3 ?_
     refine Zc he fun he=>?_
     have he:=Zb he
     exact⟨((i+(1:Int)),(lits++[(0 - r4_)])),he,(Za [(10000000,33)] rfl rfl ⟨⟨rfl,.inl rfl,.inl rfl,rfl,.inl rfl,Y1⟩,⟨.inl rfl,.inl rfl,Y1⟩,⟨Y3,Y1⟩,Y2,Y2,Y2,Y1⟩ ⟨Y3,⟨Y2,rfl⟩,⟨Y2,rfl⟩,Y3,.inl rfl,rfl,rfl,Y1⟩)⟩
    ·skip
     refine Y4 ?_
     refine Y4 ?_
     refine⟨r4_,hq1,?_⟩
     refine And.intro hq2 ?_
     refine Y4 ?_
     refine Y4 ?_
     refine And.intro hq3 ?_
     refine Zc he fun he=>?_
     have he:=Zb he
     exact⟨((i+(1:Int)),(lits++[(0 - r4_)])),he,(Za [(10000000,33)] rfl rfl ⟨⟨rfl,.inl rfl,.inl rfl,rfl,.inl rfl,Y1⟩,⟨.inl rfl,.inl rfl,Y1⟩,⟨Y3,Y1⟩,Y2,Y2,Y2,Y1⟩ ⟨Y3,⟨Y2,rfl⟩,⟨Y2,rfl⟩,Y3,.inl rfl,rfl,rfl,Y1⟩)⟩
   ·exact⟨lits,ZbH he,(Za [(10001000,10000000)] rfl rfl ⟨⟨rfl,.inl rfl,.inl rfl,rfl,.inl rfl,Y1⟩,⟨.inl rfl,.inl rfl,Y1⟩,⟨Y3,Y1⟩,Y2,Y2,Y2,Y1⟩ ⟨⟨Y2,rfl⟩,Y3,Y1⟩)⟩
 ·have he:=Zb he
  exact⟨rfl,_,_,(Za [(900,4)] (l:=[(5,.c (.bool true))]) (st':=[(0,.rc [.int .i64 o0_0,.imm y0_ o0_1,.imm y0_ o0_2,.int .i64 o0_3,.imm (.sl y0_) o0_4]),(1,.rc [.imm y0_ o1_0,.imm y4_ o1_1]),(2,.rc [.own 900 false]),(3,.sl 3 y0_ vals .shallow),(4,.dead),(900,.sl 89 y6_ o4 (.deep true .no))]) rfl rfl ⟨⟨rfl,.inl rfl,.inl rfl,rfl,.inl rfl,Y1⟩,⟨.inl rfl,.inl rfl,Y1⟩,⟨Y3,Y1⟩,Y2,Y1,Y2,Y1⟩ ⟨.inr rfl,Y1⟩),he⟩
def ZcG:Con:=fun args st=>match args,st with
  |[.c (.imm (.int .i64) sizes),.c (.imm (.int .i64) from_),.c (.fn 183 [0,1,2])],[(0,.rc [.int .i64 o0_0,.imm (.int .i64) o0_1,.imm (.int .i64) o0_2,.int .i64 o0_3,.imm (.sl (.int .i64)) o0_4]),(1,.rc [.imm (.int .i64) o1_0,.imm (.pair (.int .i64) (.pair (.sl (.int .i64)) (.pair (.sl (.int .i64)) (.pair (.int .i64) (.sl (.sl (.int .i64))))))) o1_1]),(2,.rc [.nil])]=>.opt ((List D6_)) (Zbf sizes from_ (o0_0,(o0_1,(o0_2,(o0_3,o0_4)))) (o1_0,o1_1)) (fun r=>.ret (.tup []) [(0,.rc [.int .i64 o0_0,.imm y0_ o0_1,.imm y0_ o0_2,.int .i64 o0_3,.imm (.sl y0_) o0_4]),(1,.rc [.imm y0_ o1_0,.imm y4_ o1_1]),(2,.rc [.own 900 false]),(900,.sl 89 y6_ r (.deep true .no))])
  |_,_=>.fail
def ZcC:Cfg:={ y:=tys,n:=42,h:=3,tab:=[(75,Zdf),(183,ZdU)],cut:=[6],hand:=[(183,[0])],good:=[],deep:=[],sched:=[] }
theorem ZbE:Zs Tryz.prog ZcC:=by
  refine Zn ?_
  simp only[ZcC,List.forall_mem_cons]
  exact⟨Zfc,ZmM,fun p h=>by cases h⟩
theorem Zie:Zq Tryz.prog 72 ZcG:=by
 refine Zm (C:=ZcC) mixed Ze ZbE (fn:=Tryz.f72) (c:=bd Tryz.f72) (by kernel_rfl) (by kernel_rfl) (by kernel_rfl) (by kernel_rfl) ?_
 intro args st k he
 unfold ZcG at he
 split at he
 rotate_left
 ·exact he.elim
 rename_i sizes from_ o0_0 o0_1 o0_2 o0_3 o0_4 o1_0 o1_1
 have he:Ok (Zbf sizes from_ (o0_0,(o0_1,(o0_2,(o0_3,o0_4)))) (o1_0,o1_1)) (fun r=>k (.tup []) [(0,.rc [.int .i64 o0_0,.imm y0_ o0_1,.imm y0_ o0_2,.int .i64 o0_3,.imm (.sl y0_) o0_4]),(1,.rc [.imm y0_ o1_0,.imm y4_ o1_1]),(2,.rc [.own 900 false]),(900,.sl 89 y6_ r (.deep true .no))]):=he
 refine⟨rfl,rfl,?_⟩
 refine Zk he fun r1_ he=>?_
 refine Zl mixed Ze ZbE (S:=(List Int)×(List D6_)) (I:=(fun (cells2,cap)=>(Zo [(0,.c (.imm y0_ sizes)),(2,.c (.fn 183 [0,1,2])),(6,.c (.own 10000000 false))],[(0,.rc [.int .i64 (o0_0,(o0_1,(o0_2,(o0_3,o0_4)))).1,.imm y0_ (o0_0,(o0_1,(o0_2,(o0_3,o0_4)))).2.1,.imm y0_ (o0_0,(o0_1,(o0_2,(o0_3,o0_4)))).2.2.1,.int .i64 (o0_0,(o0_1,(o0_2,(o0_3,o0_4)))).2.2.2.1,.imm (.sl y0_) (o0_0,(o0_1,(o0_2,(o0_3,o0_4)))).2.2.2.2]),(1,.rc [.imm y0_ (o1_0,o1_1).1,.imm y4_ (o1_0,o1_1).2]),(2,.rc [.own 10000001 false]),(10000000,.sl 3 y0_ cells2 .shallow),(10000001,.sl 89 y6_ cap (.deep true .no))]))) (f:=ZbB sizes (o0_0,(o0_1,(o0_2,(o0_3,o0_4)))) (o1_0,o1_1)) (K:=(fun r=>k (.tup []) [(0,.rc [.int .i64 o0_0,.imm y0_ o0_1,.imm y0_ o0_2,.int .i64 o0_3,.imm (.sl y0_) o0_4]),(1,.rc [.imm y0_ o1_0,.imm y4_ o1_1]),(2,.rc [.own 900 false]),(900,.sl 89 y6_ r (.deep true .no))])) he (Za [(10000000,10900)] rfl rfl ⟨⟨rfl,.inl rfl,.inl rfl,rfl,.inl rfl,Y1⟩,⟨.inl rfl,.inl rfl,Y1⟩,⟨⟨rfl,Y1⟩,Y1⟩,Y2,Y1,Y1⟩ ⟨.inl rfl,⟨rfl,⟨Y2,⟨Y2,Y3⟩⟩⟩,Y3,Y1⟩) ?_
 rintro⟨cells2,cap⟩ J1 he
 refine Zk he fun r3_ he=>?_
 refine Zh he (fun he=>?_) fun he=>?_
 ·refine Zc he fun he=>?_
  refine Zt mixed Ze ZbE (S:=Int×(List Int)) (I:=(fun (i3,cells4)=>(Zo [(0,.c (.imm y0_ sizes)),(2,.c (.fn 183 [0,1,2])),(6,.c (.own 10004000 false)),(7,.c (.int .i64 i3))],[(0,.rc [.int .i64 (o0_0,(o0_1,(o0_2,(o0_3,o0_4)))).1,.imm y0_ (o0_0,(o0_1,(o0_2,(o0_3,o0_4)))).2.1,.imm y0_ (o0_0,(o0_1,(o0_2,(o0_3,o0_4)))).2.2.1,.int .i64 (o0_0,(o0_1,(o0_2,(o0_3,o0_4)))).2.2.2.1,.imm (.sl y0_) (o0_0,(o0_1,(o0_2,(o0_3,o0_4)))).2.2.2.2]),(1,.rc [.imm y0_ (o1_0,o1_1).1,.imm y4_ (o1_0,o1_1).2]),(2,.rc [.own 10004001 false]),(10004000,.sl 3 y0_ cells4 .shallow),(10004001,.sl 89 y6_ r3_.2 (.deep true .no))]))) (B:=fun s=>Ok (ZbA r3_ s) (LK J1 (fun r=>k (.tup []) [(0,.rc [.int .i64 o0_0,.imm y0_ o0_1,.imm y0_ o0_2,.int .i64 o0_3,.imm (.sl y0_) o0_4]),(1,.rc [.imm y0_ o1_0,.imm y4_ o1_1]),(2,.rc [.own 900 false]),(900,.sl 89 y6_ r (.deep true .no))]))) ?_ ?_
  ·rintro⟨i3,cells4⟩ he
   refine Zh he (fun he=>?_) fun he=>?_
   ·have he:=Zb he
    exact⟨rfl,_,_,(Za [(900,10004001)] (l:=[]) (st':=[(0,.rc [.int .i64 o0_0,.imm y0_ o0_1,.imm y0_ o0_2,.int .i64 o0_3,.imm (.sl y0_) o0_4]),(1,.rc [.imm y0_ o1_0,.imm y4_ o1_1]),(2,.rc [.own 900 false]),(900,.sl 89 y6_ r3_.2 (.deep true .no))]) rfl rfl ⟨⟨rfl,.inl rfl,.inl rfl,rfl,.inl rfl,Y1⟩,⟨.inl rfl,.inl rfl,Y1⟩,⟨Y3,Y1⟩,Y2,Y1⟩ Y1),he⟩
   ·refine Zc he fun he=>?_
    refine Zc he fun he=>?_
    refine Zc he fun he=>?_
    have he:=Zb he
    exact⟨((cells4.set i3.toNat ((cells4.getD i3.toNat 0)+(1:Int))),r3_.2),he,(Za [(10000000,10004000),(10000001,10004001)] rfl rfl ⟨⟨rfl,.inl rfl,.inl rfl,rfl,.inl rfl,Y1⟩,⟨.inl rfl,.inl rfl,Y1⟩,⟨Y3,Y1⟩,Y2,Y2,Y1⟩ ⟨.inl rfl,⟨rfl,⟨Y2,⟨Y2,Y3⟩⟩⟩,Y3,Y1⟩)⟩
  ·skip
   refine Zl mixed Ze ZbE (S:=Int×(List Int)) (I:=(fun (i2,cells3)=>(Zo [(0,.c (.imm y0_ sizes)),(2,.c (.fn 183 [0,1,2])),(6,.c (.own 10003000 false)),(7,.c (.int .i64 i2))],[(0,.rc [.int .i64 (o0_0,(o0_1,(o0_2,(o0_3,o0_4)))).1,.imm y0_ (o0_0,(o0_1,(o0_2,(o0_3,o0_4)))).2.1,.imm y0_ (o0_0,(o0_1,(o0_2,(o0_3,o0_4)))).2.2.1,.int .i64 (o0_0,(o0_1,(o0_2,(o0_3,o0_4)))).2.2.2.1,.imm (.sl y0_) (o0_0,(o0_1,(o0_2,(o0_3,o0_4)))).2.2.2.2]),(1,.rc [.imm y0_ (o1_0,o1_1).1,.imm y4_ (o1_0,o1_1).2]),(2,.rc [.own 10003001 false]),(10003000,.sl 3 y0_ cells3 .shallow),(10003001,.sl 89 y6_ r3_.2 (.deep true .no))]))) (f:=Zct sizes r3_) (K:=(LK J1 (fun r=>k (.tup []) [(0,.rc [.int .i64 o0_0,.imm y0_ o0_1,.imm y0_ o0_2,.int .i64 o0_3,.imm (.sl y0_) o0_4]),(1,.rc [.imm y0_ o1_0,.imm y4_ o1_1]),(2,.rc [.own 900 false]),(900,.sl 89 y6_ r (.deep true .no))]))) he (Za [(10003000,10000000),(10003001,13900)] rfl rfl ⟨⟨rfl,.inl rfl,.inl rfl,rfl,.inl rfl,Y1⟩,⟨.inl rfl,.inl rfl,Y1⟩,⟨Y3,Y1⟩,Y2,Y2,Y1⟩ ⟨.inl rfl,⟨rfl,⟨Y2,⟨Y2,Y3⟩⟩⟩,Y3,rfl,Y1⟩) ?_
   rintro⟨i2,cells3⟩ J2 he
   refine And.intro (by kernel_rfl) ?_
   refine Zh he (fun he=>?_) fun he=>?_
   ·refine Zc he fun he=>?_
    refine Zc he fun he=>?_
    refine Zh he (fun he=>?_) fun he=>?_
    ·refine Zc he fun he=>?_
     refine Zc he fun he=>?_
     have he:=Zb he
     exact⟨((i2 - (1:Int)),(cells3.set i2.toNat (0:Int))),he,(Za [] rfl rfl ⟨⟨rfl,.inl rfl,.inl rfl,rfl,.inl rfl,Y1⟩,⟨.inl rfl,.inl rfl,Y1⟩,⟨Y3,Y1⟩,Y2,Y2,Y1⟩ ⟨.inl rfl,⟨rfl,⟨Y2,⟨Y2,Y3⟩⟩⟩,Y3,rfl,Y1⟩)⟩
    ·exact⟨(i2,cells3),ZbH he,(Za [(10004000,10003000),(10004001,10003001)] rfl rfl ⟨⟨rfl,.inl rfl,.inl rfl,rfl,.inl rfl,Y1⟩,⟨.inl rfl,.inl rfl,Y1⟩,⟨Y3,Y1⟩,Y2,Y2,Y1⟩ ⟨.inl rfl,⟨rfl,⟨Y2,⟨Y2,Y3⟩⟩⟩,Y3,rfl,Y1⟩)⟩
   ·exact⟨(i2,cells3),ZbH he,(Za [(10004000,10003000),(10004001,10003001)] rfl rfl ⟨⟨rfl,.inl rfl,.inl rfl,rfl,.inl rfl,Y1⟩,⟨.inl rfl,.inl rfl,Y1⟩,⟨Y3,Y1⟩,Y2,Y2,Y1⟩ ⟨.inl rfl,⟨rfl,⟨Y2,⟨Y2,Y3⟩⟩⟩,Y3,rfl,Y1⟩)⟩
 ·have he:=Zb he
  exact⟨rfl,_,_,(Za [(900,13900)] (l:=[]) (st':=[(0,.rc [.int .i64 o0_0,.imm y0_ o0_1,.imm y0_ o0_2,.int .i64 o0_3,.imm (.sl y0_) o0_4]),(1,.rc [.imm y0_ o1_0,.imm y4_ o1_1]),(2,.rc [.own 900 false]),(900,.sl 89 y6_ r3_.2 (.deep true .no))]) rfl rfl ⟨⟨rfl,.inl rfl,.inl rfl,rfl,.inl rfl,Y1⟩,⟨.inl rfl,.inl rfl,Y1⟩,⟨Y3,Y1⟩,Y2,Y1⟩ Y1),he⟩
def Zg8:Con:=fun args st=>match args,st with
  |[.agg [.imm (.int .i64) a0_0,.imm (.pair (.int .i64) (.pair (.sl (.int .i64)) (.pair (.sl (.int .i64)) (.pair (.int .i64) (.sl (.sl (.int .i64))))))) a0_1],.agg [.int .i64 a1_0,.imm (.int .i64) a1_1,.imm (.int .i64) a1_2,.int .i64 a1_3,.imm (.sl (.int .i64)) a1_4]],[]=>.opt ((List D6_)) (Zbk (a0_0,a0_1) (a1_0,(a1_1,(a1_2,(a1_3,a1_4))))) (fun r=>.ret (.c (.own 900 false)) [(900,.sl 89 y6_ r (.deep true .no))])
  |_,_=>.fail
def Zg5:Cfg:={ y:=tys,n:=128,h:=0,tab:=[(72,ZcG),(120,ZiF),(128,Zdp),(129,Zmh),(182,ZpS)],cut:=[14,27,38],hand:=[(182,[0])],good:=[],deep:=[65,101],sched:=[(11,(.first 0 (.first 1 (.first 3 (.first 6 (.first 9 (.first 10 (.alt 2 (.first 4 (.first 5 (.first 7 (.alt 8 (.alt 11 (.alt 12 (.alt 13 (.alt 14 (.first 15 .done) .stop) .stop) .stop) .stop) .stop)))) (.alt 8 (.alt 2 (.first 4 (.first 5 (.first 7 (.alt 11 (.alt 12 (.alt 13 (.alt 14 (.first 15 .done) .stop) .stop) .stop) .stop)))) (.alt 11 (.alt 2 (.first 4 (.first 5 (.first 7 (.alt 12 (.alt 13 (.alt 14 (.first 15 .done) .stop) .stop) .stop)))) .stop) .stop)) .stop))))))))),(29,(.first 1 (.alt 0 (.alt 2 (.alt 3 (.alt 4 (.alt 5 .done .stop) .stop) .stop) .stop) (.alt 2 (.alt 0 (.alt 3 (.alt 4 (.alt 5 .done .stop) .stop) .stop) (.alt 3 (.alt 0 (.alt 4 (.alt 5 .done .stop) .stop) .stop) .stop)) .stop))))] }
theorem Zbm:Zs Tryz.prog Zg5:=by
  refine Zn ?_
  simp only[Zg5,List.forall_mem_cons]
  exact⟨Zie,Zqp,Zf0,Ztd,Zvb,fun p h=>by cases h⟩
theorem ZqP:Zq Tryz.prog 121 Zg8:=by
 refine Zm (C:=Zg5) mixed Ze Zbm (fn:=Tryz.f121) (c:=bd Tryz.f121) (by kernel_rfl) (by kernel_rfl) (by kernel_rfl) (by kernel_rfl) ?_
 intro args st k he
 unfold Zg8 at he
 split at he
 rotate_left
 ·exact he.elim
 rename_i a0_0 a0_1 a1_0 a1_1 a1_2 a1_3 a1_4
 have he:Ok (Zbk (a0_0,a0_1) (a1_0,(a1_1,(a1_2,(a1_3,a1_4))))) (fun r=>k (.c (.own 900 false)) [(900,.sl 89 y6_ r (.deep true .no))]):=he
 refine⟨rfl,rfl,?_⟩
 refine Zh he (fun he=>?_) fun he=>?_
 ·refine Zt mixed Ze Zbm (S:=(List D5_)) (I:=(fun i6=>(Zo [(3,.c (.ptr 10003000 0)),(6,.c (.own 10003001 false))],[(10003000,.rc [.int .i64 (a1_0,(a1_1,(a1_2,(a1_3,a1_4)))).1,.imm y0_ (a1_0,(a1_1,(a1_2,(a1_3,a1_4)))).2.1,.imm y0_ (a1_0,(a1_1,(a1_2,(a1_3,a1_4)))).2.2.1,.int .i64 (a1_0,(a1_1,(a1_2,(a1_3,a1_4)))).2.2.2.1,.imm (.sl y0_) (a1_0,(a1_1,(a1_2,(a1_3,a1_4)))).2.2.2.2]),(10003001,.sl 155 y5_ i6 .shallow)]))) (B:=fun s=>Ok (Zef (a1_0,(a1_1,(a1_2,(a1_3,a1_4)))) s) (fun r=>k (.c (.own 900 false)) [(900,.sl 89 y6_ r (.deep true .no))])) ?_ ?_
  ·rintro i6 he
   refine Zk he fun r6_ he=>?_
   have he:=Zb he
   exact⟨rfl,_,_,(Za [(900,65)] (l:=[(4,.c (.own 900 false))]) (st':=[(900,.sl 89 y6_ [(r6_.2.2,r6_.2.1)] (.deep true .no))]) rfl rfl Y3 ⟨Y3,Y1⟩),he⟩
  ·skip
   refine Zl mixed Ze Zbm (S:=Int×(List D5_)) (I:=(fun (i,i3)=>(Zo [(2,.c (.ptr 10000000 0)),(3,.c (.ptr 10000001 0)),(6,.c (.own 10000002 false)),(24,.c (.imm y0_ (a1_0,(a1_1,(a1_2,(a1_3,a1_4)))).2.1)),(25,.c (.int .i64 ((a1_0,(a1_1,(a1_2,(a1_3,a1_4)))).2.1.length:Int))),(26,.c (.int .i64 i))],[(10000000,.rc [.imm y0_ (a0_0,a0_1).1,.imm y4_ (a0_0,a0_1).2]),(10000001,.rc [.int .i64 (a1_0,(a1_1,(a1_2,(a1_3,a1_4)))).1,.imm y0_ (a1_0,(a1_1,(a1_2,(a1_3,a1_4)))).2.1,.imm y0_ (a1_0,(a1_1,(a1_2,(a1_3,a1_4)))).2.2.1,.int .i64 (a1_0,(a1_1,(a1_2,(a1_3,a1_4)))).2.2.2.1,.imm (.sl y0_) (a1_0,(a1_1,(a1_2,(a1_3,a1_4)))).2.2.2.2]),(10000002,.sl 155 y5_ i3 .shallow)]))) (f:=Zgs (a0_0,a0_1) (a1_0,(a1_1,(a1_2,(a1_3,a1_4))))) (K:=(fun r=>k (.c (.own 900 false)) [(900,.sl 89 y6_ r (.deep true .no))])) he (Za [(10000000,2),(10000001,3)] rfl rfl ⟨⟨.inl rfl,.inl rfl,Y1⟩,⟨rfl,.inl rfl,.inl rfl,rfl,.inl rfl,Y1⟩,Y1,Y1⟩ ⟨⟨Y2,rfl⟩,⟨Y2,rfl⟩,⟨rfl,Y1⟩,.inl rfl,rfl,rfl,Y1⟩) ?_
   rintro⟨i,i3⟩ J1 he
   refine Zh he (fun he=>?_) fun he=>?_
   ·refine Zc he fun he=>?_
    refine Zc he fun he=>?_
    refine Zc he fun he=>?_
    refine Zl mixed Ze Zbm (S:=Int×(List D5_)) (I:=(fun (i4,i5)=>(Zo [(2,.c (.ptr 10002000 0)),(3,.c (.ptr 10002001 0)),(6,.c (.own 10002002 false)),(7,.c (.int .i64 i)),(8,.c (.int .i64 ((a1_0,(a1_1,(a1_2,(a1_3,a1_4)))).2.1.getD i.toNat 0))),(24,.c (.imm y0_ (a1_0,(a1_1,(a1_2,(a1_3,a1_4)))).2.1)),(25,.c (.int .i64 ((a1_0,(a1_1,(a1_2,(a1_3,a1_4)))).2.1.length:Int))),(26,.c (.int .i64 i)),(36,.c (.int .i64 (((a0_0,a0_1).1.getD ((a1_0,(a1_1,(a1_2,(a1_3,a1_4)))).2.1.getD i.toNat 0).toNat 0)+(1:Int)))),(37,.c (.int .i64 i4))],[(10002000,.rc [.imm y0_ (a0_0,a0_1).1,.imm y4_ (a0_0,a0_1).2]),(10002001,.rc [.int .i64 (a1_0,(a1_1,(a1_2,(a1_3,a1_4)))).1,.imm y0_ (a1_0,(a1_1,(a1_2,(a1_3,a1_4)))).2.1,.imm y0_ (a1_0,(a1_1,(a1_2,(a1_3,a1_4)))).2.2.1,.int .i64 (a1_0,(a1_1,(a1_2,(a1_3,a1_4)))).2.2.2.1,.imm (.sl y0_) (a1_0,(a1_1,(a1_2,(a1_3,a1_4)))).2.2.2.2]),(10002002,.sl 155 y5_ i5 .shallow)]))) (f:=ZcK (a0_0,a0_1) (a1_0,(a1_1,(a1_2,(a1_3,a1_4)))) i) (K:=(LK J1 (fun r=>k (.c (.own 900 false)) [(900,.sl 89 y6_ r (.deep true .no))]))) he (Za [(10002000,10000000),(10002001,10000001),(10002002,10000002)] rfl rfl ⟨⟨.inl rfl,.inl rfl,Y1⟩,⟨rfl,.inl rfl,.inl rfl,rfl,.inl rfl,Y1⟩,Y2,Y1⟩ ⟨⟨Y2,rfl⟩,⟨Y2,rfl⟩,Y3,rfl,rfl,.inl rfl,rfl,rfl,rfl,rfl,Y1⟩) ?_
    rintro⟨i4,i5⟩ J2 he
    refine Zh he (fun he=>?_) fun he=>?_
    ·refine And.intro (by kernel_rfl) ?_
     have he:=ZU he
     have hq1:=he.1
     have he:=he.2
     have he:=ZU he
     have hq2:=he.1
     have he:=he.2
     obtain⟨r5_,hq3,he⟩:=Zb1 he
     have he:=ZU he
     have hq4:=he.1
     have he:=he.2
     refine Y5 ?_ ?_
     ·skip
      refine And.intro hq1 ?_
      refine And.intro hq2 ?_
      refine Y4 ?_
      refine Y4 ?_
      refine⟨r5_,hq3,?_⟩
      refine Y4 ?_
      refine Y4 ?_
      refine Y4 ?_
      refine And.intro hq4 ?_
      refine Zc he fun he=>?_
      have he:=Zb he
      exact⟨((i4+(1:Int)),(i5++[((((a1_0,(a1_1,(a1_2,(a1_3,a1_4)))).2.2.1.getD i.toNat 0)*i4),r5_)])),he,(Za [(10002002,54)] rfl rfl ⟨⟨.inl rfl,.inl rfl,Y1⟩,⟨rfl,.inl rfl,.inl rfl,rfl,.inl rfl,Y1⟩,Y2,Y1⟩ ⟨⟨Y2,rfl⟩,⟨Y2,rfl⟩,Y3,rfl,rfl,.inl rfl,rfl,rfl,rfl,rfl,Y1⟩)⟩
     ·skip
      refine Y5 ?_ ?_
      ·skip
       refine And.intro hq1 ?_
       refine And.intro hq2 ?_
       refine Y4 ?_
       refine⟨r5_,hq3,?_⟩
       refine Y4 ?_
       refine Y4 ?_
       refine Y4 ?_
       refine And.intro hq4 ?_
       refine Zc he fun he=>?_
       have he:=Zb he
       exact⟨((i4+(1:Int)),(i5++[((((a1_0,(a1_1,(a1_2,(a1_3,a1_4)))).2.2.1.getD i.toNat 0)*i4),r5_)])),he,(Za [(10002002,54)] rfl rfl ⟨⟨.inl rfl,.inl rfl,Y1⟩,⟨rfl,.inl rfl,.inl rfl,rfl,.inl rfl,Y1⟩,Y2,Y1⟩ ⟨⟨Y2,rfl⟩,⟨Y2,rfl⟩,Y3,rfl,rfl,.inl rfl,rfl,rfl,rfl,rfl,Y1⟩)⟩
      ·skip
       refine⟨r5_,hq3,?_⟩
       refine Y4 ?_
       refine And.intro hq1 ?_
       refine And.intro hq2 ?_
       refine Y4 ?_
       refine Y4 ?_
       refine Y4 ?_
       refine And.intro hq4 ?_
       refine Zc he fun he=>?_
       have he:=Zb he
       exact⟨((i4+(1:Int)),(i5++[((((a1_0,(a1_1,(a1_2,(a1_3,a1_4)))).2.2.1.getD i.toNat 0)*i4),r5_)])),he,(Za [(10002002,54)] rfl rfl ⟨⟨.inl rfl,.inl rfl,Y1⟩,⟨rfl,.inl rfl,.inl rfl,rfl,.inl rfl,Y1⟩,Y2,Y1⟩ ⟨⟨Y2,rfl⟩,⟨Y2,rfl⟩,Y3,rfl,rfl,.inl rfl,rfl,rfl,rfl,rfl,Y1⟩)⟩
    ·refine Zc he fun he=>?_
     have he:=Zb he
     exact⟨((i+(1:Int)),i5),he,(Za [(10000000,10002000),(10000001,10002001),(10000002,10002002)] rfl rfl ⟨⟨.inl rfl,.inl rfl,Y1⟩,⟨rfl,.inl rfl,.inl rfl,rfl,.inl rfl,Y1⟩,Y2,Y1⟩ ⟨⟨Y2,rfl⟩,⟨Y2,rfl⟩,Y3,.inl rfl,rfl,rfl,Y1⟩)⟩
   ·exact⟨i3,ZbH he,(Za [(10003000,10000001),(10003001,10000002)] rfl rfl ⟨⟨rfl,.inl rfl,.inl rfl,rfl,.inl rfl,Y1⟩,Y2,Y1⟩ ⟨⟨Y2,rfl⟩,Y3,Y1⟩)⟩
 ·refine Zh he (fun he=>?_) fun he=>?_
  ·refine Zl mixed Ze Zbm (S:=Int×(List D6_)) (I:=(fun (i7,i11)=>(Zo [(2,.c (.ptr 10004000 0)),(3,.c (.ptr 10004001 0)),(5,.c (.ptr 10004002 0)),(68,.c (.int .i64 i7))],[(10004000,.rc [.imm y0_ (a0_0,a0_1).1,.imm y4_ (a0_0,a0_1).2]),(10004001,.rc [.int .i64 (a1_0,(a1_1,(a1_2,(a1_3,a1_4)))).1,.imm y0_ (a1_0,(a1_1,(a1_2,(a1_3,a1_4)))).2.1,.imm y0_ (a1_0,(a1_1,(a1_2,(a1_3,a1_4)))).2.2.1,.int .i64 (a1_0,(a1_1,(a1_2,(a1_3,a1_4)))).2.2.2.1,.imm (.sl y0_) (a1_0,(a1_1,(a1_2,(a1_3,a1_4)))).2.2.2.2]),(10004002,.rc [.own 10004003 false]),(10004003,.sl 89 y6_ i11 (.deep true .no))]))) (f:=Zgt (a0_0,a0_1) (a1_0,(a1_1,(a1_2,(a1_3,a1_4))))) (K:=(fun r=>k (.c (.own 900 false)) [(900,.sl 89 y6_ r (.deep true .no))])) he (Za [(10004000,2),(10004001,3),(10004002,5)] rfl rfl ⟨⟨.inl rfl,.inl rfl,Y1⟩,⟨rfl,.inl rfl,.inl rfl,rfl,.inl rfl,Y1⟩,⟨⟨rfl,Y1⟩,Y1⟩,Y1,Y1⟩ ⟨⟨Y2,rfl⟩,⟨Y2,rfl⟩,⟨Y2,rfl⟩,rfl,Y1⟩) ?_
   rintro⟨i7,i11⟩ J1 he
   refine Zh he (fun he=>?_) fun he=>?_
   ·refine Zt mixed Ze Zbm (S:=(List Int)) (I:=(fun i14=>(Zo [(2,.c (.ptr 10008000 0)),(3,.c (.ptr 10008001 0)),(5,.c (.ptr 10008002 0)),(13,.c (.own 10008003 false)),(68,.c (.int .i64 i7))],[(10008000,.rc [.imm y0_ (a0_0,a0_1).1,.imm y4_ (a0_0,a0_1).2]),(10008001,.rc [.int .i64 (a1_0,(a1_1,(a1_2,(a1_3,a1_4)))).1,.imm y0_ (a1_0,(a1_1,(a1_2,(a1_3,a1_4)))).2.1,.imm y0_ (a1_0,(a1_1,(a1_2,(a1_3,a1_4)))).2.2.1,.int .i64 (a1_0,(a1_1,(a1_2,(a1_3,a1_4)))).2.2.2.1,.imm (.sl y0_) (a1_0,(a1_1,(a1_2,(a1_3,a1_4)))).2.2.2.2]),(10008002,.rc [.own 10008004 false]),(10008003,.sl 3 y0_ i14 .shallow),(10008004,.sl 89 y6_ i11 (.deep true .no))]))) (B:=fun s=>Ok (Zdg i7 i11 s) (LK J1 (fun r=>k (.c (.own 900 false)) [(900,.sl 89 y6_ r (.deep true .no))]))) ?_ ?_
    ·rintro i14 he
     refine Zh he (fun he=>?_) fun he=>?_
     ·refine Zk he fun r14_ he=>?_
      refine And.intro (by kernel_rfl) ?_
      obtain⟨r15_,hq1,he⟩:=Zb1 he
      have he:=ZU he
      have hq2:=he.1
      have he:=he.2
      refine Y5 ?_ ?_
      ·skip
       refine Y4 ?_
       refine⟨r15_,hq1,?_⟩
       refine Y4 ?_
       refine Y4 ?_
       refine And.intro hq2 ?_
       refine Y4 ?_
       refine Zc he fun he=>?_
       have he:=Zb he
       exact⟨((i7+(1:Int)),(i11++[(r15_.2,r15_.1)])),he,(Za [(10004000,10008000),(10004001,10008001),(10004002,10008002),(10004003,102)] rfl rfl ⟨⟨.inl rfl,.inl rfl,Y1⟩,⟨rfl,.inl rfl,.inl rfl,rfl,.inl rfl,Y1⟩,⟨Y3,Y1⟩,Y2,Y1⟩ ⟨⟨Y2,rfl⟩,⟨Y2,rfl⟩,⟨Y2,rfl⟩,rfl,Y1⟩)⟩
      ·skip
       refine⟨r15_,hq1,?_⟩
       refine Y5 ?_ ?_
       ·skip
        refine Y4 ?_
        refine Y4 ?_
        refine And.intro hq2 ?_
        refine Y4 ?_
        refine Zc he fun he=>?_
        have he:=Zb he
        exact⟨((i7+(1:Int)),(i11++[(r15_.2,r15_.1)])),he,(Za [(10004000,10008000),(10004001,10008001),(10004002,10008002),(10004003,102)] rfl rfl ⟨⟨.inl rfl,.inl rfl,Y1⟩,⟨rfl,.inl rfl,.inl rfl,rfl,.inl rfl,Y1⟩,⟨Y3,Y1⟩,Y2,Y1⟩ ⟨⟨Y2,rfl⟩,⟨Y2,rfl⟩,⟨Y2,rfl⟩,rfl,Y1⟩)⟩
       ·skip
        refine Y4 ?_
        refine Y4 ?_
        refine And.intro hq2 ?_
        refine Y4 ?_
        refine Zc he fun he=>?_
        have he:=Zb he
        exact⟨((i7+(1:Int)),(i11++[(r15_.2,r15_.1)])),he,(Za [(10004000,10008000),(10004001,10008001),(10004002,10008002),(10004003,102)] rfl rfl ⟨⟨.inl rfl,.inl rfl,Y1⟩,⟨rfl,.inl rfl,.inl rfl,rfl,.inl rfl,Y1⟩,⟨Y3,Y1⟩,Y2,Y1⟩ ⟨⟨Y2,rfl⟩,⟨Y2,rfl⟩,⟨Y2,rfl⟩,rfl,Y1⟩)⟩
     ·refine Zc he fun he=>?_
      have he:=Zb he
      exact⟨((i7+(1:Int)),i11),he,(Za [(10004000,10008000),(10004001,10008001),(10004002,10008002),(10004003,10008004)] rfl rfl ⟨⟨.inl rfl,.inl rfl,Y1⟩,⟨rfl,.inl rfl,.inl rfl,rfl,.inl rfl,Y1⟩,⟨Y3,Y1⟩,Y2,Y1⟩ ⟨⟨Y2,rfl⟩,⟨Y2,rfl⟩,⟨Y2,rfl⟩,rfl,Y1⟩)⟩
    ·skip
     refine Zl mixed Ze Zbm (S:=Int×(List Int)) (I:=(fun (i12,i13)=>(Zo [(2,.c (.ptr 10007000 0)),(3,.c (.ptr 10007001 0)),(5,.c (.ptr 10007002 0)),(12,.c (.int .i64 i7)),(13,.c (.own 10007003 false)),(68,.c (.int .i64 i7)),(72,.c (.imm y0_ (a1_0,(a1_1,(a1_2,(a1_3,a1_4)))).2.1)),(73,.c (.int .i64 ((a1_0,(a1_1,(a1_2,(a1_3,a1_4)))).2.1.length:Int))),(74,.c (.int .i64 i12))],[(10007000,.rc [.imm y0_ (a0_0,a0_1).1,.imm y4_ (a0_0,a0_1).2]),(10007001,.rc [.int .i64 (a1_0,(a1_1,(a1_2,(a1_3,a1_4)))).1,.imm y0_ (a1_0,(a1_1,(a1_2,(a1_3,a1_4)))).2.1,.imm y0_ (a1_0,(a1_1,(a1_2,(a1_3,a1_4)))).2.2.1,.int .i64 (a1_0,(a1_1,(a1_2,(a1_3,a1_4)))).2.2.2.1,.imm (.sl y0_) (a1_0,(a1_1,(a1_2,(a1_3,a1_4)))).2.2.2.2]),(10007002,.rc [.own 10007004 false]),(10007003,.sl 3 y0_ i13 .shallow),(10007004,.sl 89 y6_ i11 (.deep true .no))]))) (f:=Zdi (a0_0,a0_1) (a1_0,(a1_1,(a1_2,(a1_3,a1_4)))) i7 i11) (K:=(LK J1 (fun r=>k (.c (.own 900 false)) [(900,.sl 89 y6_ r (.deep true .no))]))) he (Za [(10007000,10004000),(10007001,10004001),(10007002,10004002),(10007004,10004003)] rfl rfl ⟨⟨.inl rfl,.inl rfl,Y1⟩,⟨rfl,.inl rfl,.inl rfl,rfl,.inl rfl,Y1⟩,⟨Y3,Y1⟩,Y1,Y2,Y1⟩ ⟨⟨Y2,rfl⟩,⟨Y2,rfl⟩,⟨Y2,rfl⟩,rfl,⟨rfl,Y1⟩,rfl,.inl rfl,rfl,rfl,Y1⟩) ?_
     rintro⟨i12,i13⟩ J2 he
     refine Zh he (fun he=>?_) fun he=>?_
     ·refine Zc he fun he=>?_
      refine Zc he fun he=>?_
      refine Zh he (fun he=>?_) fun he=>?_
      ·refine Zk he fun r13_ he=>?_
       refine Zc he fun he=>?_
       refine Zc he fun he=>?_
       have he:=Zb he
       exact⟨((i12+(1:Int)),(i13++[r13_])),he,(Za [(10007003,91)] rfl rfl ⟨⟨.inl rfl,.inl rfl,Y1⟩,⟨rfl,.inl rfl,.inl rfl,rfl,.inl rfl,Y1⟩,⟨Y3,Y1⟩,Y2,Y2,Y1⟩ ⟨⟨Y2,rfl⟩,⟨Y2,rfl⟩,⟨Y2,rfl⟩,rfl,Y3,rfl,.inl rfl,rfl,rfl,Y1⟩)⟩
      ·refine Zc he fun he=>?_
       have he:=Zb he
       exact⟨((i12+(1:Int)),i13),he,(Za [] rfl rfl ⟨⟨.inl rfl,.inl rfl,Y1⟩,⟨rfl,.inl rfl,.inl rfl,rfl,.inl rfl,Y1⟩,⟨Y3,Y1⟩,Y2,Y2,Y1⟩ ⟨⟨Y2,rfl⟩,⟨Y2,rfl⟩,⟨Y2,rfl⟩,rfl,Y3,rfl,.inl rfl,rfl,rfl,Y1⟩)⟩
     ·exact⟨i13,ZbH he,(Za [(10008000,10007000),(10008001,10007001),(10008002,10007002),(10008003,10007003),(10008004,10007004)] rfl rfl ⟨⟨.inl rfl,.inl rfl,Y1⟩,⟨rfl,.inl rfl,.inl rfl,rfl,.inl rfl,Y1⟩,⟨Y3,Y1⟩,Y2,Y2,Y1⟩ ⟨⟨Y2,rfl⟩,⟨Y2,rfl⟩,⟨Y2,rfl⟩,Y3,rfl,Y1⟩)⟩
   ·have he:=Zb he
    exact⟨rfl,_,_,(Za [(900,10004003)] (l:=[(4,.c (.own 900 false))]) (st':=[(900,.sl 89 y6_ i11 (.deep true .no))]) rfl rfl Y3 ⟨Y3,Y1⟩),he⟩
  ·refine Zt mixed Ze Zbm (S:=(List Int)) (I:=(fun i17=>(Zo [(2,.c (.ptr 10010000 0)),(3,.c (.ptr 10010001 0)),(5,.c (.ptr 10010002 0)),(16,.c (.own 10010003 false))],[(10010000,.rc [.imm y0_ (a0_0,a0_1).1,.imm y4_ (a0_0,a0_1).2]),(10010001,.rc [.int .i64 (a1_0,(a1_1,(a1_2,(a1_3,a1_4)))).1,.imm y0_ (a1_0,(a1_1,(a1_2,(a1_3,a1_4)))).2.1,.imm y0_ (a1_0,(a1_1,(a1_2,(a1_3,a1_4)))).2.2.1,.int .i64 (a1_0,(a1_1,(a1_2,(a1_3,a1_4)))).2.2.2.1,.imm (.sl y0_) (a1_0,(a1_1,(a1_2,(a1_3,a1_4)))).2.2.2.2]),(10010002,.rc [.nil]),(10010003,.sl 3 y0_ i17 .shallow)]))) (B:=fun s=>Ok (Zdh (a0_0,a0_1) (a1_0,(a1_1,(a1_2,(a1_3,a1_4)))) s) (fun r=>k (.c (.own 900 false)) [(900,.sl 89 y6_ r (.deep true .no))])) ?_ ?_
   ·rintro i17 he
    refine Zc he fun he=>?_
    refine Zk he fun r16_ he=>?_
    have he:=Zb he
    exact⟨rfl,_,_,(Za [(900,127900)] (l:=[(4,.c (.own 900 false))]) (st':=[(900,.sl 89 y6_ r16_ (.deep true .no))]) rfl rfl Y3 ⟨Y3,Y1⟩),he⟩
   ·skip
    refine Zl mixed Ze Zbm (S:=Int×(List Int)) (I:=(fun (i15,i16)=>(Zo [(2,.c (.ptr 10009000 0)),(3,.c (.ptr 10009001 0)),(5,.c (.ptr 10009002 0)),(16,.c (.own 10009003 false)),(106,.c (.imm y0_ (a1_0,(a1_1,(a1_2,(a1_3,a1_4)))).2.1)),(107,.c (.int .i64 ((a1_0,(a1_1,(a1_2,(a1_3,a1_4)))).2.1.length:Int))),(108,.c (.int .i64 i15))],[(10009000,.rc [.imm y0_ (a0_0,a0_1).1,.imm y4_ (a0_0,a0_1).2]),(10009001,.rc [.int .i64 (a1_0,(a1_1,(a1_2,(a1_3,a1_4)))).1,.imm y0_ (a1_0,(a1_1,(a1_2,(a1_3,a1_4)))).2.1,.imm y0_ (a1_0,(a1_1,(a1_2,(a1_3,a1_4)))).2.2.1,.int .i64 (a1_0,(a1_1,(a1_2,(a1_3,a1_4)))).2.2.2.1,.imm (.sl y0_) (a1_0,(a1_1,(a1_2,(a1_3,a1_4)))).2.2.2.2]),(10009002,.rc [.nil]),(10009003,.sl 3 y0_ i16 .shallow)]))) (f:=Zdj (a0_0,a0_1) (a1_0,(a1_1,(a1_2,(a1_3,a1_4))))) (K:=(fun r=>k (.c (.own 900 false)) [(900,.sl 89 y6_ r (.deep true .no))])) he (Za [(10009000,2),(10009001,3),(10009002,5)] rfl rfl ⟨⟨.inl rfl,.inl rfl,Y1⟩,⟨rfl,.inl rfl,.inl rfl,rfl,.inl rfl,Y1⟩,⟨rfl,Y1⟩,Y1,Y1⟩ ⟨⟨Y2,rfl⟩,⟨Y2,rfl⟩,⟨Y2,rfl⟩,⟨rfl,Y1⟩,.inl rfl,rfl,rfl,Y1⟩) ?_
    rintro⟨i15,i16⟩ J1 he
    refine Zh he (fun he=>?_) fun he=>?_
    ·refine Zc he fun he=>?_
     refine Zc he fun he=>?_
     refine Zc he fun he=>?_
     refine Zc he fun he=>?_
     have he:=Zb he
     exact⟨((i15+(1:Int)),(i16++[((a0_0,a0_1).1.getD ((a1_0,(a1_1,(a1_2,(a1_3,a1_4)))).2.1.getD i15.toNat 0).toNat 0)])),he,(Za [(10009003,119)] rfl rfl ⟨⟨.inl rfl,.inl rfl,Y1⟩,⟨rfl,.inl rfl,.inl rfl,rfl,.inl rfl,Y1⟩,⟨rfl,Y1⟩,Y2,Y1⟩ ⟨⟨Y2,rfl⟩,⟨Y2,rfl⟩,⟨Y2,rfl⟩,Y3,.inl rfl,rfl,rfl,Y1⟩)⟩
    ·exact⟨i16,ZbH he,(Za [(10010000,10009000),(10010001,10009001),(10010002,10009002),(10010003,10009003)] rfl rfl ⟨⟨.inl rfl,.inl rfl,Y1⟩,⟨rfl,.inl rfl,.inl rfl,rfl,.inl rfl,Y1⟩,⟨rfl,Y1⟩,Y2,Y1⟩ ⟨⟨Y2,rfl⟩,⟨Y2,rfl⟩,⟨Y2,rfl⟩,Y3,Y1⟩)⟩
def ZkF:Con:=fun args st=>match args,st with
  |[.agg [.imm (.int .i64) m_0,.imm (.pair (.int .i64) (.pair (.sl (.int .i64)) (.pair (.sl (.int .i64)) (.pair (.int .i64) (.sl (.sl (.int .i64))))))) m_1]],[]=>.opt (Bool×(List D6_)) (Zgr (m_0,m_1)) (fun r=>.ret (.tup [.c (.own 900 false),.c (.bool r.1)]) [(900,.sl 89 y6_ r.2 (.deep true .no))])
  |_,_=>.fail
def Zku:Cfg:={ y:=tys,n:=52,h:=0,tab:=[(71,ZfD),(118,ZgM),(119,Zhn),(120,ZiF),(121,Zg8)],cut:=[11,16],hand:=[],good:=[],deep:=[32],sched:=[(9,(.first 0 (.first 2 (.alt 1 (.alt 3 (.alt 4 (.alt 5 (.first 6 .done) .stop) .stop) .stop) (.alt 3 (.alt 1 (.alt 4 (.alt 5 (.first 6 .done) .stop) .stop) .stop) .stop)))))] }
theorem Zfl:Zs Tryz.prog Zku:=by
  refine Zn ?_
  simp only[Zku,List.forall_mem_cons]
  exact⟨ZlO,Zn0,ZnF,Zqp,ZqP,fun p h=>by cases h⟩
theorem Zt5:Zq Tryz.prog 48 ZkF:=by
 refine Zm (C:=Zku) mixed Ze Zfl (fn:=Tryz.f48) (c:=bd Tryz.f48) (by kernel_rfl) (by kernel_rfl) (by kernel_rfl) (by kernel_rfl) ?_
 intro args st k he
 unfold ZkF at he
 split at he
 rotate_left
 ·exact he.elim
 rename_i m_0 m_1
 have he:Ok (Zgr (m_0,m_1)) (fun r=>k (.tup [.c (.own 900 false),.c (.bool r.1)]) [(900,.sl 89 y6_ r.2 (.deep true .no))]):=he
 refine⟨rfl,rfl,?_⟩
 refine Zk he fun r1_ he=>?_
 refine Zh he (fun he=>?_) fun he=>?_
 ·have he:=Zb he
  exact⟨rfl,_,_,(Za [] (l:=[(2,.c (.own 900 false)),(3,.c (.bool false))]) (st':=[(900,.sl 89 y6_ ([]:List D6_) (.deep true .no))]) rfl rfl ⟨Y1,Y1⟩ ⟨⟨rfl,Y1⟩,.inr rfl,Y1⟩),he⟩
 ·refine Zt mixed Ze Zfl (S:=(List D6_)) (I:=(fun out1=>(Zo [(1,.c (.ptr 10001000 0)),(4,.c (.own 10001001 false))],[(10001000,.rc [.imm y0_ (m_0,m_1).1,.imm y4_ (m_0,m_1).2]),(10001001,.sl 89 y6_ out1 (.deep true .no))]))) (B:=fun s=>Ok (ZgN (m_0,m_1) s) (fun r=>k (.tup [.c (.own 900 false),.c (.bool r.1)]) [(900,.sl 89 y6_ r.2 (.deep true .no))])) ?_ ?_
  ·rintro out1 he
   refine Zt mixed Ze Zfl (S:=(List D6_)) (I:=(fun out3=>(Zo [(4,.c (.own 10003000 false))],[(10003000,.sl 89 y6_ out3 (.deep true .no))]))) (B:=fun s=>Ok (ZgO s) (fun r=>k (.tup [.c (.own 900 false),.c (.bool r.1)]) [(900,.sl 89 y6_ r.2 (.deep true .no))])) ?_ ?_
   ·rintro out3 he
    refine Zh he (fun he=>?_) fun he=>?_
    ·have he:=Zb he
     exact⟨rfl,_,_,(Za [] (l:=[(2,.c (.own 900 false)),(3,.c (.bool false))]) (st':=[(900,.sl 89 y6_ ([]:List D6_) (.deep true .no))]) rfl rfl ⟨Y1,Y1⟩ ⟨⟨rfl,Y1⟩,.inr rfl,Y1⟩),he⟩
    ·have he:=Zb he
     exact⟨rfl,_,_,(Za [(900,10003000)] (l:=[(2,.c (.own 900 false)),(3,.c (.bool true))]) (st':=[(900,.sl 89 y6_ out3 (.deep true .no))]) rfl rfl Y3 ⟨Y3,.inr rfl,Y1⟩),he⟩
   ·skip
    refine Zl mixed Ze Zfl (S:=Int×(List D6_)) (I:=(fun (i1,out2)=>(Zo [(1,.c (.ptr 10002000 0)),(4,.c (.own 10002001 false)),(36,.c (.imm y4_ (m_0,m_1).2)),(37,.c (.int .i64 ((m_0,m_1).2.length:Int))),(38,.c (.int .i64 i1))],[(10002000,.rc [.imm y0_ (m_0,m_1).1,.imm y4_ (m_0,m_1).2]),(10002001,.sl 89 y6_ out2 (.deep true .no))]))) (f:=ZgP (m_0,m_1)) (K:=(fun r=>k (.tup [.c (.own 900 false),.c (.bool r.1)]) [(900,.sl 89 y6_ r.2 (.deep true .no))])) he (Za [(10002000,10001000),(10002001,10001001)] rfl rfl ⟨⟨.inl rfl,.inl rfl,Y1⟩,Y2,Y1⟩ ⟨⟨Y2,rfl⟩,Y3,.inl rfl,rfl,rfl,Y1⟩) ?_
    rintro⟨i1,out2⟩ J1 he
    refine Zh he (fun he=>?_) fun he=>?_
    ·refine Zc he fun he=>?_
     refine Zk he fun r10_ he=>?_
     refine Zc he fun he=>?_
     refine Zc he fun he=>?_
     have he:=Zb he
     exact⟨((i1+(1:Int)),(out2++r10_)),he,(Za [(10002001,46)] rfl rfl ⟨⟨.inl rfl,.inl rfl,Y1⟩,Y2,Y1⟩ ⟨⟨Y2,rfl⟩,Y3,.inl rfl,rfl,rfl,Y1⟩)⟩
    ·exact⟨out2,ZbH he,(Za [(10003000,10002001)] rfl rfl Y3 ⟨Y3,Y1⟩)⟩
  ·skip
   refine Zl mixed Ze Zfl (S:=Int×(List D6_)) (I:=(fun (i,out)=>(Zo [(1,.c (.ptr 10000000 0)),(4,.c (.own 10000001 false)),(16,.c (.int .i64 ((m_0,m_1).1.length:Int))),(17,.c (.int .i64 i))],[(10000000,.rc [.imm y0_ (m_0,m_1).1,.imm y4_ (m_0,m_1).2]),(10000001,.sl 89 y6_ out (.deep true .no))]))) (f:=ZgQ (m_0,m_1)) (K:=(fun r=>k (.tup [.c (.own 900 false),.c (.bool r.1)]) [(900,.sl 89 y6_ r.2 (.deep true .no))])) he (Za [(10000000,1)] rfl rfl ⟨⟨.inl rfl,.inl rfl,Y1⟩,Y1,Y1⟩ ⟨⟨Y2,rfl⟩,⟨rfl,Y1⟩,rfl,rfl,Y1⟩) ?_
   rintro⟨i,out⟩ J1 he
   refine Zh he (fun he=>?_) fun he=>?_
   ·refine Zk he fun r6_ he=>?_
    refine Zk he fun r7_ he=>?_
    refine And.intro (by kernel_rfl) ?_
    obtain⟨r8_,hq1,he⟩:=Zb1 he
    have he:=ZU he
    have hq2:=he.1
    have he:=he.2
    refine Y5 ?_ ?_
    ·skip
     refine Y4 ?_
     refine⟨r8_,hq1,?_⟩
     refine Y4 ?_
     refine Y4 ?_
     refine And.intro hq2 ?_
     refine Zc he fun he=>?_
     have he:=Zb he
     exact⟨((i+(1:Int)),(out++[(r7_.2.2,r7_.2.1),(r8_.2,r8_.1)])),he,(Za [(10000001,33)] rfl rfl ⟨⟨.inl rfl,.inl rfl,Y1⟩,Y2,Y1⟩ ⟨⟨Y2,rfl⟩,Y3,rfl,rfl,Y1⟩)⟩
    ·skip
     refine⟨r8_,hq1,?_⟩
     refine Y4 ?_
     refine Y4 ?_
     refine Y4 ?_
     refine And.intro hq2 ?_
     refine Zc he fun he=>?_
     have he:=Zb he
     exact⟨((i+(1:Int)),(out++[(r7_.2.2,r7_.2.1),(r8_.2,r8_.1)])),he,(Za [(10000001,33)] rfl rfl ⟨⟨.inl rfl,.inl rfl,Y1⟩,Y2,Y1⟩ ⟨⟨Y2,rfl⟩,Y3,rfl,rfl,Y1⟩)⟩
   ·exact⟨out,ZbH he,(Za [(10001000,10000000),(10001001,10000001)] rfl rfl ⟨⟨.inl rfl,.inl rfl,Y1⟩,Y2,Y1⟩ ⟨⟨Y2,rfl⟩,Y3,Y1⟩)⟩
def Zop:Con:=fun args st=>match args,st with
  |[.agg [.imm (.int .i64) m_0,.imm (.pair (.int .i64) (.pair (.sl (.int .i64)) (.pair (.sl (.int .i64)) (.pair (.int .i64) (.sl (.sl (.int .i64))))))) m_1]],[]=>.opt (Bool×(List D6_)) (ZnD (m_0,m_1)) (fun r=>.ret (.tup [.c (.own 900 false),.c (.bool r.1)]) [(900,.sl 89 y6_ r.2 (.deep true .no))])
  |_,_=>.fail
def Zn8:Cfg:={ y:=tys,n:=18,h:=0,tab:=[(48,ZkF)],cut:=[],hand:=[],good:=[],deep:=[],sched:=[] }
theorem ZxW:Zs Tryz.prog Zn8:=by
  refine Zn ?_
  simp only[Zn8,List.forall_mem_cons]
  exact⟨Zt5,fun p h=>by cases h⟩
theorem Zxj:Zq Tryz.prog 55 Zop:=by
 refine Zm (C:=Zn8) mixed Ze ZxW (fn:=Tryz.f55) (c:=bd Tryz.f55) (by kernel_rfl) (by kernel_rfl) (by kernel_rfl) (by kernel_rfl) ?_
 intro args st k he
 unfold Zop at he
 split at he
 rotate_left
 ·exact he.elim
 rename_i m_0 m_1
 have he:Ok (ZnD (m_0,m_1)) (fun r=>k (.tup [.c (.own 900 false),.c (.bool r.1)]) [(900,.sl 89 y6_ r.2 (.deep true .no))]):=he
 refine⟨rfl,rfl,?_⟩
 refine Zk he fun r1_ he=>?_
 refine Zh he (fun he=>?_) fun he=>?_
 ·have he:=Zb he
  exact⟨rfl,_,_,(Za [(900,9900)] (l:=[(2,.c (.own 900 false)),(3,.c (.bool (decide ((r1_.2.length:Int)<(400:Int)))))]) (st':=[(900,.sl 89 y6_ r1_.2 (.deep true .no))]) rfl rfl Y3 ⟨Y3,.inl rfl,Y1⟩),he⟩
 ·have he:=Zb he
  exact⟨rfl,_,_,(Za [(900,9900)] (l:=[(2,.c (.own 900 false)),(3,.c (.bool false))]) (st':=[(900,.sl 89 y6_ r1_.2 (.deep true .no))]) rfl rfl Y3 ⟨Y3,.inr rfl,Y1⟩),he⟩
def ZiH:Con:=fun args st=>match args,st with
  |[.c (.int .i64 n)],[]=>.opt (Bool) (Zhw n) (fun r=>.ret (.c (.bool r)) [])
  |_,_=>.fail
def ZiC:Cfg:={ y:=tys,n:=6,h:=0,tab:=[(127,Zc1)],cut:=[],hand:=[],good:=[],deep:=[],sched:=[] }
theorem ZsS:Zs Tryz.prog ZiC:=by
  refine Zn ?_
  simp only[ZiC,List.forall_mem_cons]
  exact⟨ZdP,fun p h=>by cases h⟩
theorem Zsy:Zq Tryz.prog 126 ZiH:=by
 refine Zm (C:=ZiC) mixed Ze ZsS (fn:=Tryz.f126) (c:=bd Tryz.f126) (by kernel_rfl) (by kernel_rfl) (by kernel_rfl) (by kernel_rfl) ?_
 intro args st k he
 unfold ZiH at he
 split at he
 rotate_left
 ·exact he.elim
 rename_i n
 have he:Ok (Zhw n) (fun r=>k (.c (.bool r)) []):=he
 refine⟨rfl,rfl,?_⟩
 refine Zk he fun r1_ he=>?_
 have he:=Zb he
 exact⟨rfl,_,_,Leads.refl _ _,he⟩
def ZcH:Con:=fun args st=>match args,st with
  |[.c (.imm (.int .i64) s_),.c (.fn 126 [])],[]=>.opt (Int) (ZbP s_) (fun r=>.ret (.c (.int .i64 r)) [])
  |_,_=>.fail
def ZcD:Cfg:={ y:=tys,n:=19,h:=0,tab:=[(126,ZiH)],cut:=[],hand:=[],good:=[],deep:=[],sched:=[] }
theorem Zd6:Zs Tryz.prog ZcD:=by
  refine Zn ?_
  simp only[ZcD,List.forall_mem_cons]
  exact⟨Zsy,fun p h=>by cases h⟩
theorem Zig:Zq Tryz.prog 186 ZcH:=by
 refine Zm (C:=ZcD) mixed Ze Zd6 (fn:=Tryz.f186) (c:=bd Tryz.f186) (by kernel_rfl) (by kernel_rfl) (by kernel_rfl) (by kernel_rfl) ?_
 intro args st k he
 unfold ZcH at he
 split at he
 rotate_left
 ·exact he.elim
 rename_i s_
 have he:Ok (ZbP s_) (fun r=>k (.c (.int .i64 r)) []):=he
 refine⟨rfl,rfl,?_⟩
 refine Zl mixed Ze Zd6 (S:=Int) (I:=(fun i=>(Zo [(0,.c (.imm y0_ s_)),(1,.c (.fn 126 [])),(7,.c (.int .i64 (s_.length:Int))),(8,.c (.int .i64 i))],[]))) (f:=Z2 s_) (K:=(fun r=>k (.c (.int .i64 r)) [])) he (Za [] rfl rfl trivial ⟨.inl rfl,⟨rfl,Y1⟩,rfl,rfl,Y1⟩) ?_
 rintro i J1 he
 refine Zh he (fun he=>?_) fun he=>?_
 ·refine Zc he fun he=>?_
  refine Zk he fun r1_ he=>?_
  refine Zh he (fun he=>?_) fun he=>?_
  ·have he:=Zb he
   exact⟨rfl,_,_,Leads.refl _ _,he⟩
  ·refine Zc he fun he=>?_
   have he:=Zb he
   exact⟨(i+(1:Int)),he,(Za [] rfl rfl trivial ⟨.inl rfl,⟨rfl,Y1⟩,rfl,rfl,Y1⟩)⟩
 ·have he:=Zb he
  exact⟨rfl,_,_,Leads.refl _ _,he⟩
def Zcc:Con:=fun args st=>match args,st with
  |[.c (.imm (.int .i64) s_),.c (.fn 126 [])],[]=>.opt (Bool) (ZbD s_) (fun r=>.ret (.c (.bool r)) [])
  |_,_=>.fail
def Zb9:Cfg:={ y:=tys,n:=9,h:=0,tab:=[(186,ZcH)],cut:=[],hand:=[],good:=[],deep:=[],sched:=[] }
theorem ZhI:Zs Tryz.prog Zb9:=by
  refine Zn ?_
  simp only[Zb9,List.forall_mem_cons]
  exact⟨Zig,fun p h=>by cases h⟩
theorem Zhz:Zq Tryz.prog 125 Zcc:=by
 refine Zm (C:=Zb9) mixed Ze ZhI (fn:=Tryz.f125) (c:=bd Tryz.f125) (by kernel_rfl) (by kernel_rfl) (by kernel_rfl) (by kernel_rfl) ?_
 intro args st k he
 unfold Zcc at he
 split at he
 rotate_left
 ·exact he.elim
 rename_i s_
 have he:Ok (ZbD s_) (fun r=>k (.c (.bool r)) []):=he
 refine⟨rfl,rfl,?_⟩
 refine Zk he fun r1_ he=>?_
 have he:=Zb he
 exact⟨rfl,_,_,Leads.refl _ _,he⟩
def Zho:Con:=fun args st=>match args,st with
  |[.agg [.imm (.int .i64) m_0,.imm (.pair (.int .i64) (.pair (.sl (.int .i64)) (.pair (.sl (.int .i64)) (.pair (.int .i64) (.sl (.sl (.int .i64))))))) m_1],.c (.imm (.int .i64) coefs)],[]=>.opt (Bool) (ZeM (m_0,m_1) coefs) (fun r=>.ret (.c (.bool r)) [])
  |_,_=>.fail
def Zkv:Cfg:={ y:=tys,n:=16,h:=0,tab:=[(125,Zcc)],cut:=[],hand:=[],good:=[],deep:=[],sched:=[] }
theorem ZuM:Zs Tryz.prog Zkv:=by
  refine Zn ?_
  simp only[Zkv,List.forall_mem_cons]
  exact⟨Zhz,fun p h=>by cases h⟩
theorem Zo6:Zq Tryz.prog 56 Zho:=by
 refine Zm (C:=Zkv) mixed Ze ZuM (fn:=Tryz.f56) (c:=bd Tryz.f56) (by kernel_rfl) (by kernel_rfl) (by kernel_rfl) (by kernel_rfl) ?_
 intro args st k he
 unfold Zho at he
 split at he
 rotate_left
 ·exact he.elim
 rename_i m_0 m_1 coefs
 have he:Ok (ZeM (m_0,m_1) coefs) (fun r=>k (.c (.bool r)) []):=he
 refine⟨rfl,rfl,?_⟩
 refine Zh he (fun he=>?_) fun he=>?_
 ·refine Zk he fun r1_ he=>?_
  have he:=Zb he
  exact⟨rfl,_,_,(Za [] (l:=[(4,.c (.bool (!r1_)))]) (st':=[]) rfl rfl trivial ⟨.inl rfl,Y1⟩),he⟩
 ·have he:=Zb he
  exact⟨rfl,_,_,(Za [] (l:=[(4,.c (.bool false))]) (st':=[]) rfl rfl trivial ⟨.inr rfl,Y1⟩),he⟩
def Zmg:Con:=fun args st=>match args,st with
  |[.c (.int .i64 fuel)],[]=>.opt (Bool) (Zjw fuel) (fun r=>.ret (.c (.bool r)) [])
  |_,_=>.fail
def Zpj:Cfg:={ y:=tys,n:=5,h:=0,tab:=[(127,Zc1)],cut:=[],hand:=[],good:=[],deep:=[],sched:=[] }
theorem ZyR:Zs Tryz.prog Zpj:=by
  refine Zn ?_
  simp only[Zpj,List.forall_mem_cons]
  exact⟨ZdP,fun p h=>by cases h⟩
theorem Ztc:Zq Tryz.prog 57 Zmg:=by
 refine Zm (C:=Zpj) mixed Ze ZyR (fn:=Tryz.f57) (c:=bd Tryz.f57) (by kernel_rfl) (by kernel_rfl) (by kernel_rfl) (by kernel_rfl) ?_
 intro args st k he
 unfold Zmg at he
 split at he
 rotate_left
 ·exact he.elim
 rename_i fuel
 have he:Ok (Zjw fuel) (fun r=>k (.c (.bool r)) []):=he
 refine⟨rfl,rfl,?_⟩
 refine Zk he fun r1_ he=>?_
 have he:=Zb he
 exact⟨rfl,_,_,Leads.refl _ _,he⟩
def ZlN:Con:=fun args st=>match args,st with
  |[.agg [.imm (.pair (.int .i64) (.int .i64)) c__0,.int .i64 c__1]],[]=>.opt (Bool) (Zkb (c__0,c__1)) (fun r=>.ret (.c (.bool r)) [])
  |_,_=>.fail
def ZlI:Cfg:={ y:=tys,n:=6,h:=0,tab:=[(223,ZeY)],cut:=[],hand:=[],good:=[],deep:=[],sched:=[] }
theorem Zvf:Zs Tryz.prog ZlI:=by
  refine Zn ?_
  simp only[ZlI,List.forall_mem_cons]
  exact⟨Zl0,fun p h=>by cases h⟩
theorem Zva:Zq Tryz.prog 222 ZlN:=by
 refine Zm (C:=ZlI) mixed Ze Zvf (fn:=Tryz.f222) (c:=bd Tryz.f222) (by kernel_rfl) (by kernel_rfl) (by kernel_rfl) (by kernel_rfl) ?_
 intro args st k he
 unfold ZlN at he
 split at he
 rotate_left
 ·exact he.elim
 rename_i c__0 c__1
 have he:Ok (Zkb (c__0,c__1)) (fun r=>k (.c (.bool r)) []):=he
 refine⟨rfl,rfl,?_⟩
 refine Zk he fun r1_ he=>?_
 have he:=Zb he
 exact⟨rfl,_,_,(Za [] (l:=[(2,.c (.bool (!r1_)))]) (st':=[]) rfl rfl trivial ⟨.inl rfl,Y1⟩),he⟩
def ZbK:Con:=fun args st=>match args,st with
  |[.c (.imm (.pair (.sl (.pair (.int .i64) (.int .i64))) (.int .i64)) s_),.c (.fn 222 [])],[]=>.opt (Int) (Zbb s_) (fun r=>.ret (.c (.int .i64 r)) [])
  |_,_=>.fail
def ZbJ:Cfg:={ y:=tys,n:=19,h:=0,tab:=[(222,ZlN)],cut:=[],hand:=[],good:=[],deep:=[],sched:=[] }
theorem Zc5:Zs Tryz.prog ZbJ:=by
  refine Zn ?_
  simp only[ZbJ,List.forall_mem_cons]
  exact⟨Zva,fun p h=>by cases h⟩
theorem ZfH:Zq Tryz.prog 225 ZbK:=by
 refine Zm (C:=ZbJ) mixed Ze Zc5 (fn:=Tryz.f225) (c:=bd Tryz.f225) (by kernel_rfl) (by kernel_rfl) (by kernel_rfl) (by kernel_rfl) ?_
 intro args st k he
 unfold ZbK at he
 split at he
 rotate_left
 ·exact he.elim
 rename_i s_
 have he:Ok (Zbb s_) (fun r=>k (.c (.int .i64 r)) []):=he
 refine⟨rfl,rfl,?_⟩
 refine Zl mixed Ze Zc5 (S:=Int) (I:=(fun i=>(Zo [(0,.c (.imm y6_ s_)),(1,.c (.fn 222 [])),(7,.c (.int .i64 (s_.length:Int))),(8,.c (.int .i64 i))],[]))) (f:=ZP s_) (K:=(fun r=>k (.c (.int .i64 r)) [])) he (Za [] rfl rfl trivial ⟨.inl rfl,⟨rfl,Y1⟩,rfl,rfl,Y1⟩) ?_
 rintro i J1 he
 refine Zh he (fun he=>?_) fun he=>?_
 ·refine Zc he fun he=>?_
  refine Zk he fun r1_ he=>?_
  refine Zh he (fun he=>?_) fun he=>?_
  ·have he:=Zb he
   exact⟨rfl,_,_,Leads.refl _ _,he⟩
  ·refine Zc he fun he=>?_
   have he:=Zb he
   exact⟨(i+(1:Int)),he,(Za [] rfl rfl trivial ⟨.inl rfl,⟨rfl,Y1⟩,rfl,rfl,Y1⟩)⟩
 ·have he:=Zb he
  exact⟨rfl,_,_,Leads.refl _ _,he⟩
def Zby:Con:=fun args st=>match args,st with
  |[.c (.imm (.pair (.sl (.pair (.int .i64) (.int .i64))) (.int .i64)) s_),.c (.fn 222 [])],[]=>.opt (Bool) (ZZ s_) (fun r=>.ret (.c (.bool r)) [])
  |_,_=>.fail
def Zbw:Cfg:={ y:=tys,n:=9,h:=0,tab:=[(225,ZbK)],cut:=[],hand:=[],good:=[],deep:=[],sched:=[] }
theorem Zfm:Zs Tryz.prog Zbw:=by
  refine Zn ?_
  simp only[Zbw,List.forall_mem_cons]
  exact⟨ZfH,fun p h=>by cases h⟩
theorem Zfd:Zq Tryz.prog 161 Zby:=by
 refine Zm (C:=Zbw) mixed Ze Zfm (fn:=Tryz.f161) (c:=bd Tryz.f161) (by kernel_rfl) (by kernel_rfl) (by kernel_rfl) (by kernel_rfl) ?_
 intro args st k he
 unfold Zby at he
 split at he
 rotate_left
 ·exact he.elim
 rename_i s_
 have he:Ok (ZZ s_) (fun r=>k (.c (.bool r)) []):=he
 refine⟨rfl,rfl,?_⟩
 refine Zk he fun r1_ he=>?_
 have he:=Zb he
 exact⟨rfl,_,_,Leads.refl _ _,he⟩
def Zno:Con:=fun args st=>match args,st with
  |[.c (.imm (.pair (.sl (.pair (.int .i64) (.int .i64))) (.int .i64)) list_)],[]=>.opt (Bool) (Zml list_) (fun r=>.ret (.c (.bool r)) [])
  |_,_=>.fail
def Zne:Cfg:={ y:=tys,n:=6,h:=0,tab:=[(161,Zby)],cut:=[],hand:=[],good:=[],deep:=[],sched:=[] }
theorem Zw0:Zs Tryz.prog Zne:=by
  refine Zn ?_
  simp only[Zne,List.forall_mem_cons]
  exact⟨Zfd,fun p h=>by cases h⟩
theorem Zwv:Zq Tryz.prog 159 Zno:=by
 refine Zm (C:=Zne) mixed Ze Zw0 (fn:=Tryz.f159) (c:=bd Tryz.f159) (by kernel_rfl) (by kernel_rfl) (by kernel_rfl) (by kernel_rfl) ?_
 intro args st k he
 unfold Zno at he
 split at he
 rotate_left
 ·exact he.elim
 rename_i list_
 have he:Ok (Zml list_) (fun r=>k (.c (.bool r)) []):=he
 refine⟨rfl,rfl,?_⟩
 refine Zk he fun r1_ he=>?_
 have he:=Zb he
 exact⟨rfl,_,_,Leads.refl _ _,he⟩
def ZjQ:Con:=fun args st=>match args,st with
  |[.c (.imm (.pair (.sl (.pair (.int .i64) (.int .i64))) (.int .i64)) list_)],[]=>.opt (Bool) (ZfF list_) (fun r=>.ret (.c (.bool r)) [])
  |_,_=>.fail
def ZjD:Cfg:={ y:=tys,n:=10,h:=0,tab:=[(159,Zno)],cut:=[],hand:=[],good:=[],deep:=[],sched:=[] }
theorem ZtH:Zs Tryz.prog ZjD:=by
  refine Zn ?_
  simp only[ZjD,List.forall_mem_cons]
  exact⟨Zwv,fun p h=>by cases h⟩
theorem Ztv:Zq Tryz.prog 98 ZjQ:=by
 refine Zm (C:=ZjD) mixed Ze ZtH (fn:=Tryz.f98) (c:=bd Tryz.f98) (by kernel_rfl) (by kernel_rfl) (by kernel_rfl) (by kernel_rfl) ?_
 intro args st k he
 unfold ZjQ at he
 split at he
 rotate_left
 ·exact he.elim
 rename_i list_
 have he:Ok (ZfF list_) (fun r=>k (.c (.bool r)) []):=he
 refine⟨rfl,rfl,?_⟩
 refine Zh he (fun he=>?_) fun he=>?_
 ·refine Zk he fun r1_ he=>?_
  have he:=Zb he
  exact⟨rfl,_,_,Leads.refl _ _,he⟩
 ·have he:=Zb he
  exact⟨rfl,_,_,Leads.refl _ _,he⟩
end
end Go.AE.Y
