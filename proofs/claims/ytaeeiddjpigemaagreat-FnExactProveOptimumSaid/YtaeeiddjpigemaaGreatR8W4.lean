/-
  Walks: each function keeps the contract that its model gives. No conditions.
-/
import Derived.Test.YtaeeiddjpigemaaGreatR8Tab
import Derived.Test.YtaeeiddjpigemaaGreatR8W3
import Derived.Test.YtaeeiddjpigemaaGreatR8S
namespace Go.AE.Y
open Go Go.AE Go.Proofs
set_option linter.unusedVariables false
set_option maxHeartbeats 2000000
set_option maxRecDepth 100000
noncomputable section
def Zce:Con:=fun args st=>match args,st with
  |[.c (.imm (.sl (.int .i64)) s_),.c (.fn 201 [0])],[(0,.rc [.int .i64 o0_0,.imm (.int .i64) o0_1,.imm (.int .i64) o0_2,.int .i64 o0_3,.imm (.sl (.int .i64)) o0_4])]=>.opt (Bool) (Z1 s_ (o0_0,(o0_1,(o0_2,(o0_3,o0_4))))) (fun r=>.ret (.c (.bool r)) [(0,.rc [.int .i64 o0_0,.imm y0_ o0_1,.imm y0_ o0_2,.int .i64 o0_3,.imm (.sl y0_) o0_4])])
  |_,_=>.fail
def Zcb:Cfg:={ y:=tys,n:=9,h:=1,tab:=[(250,ZcJ)],cut:=[],hand:=[],good:=[],deep:=[],sched:=[] }
theorem ZhK:Zs Tryz.prog Zcb:=by
  refine Zn ?_
  simp only[Zcb,List.forall_mem_cons]
  exact⟨Zii,fun p h=>by cases h⟩
theorem ZhB:Zq Tryz.prog 200 Zce:=by
 refine Zm (C:=Zcb) mixed Ze ZhK (fn:=Tryz.f200) (c:=bd Tryz.f200) (by kernel_rfl) (by kernel_rfl) (by kernel_rfl) (by kernel_rfl) ?_
 intro args st k he
 unfold Zce at he
 split at he
 rotate_left
 ·exact he.elim
 rename_i s_ o0_0 o0_1 o0_2 o0_3 o0_4
 have he:Ok (Z1 s_ (o0_0,(o0_1,(o0_2,(o0_3,o0_4))))) (fun r=>k (.c (.bool r)) [(0,.rc [.int .i64 o0_0,.imm y0_ o0_1,.imm y0_ o0_2,.int .i64 o0_3,.imm (.sl y0_) o0_4])]):=he
 refine⟨rfl,rfl,?_⟩
 refine Zk he fun r1_ he=>?_
 have he:=Zb he
 exact⟨rfl,_,_,(Za [] (l:=[(4,.c (.bool (decide ((0:Int)≤r1_))))]) (st':=[(0,.rc [.int .i64 o0_0,.imm y0_ o0_1,.imm y0_ o0_2,.int .i64 o0_3,.imm (.sl y0_) o0_4])]) rfl rfl ⟨⟨rfl,.inl rfl,.inl rfl,rfl,.inl rfl,Y1⟩,Y1⟩ ⟨.inl rfl,Y1⟩),he⟩
def ZmC:Con:=fun args st=>match args,st with
  |[.agg [.int .i64 a0_0,.imm (.int .i64) a0_1,.imm (.int .i64) a0_2,.int .i64 a0_3,.imm (.sl (.int .i64)) a0_4],.c (.int .i64 a1)],[]=>.opt (Bool) (Zib (a0_0,(a0_1,(a0_2,(a0_3,a0_4)))) a1) (fun r=>.ret (.c (.bool r)) [])
  |_,_=>.fail
def Zmu:Cfg:={ y:=tys,n:=104,h:=0,tab:=[(125,Zcr),(127,Zc1),(178,Zd2),(200,Zce)],cut:=[9],hand:=[],good:=[],deep:=[],sched:=[] }
theorem ZmY:Zs Tryz.prog Zmu:=by
  refine Zn ?_
  simp only[Zmu,List.forall_mem_cons]
  exact⟨ZhS,ZdP,Zif,ZhB,fun p h=>by cases h⟩
theorem ZvH:Zq Tryz.prog 140 ZmC:=by
 refine Zm (C:=Zmu) mixed Ze ZmY (fn:=Tryz.f140) (c:=bd Tryz.f140) (by kernel_rfl) (by kernel_rfl) (by kernel_rfl) (by kernel_rfl) ?_
 intro args st k he
 unfold ZmC at he
 split at he
 rotate_left
 ·exact he.elim
 rename_i a0_0 a0_1 a0_2 a0_3 a0_4 a1
 have he:Ok (Zib (a0_0,(a0_1,(a0_2,(a0_3,a0_4)))) a1) (fun r=>k (.c (.bool r)) []):=he
 refine⟨rfl,rfl,?_⟩
 refine Zl mixed Ze ZmY (S:=Int) (I:=(fun i=>(Zo [(1,.c (.int .i64 a1)),(2,.c (.ptr 10000000 0)),(8,.c (.imm y0_ (a0_0,(a0_1,(a0_2,(a0_3,a0_4)))).2.1)),(9,.c (.int .i64 ((a0_0,(a0_1,(a0_2,(a0_3,a0_4)))).2.1.length:Int))),(10,.c (.int .i64 i))],[(10000000,.rc [.int .i64 (a0_0,(a0_1,(a0_2,(a0_3,a0_4)))).1,.imm y0_ (a0_0,(a0_1,(a0_2,(a0_3,a0_4)))).2.1,.imm y0_ (a0_0,(a0_1,(a0_2,(a0_3,a0_4)))).2.2.1,.int .i64 (a0_0,(a0_1,(a0_2,(a0_3,a0_4)))).2.2.2.1,.imm (.sl y0_) (a0_0,(a0_1,(a0_2,(a0_3,a0_4)))).2.2.2.2])]))) (f:=ZhY (a0_0,(a0_1,(a0_2,(a0_3,a0_4)))) a1) (K:=(fun r=>k (.c (.bool r)) [])) he (Za [(10000000,2)] rfl rfl ⟨⟨rfl,.inl rfl,.inl rfl,rfl,.inl rfl,Y1⟩,Y1⟩ ⟨rfl,⟨Y2,rfl⟩,.inl rfl,rfl,rfl,Y1⟩) ?_
 rintro i J1 he
 refine Zh he (fun he=>?_) fun he=>?_
 ·refine Zc he fun he=>?_
  refine Zc he fun he=>?_
  refine Zk he fun r1_ he=>?_
  refine ZK he (fun he=>?_) fun he=>?_
  ·refine Zc he fun he=>?_
   refine Zk he fun r2_ he=>?_
   refine Zh he (fun he=>?_) fun he=>?_
   ·have he:=Zb he
    exact⟨rfl,_,_,(Za [] (l:=[(4,.c (.bool false))]) (st':=[]) rfl rfl trivial ⟨.inr rfl,Y1⟩),he⟩
   ·refine Zc he fun he=>?_
    have he:=Zb he
    exact⟨(i+(1:Int)),he,(Za [] rfl rfl ⟨⟨rfl,.inl rfl,.inl rfl,rfl,.inl rfl,Y1⟩,Y1⟩ ⟨rfl,⟨Y2,rfl⟩,.inl rfl,rfl,rfl,Y1⟩)⟩
  ·have he:=Zb he
   exact⟨rfl,_,_,(Za [] (l:=[(4,.c (.bool false))]) (st':=[]) rfl rfl trivial ⟨.inr rfl,Y1⟩),he⟩
 ·refine Zt mixed Ze ZmY (S:=Unit) (I:=(fun _=>(Zo [(2,.c (.ptr 10001000 0))],[(10001000,.rc [.int .i64 (a0_0,(a0_1,(a0_2,(a0_3,a0_4)))).1,.imm y0_ (a0_0,(a0_1,(a0_2,(a0_3,a0_4)))).2.1,.imm y0_ (a0_0,(a0_1,(a0_2,(a0_3,a0_4)))).2.2.1,.int .i64 (a0_0,(a0_1,(a0_2,(a0_3,a0_4)))).2.2.2.1,.imm (.sl y0_) (a0_0,(a0_1,(a0_2,(a0_3,a0_4)))).2.2.2.2])]))) (B:=fun s=>Ok (ZdE (a0_0,(a0_1,(a0_2,(a0_3,a0_4)))) s) (LK J1 (fun r=>k (.c (.bool r)) []))) ?_ ?_
  ·rintro⟨⟩ he
   refine Zh he (fun he=>?_) fun he=>?_
   ·refine Zh he (fun he=>?_) fun he=>?_
    ·refine Zk he fun r3_ he=>?_
     refine Zh he (fun he=>?_) fun he=>?_
     ·refine Zk he fun r4_ he=>?_
      have he:=Zb he
      exact⟨rfl,_,_,(Za [] (l:=[(4,.c (.bool (!r4_)))]) (st':=[]) rfl rfl trivial ⟨.inl rfl,Y1⟩),he⟩
     ·have he:=Zb he
      exact⟨rfl,_,_,(Za [] (l:=[(4,.c (.bool false))]) (st':=[]) rfl rfl trivial ⟨.inr rfl,Y1⟩),he⟩
    ·have he:=Zb he
     exact⟨rfl,_,_,(Za [] (l:=[(4,.c (.bool false))]) (st':=[]) rfl rfl trivial ⟨.inr rfl,Y1⟩),he⟩
   ·refine Zh he (fun he=>?_) fun he=>?_
    ·refine Zh he (fun he=>?_) fun he=>?_
     ·refine Zk he fun r5_ he=>?_
      have he:=Zb he
      exact⟨rfl,_,_,(Za [] (l:=[(4,.c (.bool (!r5_)))]) (st':=[]) rfl rfl trivial ⟨.inl rfl,Y1⟩),he⟩
     ·have he:=Zb he
      exact⟨rfl,_,_,(Za [] (l:=[(4,.c (.bool false))]) (st':=[]) rfl rfl trivial ⟨.inr rfl,Y1⟩),he⟩
    ·refine Zh he (fun he=>?_) fun he=>?_
     ·have he:=Zb he
      exact⟨rfl,_,_,(Za [] (l:=[(4,.c (.bool (((a0_0,(a0_1,(a0_2,(a0_3,a0_4)))).2.1.length:Int)==(2:Int))))]) (st':=[]) rfl rfl trivial ⟨.inl rfl,Y1⟩),he⟩
     ·have he:=Zb he
      exact⟨rfl,_,_,(Za [] (l:=[(4,.c (.bool ((a0_0,(a0_1,(a0_2,(a0_3,a0_4)))).1==(2:Int))))]) (st':=[]) rfl rfl trivial ⟨.inl rfl,Y1⟩),he⟩
  ·skip
   refine ZK he (fun he=>?_) fun he=>?_
   ·refine Zh he (fun he=>?_) fun he=>?_
    ·refine ZK he (fun he=>?_) fun he=>?_
     ·refine ZK he (fun he=>?_) fun he=>?_
      ·refine Zh he (fun he=>?_) fun he=>?_
       ·refine Zh he (fun he=>?_) fun he=>?_
        ·have he:=Zb he
         exact⟨rfl,_,_,(Za [] (l:=[(4,.c (.bool false))]) (st':=[]) rfl rfl trivial ⟨.inr rfl,Y1⟩),he⟩
        ·exact⟨(),he,(Za [(10001000,10000000)] rfl rfl ⟨⟨rfl,.inl rfl,.inl rfl,rfl,.inl rfl,Y1⟩,Y1⟩ ⟨⟨Y2,rfl⟩,Y1⟩)⟩
       ·exact⟨(),he,(Za [(10001000,10000000)] rfl rfl ⟨⟨rfl,.inl rfl,.inl rfl,rfl,.inl rfl,Y1⟩,Y1⟩ ⟨⟨Y2,rfl⟩,Y1⟩)⟩
      ·have he:=Zb he
       exact⟨rfl,_,_,(Za [] (l:=[(4,.c (.bool false))]) (st':=[]) rfl rfl trivial ⟨.inr rfl,Y1⟩),he⟩
     ·have he:=Zb he
      exact⟨rfl,_,_,(Za [] (l:=[(4,.c (.bool false))]) (st':=[]) rfl rfl trivial ⟨.inr rfl,Y1⟩),he⟩
    ·refine Zh he (fun he=>?_) fun he=>?_
     ·refine Zh he (fun he=>?_) fun he=>?_
      ·have he:=Zb he
       exact⟨rfl,_,_,(Za [] (l:=[(4,.c (.bool false))]) (st':=[]) rfl rfl trivial ⟨.inr rfl,Y1⟩),he⟩
      ·exact⟨(),he,(Za [(10001000,10000000)] rfl rfl ⟨⟨rfl,.inl rfl,.inl rfl,rfl,.inl rfl,Y1⟩,Y1⟩ ⟨⟨Y2,rfl⟩,Y1⟩)⟩
     ·exact⟨(),he,(Za [(10001000,10000000)] rfl rfl ⟨⟨rfl,.inl rfl,.inl rfl,rfl,.inl rfl,Y1⟩,Y1⟩ ⟨⟨Y2,rfl⟩,Y1⟩)⟩
   ·have he:=Zb he
    exact⟨rfl,_,_,(Za [] (l:=[(4,.c (.bool false))]) (st':=[]) rfl rfl trivial ⟨.inr rfl,Y1⟩),he⟩
def ZjP:Con:=fun args st=>match args,st with
  |[.agg [.int .i64 r__0,.imm (.int .i64) r__1,.imm (.int .i64) r__2,.int .i64 r__3,.imm (.sl (.int .i64)) r__4],.c (.ptr 0 0)],[(0,.rc [.imm (.int .i64) o0_0,.imm (.pair (.int .i64) (.pair (.sl (.int .i64)) (.pair (.sl (.int .i64)) (.pair (.int .i64) (.sl (.sl (.int .i64))))))) o0_1])]=>.opt (Bool) (ZhW (r__0,(r__1,(r__2,(r__3,r__4)))) (o0_0,o0_1)) (fun r=>.ret (.c (.bool r)) [(0,.rc [.imm y0_ o0_0,.imm y4_ o0_1])])
  |_,_=>.fail
def ZjB:Cfg:={ y:=tys,n:=10,h:=1,tab:=[(140,ZmC)],cut:=[],hand:=[],good:=[],deep:=[],sched:=[] }
theorem ZtG:Zs Tryz.prog ZjB:=by
  refine Zn ?_
  simp only[ZjB,List.forall_mem_cons]
  exact⟨ZvH,fun p h=>by cases h⟩
theorem Ztu:Zq Tryz.prog 139 ZjP:=by
 refine Zm (C:=ZjB) mixed Ze ZtG (fn:=Tryz.f139) (c:=bd Tryz.f139) (by kernel_rfl) (by kernel_rfl) (by kernel_rfl) (by kernel_rfl) ?_
 intro args st k he
 unfold ZjP at he
 split at he
 rotate_left
 ·exact he.elim
 rename_i r__0 r__1 r__2 r__3 r__4 o0_0 o0_1
 have he:Ok (ZhW (r__0,(r__1,(r__2,(r__3,r__4)))) (o0_0,o0_1)) (fun r=>k (.c (.bool r)) [(0,.rc [.imm y0_ o0_0,.imm y4_ o0_1])]):=he
 refine⟨rfl,rfl,?_⟩
 refine Zk he fun r1_ he=>?_
 have he:=Zb he
 exact⟨rfl,_,_,(Za [] (l:=[(3,.c (.bool (!r1_)))]) (st':=[(0,.rc [.imm y0_ o0_0,.imm y4_ o0_1])]) rfl rfl ⟨⟨.inl rfl,.inl rfl,Y1⟩,Y1⟩ ⟨.inl rfl,Y1⟩),he⟩
def Zb5:Con:=fun args st=>match args,st with
  |[.c (.imm (.pair (.int .i64) (.pair (.sl (.int .i64)) (.pair (.sl (.int .i64)) (.pair (.int .i64) (.sl (.sl (.int .i64))))))) s_),.c (.fn 139 [0])],[(0,.rc [.imm (.int .i64) o0_0,.imm (.pair (.int .i64) (.pair (.sl (.int .i64)) (.pair (.sl (.int .i64)) (.pair (.int .i64) (.sl (.sl (.int .i64))))))) o0_1])]=>.opt (Int) (Zbp s_ (o0_0,o0_1)) (fun r=>.ret (.c (.int .i64 r)) [(0,.rc [.imm y0_ o0_0,.imm y4_ o0_1])])
  |_,_=>.fail
def Zb4:Cfg:={ y:=tys,n:=19,h:=1,tab:=[(139,ZjP)],cut:=[],hand:=[],good:=[],deep:=[],sched:=[] }
theorem Zdo:Zs Tryz.prog Zb4:=by
  refine Zn ?_
  simp only[Zb4,List.forall_mem_cons]
  exact⟨Ztu,fun p h=>by cases h⟩
theorem Zg2:Zq Tryz.prog 198 Zb5:=by
 refine Zm (C:=Zb4) mixed Ze Zdo (fn:=Tryz.f198) (c:=bd Tryz.f198) (by kernel_rfl) (by kernel_rfl) (by kernel_rfl) (by kernel_rfl) ?_
 intro args st k he
 unfold Zb5 at he
 split at he
 rotate_left
 ·exact he.elim
 rename_i s_ o0_0 o0_1
 have he:Ok (Zbp s_ (o0_0,o0_1)) (fun r=>k (.c (.int .i64 r)) [(0,.rc [.imm y0_ o0_0,.imm y4_ o0_1])]):=he
 refine⟨rfl,rfl,?_⟩
 refine Zl mixed Ze Zdo (S:=Int) (I:=(fun i=>(Zo [(0,.c (.imm y4_ s_)),(1,.c (.fn 139 [0])),(7,.c (.int .i64 (s_.length:Int))),(8,.c (.int .i64 i))],[(0,.rc [.imm y0_ (o0_0,o0_1).1,.imm y4_ (o0_0,o0_1).2])]))) (f:=ZT s_ (o0_0,o0_1)) (K:=(fun r=>k (.c (.int .i64 r)) [(0,.rc [.imm y0_ o0_0,.imm y4_ o0_1])])) he (Za [] rfl rfl ⟨⟨.inl rfl,.inl rfl,Y1⟩,Y1⟩ ⟨.inl rfl,⟨rfl,Y3⟩,rfl,rfl,Y1⟩) ?_
 rintro i J1 he
 refine Zh he (fun he=>?_) fun he=>?_
 ·refine Zc he fun he=>?_
  refine Zk he fun r1_ he=>?_
  refine Zh he (fun he=>?_) fun he=>?_
  ·have he:=Zb he
   exact⟨rfl,_,_,(Za [] (l:=[(4,.c (.int .i64 i))]) (st':=[(0,.rc [.imm y0_ o0_0,.imm y4_ o0_1])]) rfl rfl ⟨⟨.inl rfl,.inl rfl,Y1⟩,Y1⟩ ⟨rfl,Y1⟩),he⟩
  ·refine Zc he fun he=>?_
   have he:=Zb he
   exact⟨(i+(1:Int)),he,(Za [] rfl rfl ⟨⟨.inl rfl,.inl rfl,Y1⟩,Y1⟩ ⟨.inl rfl,⟨rfl,Y3⟩,rfl,rfl,Y1⟩)⟩
 ·have he:=Zb he
  exact⟨rfl,_,_,(Za [] (l:=[(4,.c (.int .i64 (-1:Int)))]) (st':=[(0,.rc [.imm y0_ o0_0,.imm y4_ o0_1])]) rfl rfl ⟨⟨.inl rfl,.inl rfl,Y1⟩,Y1⟩ ⟨rfl,Y1⟩),he⟩
def ZbN:Con:=fun args st=>match args,st with
  |[.c (.imm (.pair (.int .i64) (.pair (.sl (.int .i64)) (.pair (.sl (.int .i64)) (.pair (.int .i64) (.sl (.sl (.int .i64))))))) s_),.c (.fn 139 [0])],[(0,.rc [.imm (.int .i64) o0_0,.imm (.pair (.int .i64) (.pair (.sl (.int .i64)) (.pair (.sl (.int .i64)) (.pair (.int .i64) (.sl (.sl (.int .i64))))))) o0_1])]=>.opt (Bool) (ZS s_ (o0_0,o0_1)) (fun r=>.ret (.c (.bool r)) [(0,.rc [.imm y0_ o0_0,.imm y4_ o0_1])])
  |_,_=>.fail
def ZbM:Cfg:={ y:=tys,n:=9,h:=1,tab:=[(198,Zb5)],cut:=[],hand:=[],good:=[],deep:=[],sched:=[] }
theorem Zgc:Zs Tryz.prog ZbM:=by
  refine Zn ?_
  simp only[ZbM,List.forall_mem_cons]
  exact⟨Zg2,fun p h=>by cases h⟩
theorem Zf1:Zq Tryz.prog 138 ZbN:=by
 refine Zm (C:=ZbM) mixed Ze Zgc (fn:=Tryz.f138) (c:=bd Tryz.f138) (by kernel_rfl) (by kernel_rfl) (by kernel_rfl) (by kernel_rfl) ?_
 intro args st k he
 unfold ZbN at he
 split at he
 rotate_left
 ·exact he.elim
 rename_i s_ o0_0 o0_1
 have he:Ok (ZS s_ (o0_0,o0_1)) (fun r=>k (.c (.bool r)) [(0,.rc [.imm y0_ o0_0,.imm y4_ o0_1])]):=he
 refine⟨rfl,rfl,?_⟩
 refine Zk he fun r1_ he=>?_
 have he:=Zb he
 exact⟨rfl,_,_,(Za [] (l:=[(4,.c (.bool (decide ((0:Int)≤r1_))))]) (st':=[(0,.rc [.imm y0_ o0_0,.imm y4_ o0_1])]) rfl rfl ⟨⟨.inl rfl,.inl rfl,Y1⟩,Y1⟩ ⟨.inl rfl,Y1⟩),he⟩
def ZfD:Con:=fun args st=>match args,st with
  |[.agg [.imm (.int .i64) m_0,.imm (.pair (.int .i64) (.pair (.sl (.int .i64)) (.pair (.sl (.int .i64)) (.pair (.int .i64) (.sl (.sl (.int .i64))))))) m_1]],[]=>.opt (Bool) (Zee (m_0,m_1)) (fun r=>.ret (.c (.bool r)) [])
  |_,_=>.fail
def ZlG:Cfg:={ y:=tys,n:=41,h:=0,tab:=[(127,Zc1),(138,ZbN)],cut:=[],hand:=[],good:=[],deep:=[],sched:=[] }
theorem ZpW:Zs Tryz.prog ZlG:=by
  refine Zn ?_
  simp only[ZlG,List.forall_mem_cons]
  exact⟨ZdP,Zf1,fun p h=>by cases h⟩
theorem ZlO:Zq Tryz.prog 71 ZfD:=by
 refine Zm (C:=ZlG) mixed Ze ZpW (fn:=Tryz.f71) (c:=bd Tryz.f71) (by kernel_rfl) (by kernel_rfl) (by kernel_rfl) (by kernel_rfl) ?_
 intro args st k he
 unfold ZfD at he
 split at he
 rotate_left
 ·exact he.elim
 rename_i m_0 m_1
 have he:Ok (Zee (m_0,m_1)) (fun r=>k (.c (.bool r)) []):=he
 refine⟨rfl,rfl,?_⟩
 refine Zk he fun r1_ he=>?_
 refine ZK he (fun he=>?_) fun he=>?_
 ·refine Zh he (fun he=>?_) fun he=>?_
  ·have he:=Zb he
   exact⟨rfl,_,_,(Za [] (l:=[(2,.c (.bool false))]) (st':=[]) rfl rfl trivial ⟨.inr rfl,Y1⟩),he⟩
  ·refine Zl mixed Ze ZpW (S:=Int×Int) (I:=(fun (count,i)=>(Zo [(1,.c (.ptr 10000000 0)),(3,.c (.int .i64 count)),(18,.c (.imm y0_ (m_0,m_1).1)),(19,.c (.int .i64 ((m_0,m_1).1.length:Int))),(20,.c (.int .i64 i))],[(10000000,.rc [.imm y0_ (m_0,m_1).1,.imm y4_ (m_0,m_1).2])]))) (f:=ZkR (m_0,m_1)) (K:=(fun r=>k (.c (.bool r)) [])) he (Za [(10000000,1)] rfl rfl ⟨⟨.inl rfl,.inl rfl,Y1⟩,Y1⟩ ⟨⟨Y2,rfl⟩,rfl,.inl rfl,rfl,rfl,Y1⟩) ?_
   rintro⟨count,i⟩ J1 he
   refine Zh he (fun he=>?_) fun he=>?_
   ·refine Zc he fun he=>?_
    refine Zk he fun r2_ he=>?_
    refine Zh he (fun he=>?_) fun he=>?_
    ·have he:=Zb he
     exact⟨rfl,_,_,(Za [] (l:=[(2,.c (.bool false))]) (st':=[]) rfl rfl trivial ⟨.inr rfl,Y1⟩),he⟩
    ·refine Zc he fun he=>?_
     refine Zc he fun he=>?_
     refine Zc he fun he=>?_
     have he:=Zb he
     exact⟨((count+(((m_0,m_1).1.getD i.toNat 0)+(1:Int))),(i+(1:Int))),he,(Za [] rfl rfl ⟨⟨.inl rfl,.inl rfl,Y1⟩,Y1⟩ ⟨⟨Y2,rfl⟩,rfl,.inl rfl,rfl,rfl,Y1⟩)⟩
   ·refine Zh he (fun he=>?_) fun he=>?_
    ·refine Zk he fun r3_ he=>?_
     have he:=Zb he
     exact⟨rfl,_,_,(Za [] (l:=[(2,.c (.bool (!r3_)))]) (st':=[]) rfl rfl trivial ⟨.inl rfl,Y1⟩),he⟩
    ·have he:=Zb he
     exact⟨rfl,_,_,(Za [] (l:=[(2,.c (.bool false))]) (st':=[]) rfl rfl trivial ⟨.inr rfl,Y1⟩),he⟩
 ·have he:=Zb he
  exact⟨rfl,_,_,(Za [] (l:=[(2,.c (.bool false))]) (st':=[]) rfl rfl trivial ⟨.inr rfl,Y1⟩),he⟩
def Zdp:Con:=fun args st=>match args,st with
  |[.agg [.imm (.int .i64) m_0,.imm (.pair (.int .i64) (.pair (.sl (.int .i64)) (.pair (.sl (.int .i64)) (.pair (.int .i64) (.sl (.sl (.int .i64))))))) m_1],.c (.int .i64 cell),.c (.int .i64 value)],[]=>.opt (Int) (Zcf (m_0,m_1) cell value) (fun r=>.ret (.c (.int .i64 r)) [])
  |_,_=>.fail
def Znd:Cfg:={ y:=tys,n:=27,h:=0,tab:=[],cut:=[],hand:=[],good:=[],deep:=[],sched:=[] }
theorem ZnR:Zs Tryz.prog Znd:=Zn (fun p h=>by cases h)
theorem Zf0:Zq Tryz.prog 128 Zdp:=by
 refine Zm (C:=Znd) mixed Ze ZnR (fn:=Tryz.f128) (c:=bd Tryz.f128) (by kernel_rfl) (by kernel_rfl) (by kernel_rfl) (by kernel_rfl) ?_
 intro args st k he
 unfold Zdp at he
 split at he
 rotate_left
 ·exact he.elim
 rename_i m_0 m_1 cell value
 have he:Ok (Zcf (m_0,m_1) cell value) (fun r=>k (.c (.int .i64 r)) []):=he
 refine⟨rfl,rfl,?_⟩
 refine Zc he fun he=>?_
 refine Zc he fun he=>?_
 refine Zl mixed Ze ZnR (S:=Int×Int) (I:=(fun (v,i)=>(Zo [(7,.c (.int .i64 v)),(15,.c (.imm y0_ ((m_0,m_1).1.take cell.toNat))),(16,.c (.int .i64 (((m_0,m_1).1.take cell.toNat).length:Int))),(17,.c (.int .i64 i))],[]))) (f:=Zh9 (m_0,m_1) cell) (K:=(fun r=>k (.c (.int .i64 r)) [])) he (Za [] rfl rfl trivial ⟨rfl,.inl rfl,rfl,rfl,Y1⟩) ?_
 rintro⟨v,i⟩ J1 he
 refine Zh he (fun he=>?_) fun he=>?_
 ·refine Zc he fun he=>?_
  refine Zc he fun he=>?_
  refine Zc he fun he=>?_
  refine Zc he fun he=>?_
  have he:=Zb he
  exact⟨((v+((((m_0,m_1).1.take cell.toNat).getD i.toNat 0)+(1:Int))),(i+(1:Int))),he,(Za [] rfl rfl trivial ⟨rfl,.inl rfl,rfl,rfl,Y1⟩)⟩
 ·have he:=Zb he
  exact⟨rfl,_,_,Leads.refl _ _,he⟩
def ZgM:Con:=fun args st=>match args,st with
  |[.agg [.imm (.int .i64) m_0,.imm (.pair (.int .i64) (.pair (.sl (.int .i64)) (.pair (.sl (.int .i64)) (.pair (.int .i64) (.sl (.sl (.int .i64))))))) m_1],.c (.int .i64 cell)],[]=>.opt ((List Int)) (Zep (m_0,m_1) cell) (fun r=>.ret (.c (.own 900 false)) [(900,.sl 3 y0_ r .shallow)])
  |_,_=>.fail
def ZjC:Cfg:={ y:=tys,n:=25,h:=0,tab:=[(128,Zdp)],cut:=[],hand:=[],good:=[],deep:=[],sched:=[] }
theorem Zn6:Zs Tryz.prog ZjC:=by
  refine Zn ?_
  simp only[ZjC,List.forall_mem_cons]
  exact⟨Zf0,fun p h=>by cases h⟩
theorem Zn0:Zq Tryz.prog 118 ZgM:=by
 refine Zm (C:=ZjC) mixed Ze Zn6 (fn:=Tryz.f118) (c:=bd Tryz.f118) (by kernel_rfl) (by kernel_rfl) (by kernel_rfl) (by kernel_rfl) ?_
 intro args st k he
 unfold ZgM at he
 split at he
 rotate_left
 ·exact he.elim
 rename_i m_0 m_1 cell
 have he:Ok (Zep (m_0,m_1) cell) (fun r=>k (.c (.own 900 false)) [(900,.sl 3 y0_ r .shallow)]):=he
 refine⟨rfl,rfl,?_⟩
 refine Zc he fun he=>?_
 refine Zc he fun he=>?_
 refine Zl mixed Ze Zn6 (S:=Int×(List Int)) (I:=(fun (i,out)=>(Zo [(1,.c (.int .i64 cell)),(2,.c (.ptr 10000000 0)),(5,.c (.own 10000001 false)),(12,.c (.int .i64 (((m_0,m_1).1.getD cell.toNat 0)+(1:Int)))),(13,.c (.int .i64 i))],[(10000000,.rc [.imm y0_ (m_0,m_1).1,.imm y4_ (m_0,m_1).2]),(10000001,.sl 3 y0_ out .shallow)]))) (f:=Zeg (m_0,m_1) cell) (K:=(fun r=>k (.c (.own 900 false)) [(900,.sl 3 y0_ r .shallow)])) he (Za [(10000000,2)] rfl rfl ⟨⟨.inl rfl,.inl rfl,Y1⟩,Y1,Y1⟩ ⟨rfl,⟨Y2,rfl⟩,⟨rfl,Y1⟩,rfl,rfl,Y1⟩) ?_
 rintro⟨i,out⟩ J1 he
 refine Zh he (fun he=>?_) fun he=>?_
 ·refine Zk he fun r2_ he=>?_
  refine Zc he fun he=>?_
  refine Zc he fun he=>?_
  have he:=Zb he
  exact⟨((i+(1:Int)),(out++[r2_])),he,(Za [(10000001,22)] rfl rfl ⟨⟨.inl rfl,.inl rfl,Y1⟩,Y2,Y1⟩ ⟨rfl,⟨Y2,rfl⟩,Y3,rfl,rfl,Y1⟩)⟩
 ·have he:=Zb he
  exact⟨rfl,_,_,(Za [(900,10000001)] (l:=[(4,.c (.own 900 false))]) (st':=[(900,.sl 3 y0_ out .shallow)]) rfl rfl Y3 ⟨Y3,Y1⟩),he⟩
def ZiG:Con:=fun args st=>match args,st with
  |[.c (.int .i64 l)],[]=>.opt (Bool) (Zgj l) (fun r=>.ret (.c (.bool r)) [])
  |_,_=>.fail
def Zms:Cfg:={ y:=tys,n:=9,h:=0,tab:=[(127,Zc1)],cut:=[],hand:=[],good:=[],deep:=[],sched:=[] }
theorem Zv9:Zs Tryz.prog Zms:=by
  refine Zn ?_
  simp only[Zms,List.forall_mem_cons]
  exact⟨ZdP,fun p h=>by cases h⟩
theorem Zqq:Zq Tryz.prog 177 ZiG:=by
 refine Zm (C:=Zms) mixed Ze Zv9 (fn:=Tryz.f177) (c:=bd Tryz.f177) (by kernel_rfl) (by kernel_rfl) (by kernel_rfl) (by kernel_rfl) ?_
 intro args st k he
 unfold ZiG at he
 split at he
 rotate_left
 ·exact he.elim
 rename_i l
 have he:Ok (Zgj l) (fun r=>k (.c (.bool r)) []):=he
 refine⟨rfl,rfl,?_⟩
 refine Zh he (fun he=>?_) fun he=>?_
 ·refine Zk he fun r1_ he=>?_
  have he:=Zb he
  exact⟨rfl,_,_,Leads.refl _ _,he⟩
 ·have he:=Zb he
  exact⟨rfl,_,_,Leads.refl _ _,he⟩
def Zdf:Con:=fun args st=>match args,st with
  |[.c (.imm (.int .i64) s_)],[]=>.opt ((List Int)) (Zbu s_) (fun r=>.ret (.c (.own 900 false)) [(900,.sl 3 y0_ r .shallow)])
  |_,_=>.fail
def Zo2:Cfg:={ y:=tys,n:=8,h:=0,tab:=[],cut:=[],hand:=[],good:=[],deep:=[],sched:=[] }
theorem ZuP:Zs Tryz.prog Zo2:=Zn (fun p h=>by cases h)
theorem Zfc:Zq Tryz.prog 75 Zdf:=by
 refine Zm (C:=Zo2) mixed Ze ZuP (fn:=Tryz.f75) (c:=bd Tryz.f75) (by kernel_rfl) (by kernel_rfl) (by kernel_rfl) (by kernel_rfl) ?_
 intro args st k he
 unfold Zdf at he
 split at he
 rotate_left
 ·exact he.elim
 rename_i s_
 have he:Ok (Zbu s_) (fun r=>k (.c (.own 900 false)) [(900,.sl 3 y0_ r .shallow)]):=he
 refine⟨rfl,rfl,?_⟩
 refine fun b1_ hb1_=>?_
 have he:=ZB4 he hb1_
 refine And.intro (fun hb=>?_) (fun hb=>?_)
 ·have he:=ZAc he hb
  have he:=Zb he
  exact⟨rfl,_,_,(Za [] (l:=[(2,.c (.own 900 false))]) (st':=[(900,.sl 3 y0_ ([]:List Int) .shallow)]) rfl rfl ⟨Y1,Y1⟩ ⟨⟨rfl,Y1⟩,Y1⟩),he⟩
 ·have he:=ZAb he hb
  refine Zc he fun he=>?_
  have he:=Zb he
  exact⟨rfl,_,_,(Za [(900,7)] (l:=[(2,.c (.own 900 false))]) (st':=[(900,.sl 3 y0_ (([]:List Int)++s_) .shallow)]) rfl rfl Y3 ⟨Y3,Y1⟩),he⟩
def Zen:Con:=fun args st=>match args,st with
  |[.c (.int .i64 l)],[]=>.opt (Int) (ZcO l) (fun r=>.ret (.c (.int .i64 r)) [])
  |_,_=>.fail
def ZpQ:Cfg:={ y:=tys,n:=7,h:=0,tab:=[],cut:=[],hand:=[],good:=[],deep:=[],sched:=[] }
theorem Zvg:Zs Tryz.prog ZpQ:=Zn (fun p h=>by cases h)
theorem ZhZ:Zq Tryz.prog 170 Zen:=by
 refine Zm (C:=ZpQ) mixed Ze Zvg (fn:=Tryz.f170) (c:=bd Tryz.f170) (by kernel_rfl) (by kernel_rfl) (by kernel_rfl) (by kernel_rfl) ?_
 intro args st k he
 unfold Zen at he
 split at he
 rotate_left
 ·exact he.elim
 rename_i l
 have he:Ok (ZcO l) (fun r=>k (.c (.int .i64 r)) []):=he
 refine⟨rfl,rfl,?_⟩
 refine Zc he fun he=>?_
 have he:=Zb he
 exact⟨rfl,_,_,Leads.refl _ _,he⟩
def ZpR:Con:=fun args st=>match args,st with
  |[.c (.int .i64 a),.c (.int .i64 b)],[]=>.opt (Int) (Zfp a b) (fun r=>.ret (.c (.int .i64 r)) [])
  |_,_=>.fail
def ZlF:Cfg:={ y:=tys,n:=10,h:=0,tab:=[(170,Zen)],cut:=[],hand:=[],good:=[],deep:=[],sched:=[] }
theorem Zve:Zs Tryz.prog ZlF:=by
  refine Zn ?_
  simp only[ZlF,List.forall_mem_cons]
  exact⟨ZhZ,fun p h=>by cases h⟩
theorem Zu8:Zq Tryz.prog 180 ZpR:=by
 refine Zm (C:=ZlF) mixed Ze Zve (fn:=Tryz.f180) (c:=bd Tryz.f180) (by kernel_rfl) (by kernel_rfl) (by kernel_rfl) (by kernel_rfl) ?_
 intro args st k he
 unfold ZpR at he
 split at he
 rotate_left
 ·exact he.elim
 rename_i a b
 have he:Ok (Zfp a b) (fun r=>k (.c (.int .i64 r)) []):=he
 refine⟨rfl,rfl,?_⟩
 refine Zk he fun r1_ he=>?_
 refine Zk he fun r2_ he=>?_
 refine Zc he fun he=>?_
 have he:=Zb he
 exact⟨rfl,_,_,Leads.refl _ _,he⟩
def ZeC:Con:=ZAs 180 Zfp
theorem Zj1:Zq Tryz.prog 179 ZeC:=ZA4 ZEi Zu8 (fun x y=>rfl)
def ZiK:Con:=fun args st=>match args,st with
  |[.c (.own 0 false)],[(0,.sl 3 (.int .i64) s_ .shallow)]=>.opt ((List Int)) (Zfj s_) (fun r=>.ret (.c (.own 900 false)) [(0,.dead),(900,.sl 3 y0_ r .shallow)])
  |_,_=>.fail
def Znf:Cfg:={ y:=tys,n:=61,h:=1,tab:=[],cut:=[14],hand:=[],good:=[],deep:=[],sched:=[] }
theorem Zgb:Zs Tryz.prog Znf:=Zn (fun p h=>by cases h)
theorem ZsA:Zq Tryz.prog 181 ZiK:=by
 refine Zm (C:=Znf) mixed Ze Zgb (fn:=Tryz.f181) (c:=bd Tryz.f181) (by kernel_rfl) (by kernel_rfl) (by kernel_rfl) (by kernel_rfl) ?_
 intro args st k he
 unfold ZiK at he
 split at he
 rotate_left
 ·exact he.elim
 rename_i s_
 have he:Ok (Zfj s_) (fun r=>k (.c (.own 900 false)) [(0,.dead),(900,.sl 3 y0_ r .shallow)]):=he
 refine⟨rfl,rfl,?_⟩
 refine Zh he (fun he=>?_) fun he=>?_
 ·have he:=Zb he
  exact⟨rfl,_,_,(Za [(900,0)] (l:=[(2,.c (.own 900 false))]) (st':=[(0,.dead),(900,.sl 3 y0_ s_ .shallow)]) rfl rfl ⟨Y1,Y2,Y1⟩ ⟨Y3,Y1⟩),he⟩
 ·refine Zl mixed Ze Zgb (S:=Int) (I:=(fun k_=>(Zo [(0,.c (.own 0 false)),(3,.c (.int .i64 k_))],[(0,.sl 3 y0_ s_ .shallow)]))) (f:=Zfr s_) (K:=(fun r=>k (.c (.own 900 false)) [(0,.dead),(900,.sl 3 y0_ r .shallow)])) he (Za [] rfl rfl Y3 ⟨Y3,rfl,Y1⟩) ?_
  rintro k_ J1 he
  refine Zh he (fun he=>?_) fun he=>?_
  ·refine And.intro (by kernel_rfl) ?_
   refine Zc he fun he=>?_
   refine Zc he fun he=>?_
   refine Zc he fun he=>?_
   refine Zh he (fun he=>?_) fun he=>?_
   ·refine Zc he fun he=>?_
    refine Zt mixed Ze Zgb (S:=Int×(List Int)) (I:=(fun (k_2,s_2)=>(Zo [(0,.c (.own 0 false)),(3,.c (.int .i64 k_2))],[(0,.sl 3 y0_ s_2 .shallow)]))) (B:=fun s=>Ok (Zip s) (LK J1 (fun r=>k (.c (.own 900 false)) [(0,.dead),(900,.sl 3 y0_ r .shallow)]))) ?_ ?_
    ·rintro⟨k_2,s_2⟩ he
     refine Zc he fun he=>?_
     refine Zc he fun he=>?_
     have he:=Zb he
     exact⟨rfl,_,_,(Za [(900,59)] (l:=[(2,.c (.own 900 false))]) (st':=[(0,.dead),(900,.sl 3 y0_ ((s_2.take k_2.toNat++List.replicate (s_2.length - k_2.toNat) (0:Int)).take k_2.toNat) .shallow)]) rfl rfl ⟨Y1,Y2,Y1⟩ ⟨Y3,Y1⟩),he⟩
    ·skip
     refine Zl mixed Ze Zgb (S:=Int×Int×(List Int)) (I:=(fun (k_1,k2_,s_1)=>(Zo [(0,.c (.own 0 false)),(3,.c (.int .i64 k_1)),(4,.c (.view 0 k_)),(5,.c (.int .i64 k2_))],[(0,.sl 3 y0_ s_1 .shallow)]))) (f:=Zfs k_) (K:=(LK J1 (fun r=>k (.c (.own 900 false)) [(0,.dead),(900,.sl 3 y0_ r .shallow)]))) he (Za [] rfl rfl Y3 ⟨Y3,rfl,⟨Y2,rfl⟩,rfl,Y1⟩) ?_
     rintro⟨k_1,k2_,s_1⟩ J2 he
     refine Zh he (fun he=>?_) fun he=>?_
     ·refine And.intro (by kernel_rfl) ?_
      refine Zc he fun he=>?_
      refine Zc he fun he=>?_
      refine Zc he fun he=>?_
      refine Zh he (fun he=>?_) fun he=>?_
      ·refine Zc he fun he=>?_
       refine Zc he fun he=>?_
       refine Zc he fun he=>?_
       refine Zc he fun he=>?_
       have he:=Zb he
       exact⟨((k_1+(1:Int)),(k2_+(1:Int)),(s_1.set k_1.toNat (s_1.getD (k_+k2_).toNat 0))),he,(Za [] rfl rfl Y3 ⟨Y3,rfl,⟨Y2,rfl⟩,rfl,Y1⟩)⟩
      ·refine Zc he fun he=>?_
       have he:=Zb he
       exact⟨(k_1,(k2_+(1:Int)),s_1),he,(Za [] rfl rfl Y3 ⟨Y3,rfl,⟨Y2,rfl⟩,rfl,Y1⟩)⟩
     ·exact⟨(k_1,s_1),ZbH he,(Za [] rfl rfl Y3 ⟨Y3,rfl,Y1⟩)⟩
   ·refine Zc he fun he=>?_
    have he:=Zb he
    exact⟨(k_+(1:Int)),he,(Za [] rfl rfl Y3 ⟨Y3,rfl,Y1⟩)⟩
  ·have he:=Zb he
   exact⟨rfl,_,_,(Za [(900,0)] (l:=[(2,.c (.own 900 false))]) (st':=[(0,.dead),(900,.sl 3 y0_ s_ .shallow)]) rfl rfl ⟨Y1,Y2,Y1⟩ ⟨Y3,Y1⟩),he⟩
def Zhn:Con:=fun args st=>match args,st with
  |[.c (.imm (.int .i64) lits)],[]=>.opt (Bool×Int×(List D5_)) (Zfz lits) (fun r=>.ret (.tup [.agg [.own 901 false,.int .i64 r.2.1],.c (.bool r.1)]) [(900,.rc [.own 901 false,.int .i64 r.2.1]),(901,.sl 155 y5_ r.2.2 .shallow)])
  |_,_=>.fail
def Znc:Cfg:={ y:=tys,n:=52,h:=0,tab:=[(75,Zdf),(177,ZiG),(178,Zd2),(179,ZeC),(181,ZiK)],cut:=[],hand:=[(179,[0]),(181,[0])],good:=[],deep:=[],sched:=[] }
theorem ZnQ:Zs Tryz.prog Znc:=by
  refine Zn ?_
  simp only[Znc,List.forall_mem_cons]
  exact⟨Zfc,Zqq,Zif,Zj1,ZsA,fun p h=>by cases h⟩
theorem ZnF:Zq Tryz.prog 119 Zhn:=by
 refine Zm (C:=Znc) mixed Ze ZnQ (fn:=Tryz.f119) (c:=bd Tryz.f119) (by kernel_rfl) (by kernel_rfl) (by kernel_rfl) (by kernel_rfl) ?_
 intro args st k he
 unfold Zhn at he
 split at he
 rotate_left
 ·exact he.elim
 rename_i lits
 have he:Ok (Zfz lits) (fun r=>k (.tup [.agg [.own 901 false,.int .i64 r.2.1],.c (.bool r.1)]) [(900,.rc [.own 901 false,.int .i64 r.2.1]),(901,.sl 155 y5_ r.2.2 .shallow)]):=he
 refine⟨rfl,rfl,?_⟩
 refine Zh he (fun he=>?_) fun he=>?_
 ·have he:=Zb he
  exact⟨rfl,_,_,(Za [(900,2)] (l:=[(2,.c (.ptr 900 0)),(3,.c (.bool false))]) (st':=[(900,.rc [.own 901 false,.int .i64 (0:Int)]),(901,.sl 155 y5_ ([]:List D5_) .shallow)]) rfl rfl ⟨⟨⟨rfl,Y1⟩,rfl,Y1⟩,Y1,Y1⟩ ⟨⟨Y2,rfl⟩,.inr rfl,Y1⟩),he⟩
 ·refine Zl mixed Ze ZnQ (S:=Int) (I:=(fun i=>(Zo [(0,.c (.imm y0_ lits)),(2,.c (.ptr 10000000 0)),(14,.c (.imm y0_ lits)),(15,.c (.int .i64 (lits.length:Int))),(16,.c (.int .i64 i))],[(10000000,.rc [.nil,.int .i64 (0:Int)])]))) (f:=ZiN lits) (K:=(fun r=>k (.tup [.agg [.own 901 false,.int .i64 r.2.1],.c (.bool r.1)]) [(900,.rc [.own 901 false,.int .i64 r.2.1]),(901,.sl 155 y5_ r.2.2 .shallow)])) he (Za [(10000000,2)] rfl rfl ⟨⟨rfl,rfl,Y1⟩,Y1⟩ ⟨.inl rfl,⟨Y2,rfl⟩,.inl rfl,rfl,rfl,Y1⟩) ?_
  rintro i J1 he
  refine Zh he (fun he=>?_) fun he=>?_
  ·refine Zc he fun he=>?_
   refine Zk he fun r1_ he=>?_
   refine ZK he (fun he=>?_) fun he=>?_
   ·refine Zc he fun he=>?_
    refine Zk he fun r2_ he=>?_
    refine Zh he (fun he=>?_) fun he=>?_
    ·have he:=Zb he
     exact⟨rfl,_,_,(Za [(900,10000000)] (l:=[(2,.c (.ptr 900 0)),(3,.c (.bool false))]) (st':=[(900,.rc [.own 901 false,.int .i64 (0:Int)]),(901,.sl 155 y5_ ([]:List D5_) .shallow)]) rfl rfl ⟨⟨⟨rfl,Y1⟩,rfl,Y1⟩,Y1,Y1⟩ ⟨⟨Y2,rfl⟩,.inr rfl,Y1⟩),he⟩
    ·refine Zc he fun he=>?_
     have he:=Zb he
     exact⟨(i+(1:Int)),he,(Za [] rfl rfl ⟨⟨rfl,rfl,Y1⟩,Y1⟩ ⟨.inl rfl,⟨Y2,rfl⟩,.inl rfl,rfl,rfl,Y1⟩)⟩
   ·have he:=Zb he
    exact⟨rfl,_,_,(Za [(900,10000000)] (l:=[(2,.c (.ptr 900 0)),(3,.c (.bool false))]) (st':=[(900,.rc [.own 901 false,.int .i64 (0:Int)]),(901,.sl 155 y5_ ([]:List D5_) .shallow)]) rfl rfl ⟨⟨⟨rfl,Y1⟩,rfl,Y1⟩,Y1,Y1⟩ ⟨⟨Y2,rfl⟩,.inr rfl,Y1⟩),he⟩
  ·refine Zk he fun r3_ he=>?_
   refine Zk he fun r4_ he=>?_
   refine Zk he fun r5_ he=>?_
   refine Zl mixed Ze ZnQ (S:=Int×(List D5_)) (I:=(fun (i1,c_0)=>(Zo [(2,.c (.ptr 10001000 0)),(7,.c (.ptr 10001001 0)),(37,.c (.own 10001002 false)),(38,.c (.int .i64 (r5_.length:Int))),(39,.c (.int .i64 i1))],[(10001000,.rc [.nil,.int .i64 (0:Int)]),(10001001,.rc [.own 10001003 false,.int .i64 (1:Int)]),(10001002,.sl 3 y0_ r5_ .shallow),(10001003,.sl 155 y5_ c_0 .shallow)]))) (f:=ZiO r5_) (K:=(LK J1 (fun r=>k (.tup [.agg [.own 901 false,.int .i64 r.2.1],.c (.bool r.1)]) [(900,.rc [.own 901 false,.int .i64 r.2.1]),(901,.sl 155 y5_ r.2.2 .shallow)]))) he (Za [(10001000,10000000),(10001001,7),(10001002,38900)] rfl rfl ⟨⟨rfl,rfl,Y1⟩,⟨⟨rfl,Y1⟩,rfl,Y1⟩,Y2,Y1,Y1⟩ ⟨⟨Y2,rfl⟩,⟨Y2,rfl⟩,Y3,rfl,rfl,Y1⟩) ?_
   rintro⟨i1,c_0⟩ J2 he
   refine Zh he (fun he=>?_) fun he=>?_
   ·refine Zc he fun he=>?_
    refine Zc he fun he=>?_
    refine Zc he fun he=>?_
    have he:=Zb he
    exact⟨((i1+(1:Int)),(c_0++[((1:Int),(r5_.getD i1.toNat 0))])),he,(Za [(10001003,48)] rfl rfl ⟨⟨rfl,rfl,Y1⟩,⟨Y3,rfl,Y1⟩,Y2,Y2,Y1⟩ ⟨⟨Y2,rfl⟩,⟨Y2,rfl⟩,Y3,rfl,rfl,Y1⟩)⟩
   ·have he:=Zb he
    exact⟨rfl,_,_,(Za [(900,10001000),(901,10001003)] (l:=[(2,.c (.ptr 900 0)),(3,.c (.bool true))]) (st':=[(900,.rc [.own 901 false,.int .i64 (1:Int)]),(901,.sl 155 y5_ c_0 .shallow)]) rfl rfl ⟨⟨Y3,rfl,Y1⟩,Y2,Y1⟩ ⟨⟨Y2,rfl⟩,.inr rfl,Y1⟩),he⟩
def ZiF:Con:=fun args st=>match args,st with
  |[.c (.imm (.int .i64) vars)],[]=>.opt (Int×(List D5_)) (Zgi vars) (fun r=>.ret (.agg [.own 901 false,.int .i64 r.1]) [(900,.rc [.own 901 false,.int .i64 r.1]),(901,.sl 155 y5_ r.2 .shallow)])
  |_,_=>.fail
def Zqg:Cfg:={ y:=tys,n:=26,h:=0,tab:=[],cut:=[],hand:=[],good:=[],deep:=[],sched:=[] }
theorem ZqI:Zs Tryz.prog Zqg:=Zn (fun p h=>by cases h)
theorem Zqp:Zq Tryz.prog 120 ZiF:=by
 refine Zm (C:=Zqg) mixed Ze ZqI (fn:=Tryz.f120) (c:=bd Tryz.f120) (by kernel_rfl) (by kernel_rfl) (by kernel_rfl) (by kernel_rfl) ?_
 intro args st k he
 unfold ZiF at he
 split at he
 rotate_left
 ·exact he.elim
 rename_i vars
 have he:Ok (Zgi vars) (fun r=>k (.agg [.own 901 false,.int .i64 r.1]) [(900,.rc [.own 901 false,.int .i64 r.1]),(901,.sl 155 y5_ r.2 .shallow)]):=he
 refine⟨rfl,rfl,?_⟩
 refine Zc he fun he=>?_
 refine Zl mixed Ze ZqI (S:=Int×(List D5_)) (I:=(fun (i,c_0)=>(Zo [(2,.c (.ptr 10000000 0)),(3,.c (.ptr 10000001 0)),(10,.c (.imm y0_ vars)),(11,.c (.int .i64 (vars.length:Int))),(12,.c (.int .i64 i))],[(10000000,.rc [.nil,.int .i64 (0:Int)]),(10000001,.rc [.own 10000002 false,.int .i64 ((vars.length:Int) - (1:Int))]),(10000002,.sl 155 y5_ c_0 .shallow)]))) (f:=ZfG vars) (K:=(fun r=>k (.agg [.own 901 false,.int .i64 r.1]) [(900,.rc [.own 901 false,.int .i64 r.1]),(901,.sl 155 y5_ r.2 .shallow)])) he (Za [(10000000,2),(10000001,3)] rfl rfl ⟨⟨rfl,rfl,Y1⟩,⟨⟨rfl,Y1⟩,rfl,Y1⟩,Y1,Y1⟩ ⟨⟨Y2,rfl⟩,⟨Y2,rfl⟩,.inl rfl,rfl,rfl,Y1⟩) ?_
 rintro⟨i,c_0⟩ J1 he
 refine Zh he (fun he=>?_) fun he=>?_
 ·refine Zc he fun he=>?_
  refine Zc he fun he=>?_
  refine Zc he fun he=>?_
  refine Zc he fun he=>?_
  have he:=Zb he
  exact⟨((i+(1:Int)),(c_0++[((1:Int),(0 - (vars.getD i.toNat 0)))])),he,(Za [(10000002,22)] rfl rfl ⟨⟨rfl,rfl,Y1⟩,⟨Y3,rfl,Y1⟩,Y2,Y1⟩ ⟨⟨Y2,rfl⟩,⟨Y2,rfl⟩,.inl rfl,rfl,rfl,Y1⟩)⟩
 ·have he:=Zb he
  exact⟨rfl,_,_,(Za [(900,10000000),(901,10000002)] (l:=[(2,.c (.ptr 900 0))]) (st':=[(900,.rc [.own 901 false,.int .i64 ((vars.length:Int) - (1:Int))]),(901,.sl 155 y5_ c_0 .shallow)]) rfl rfl ⟨⟨Y3,rfl,Y1⟩,Y2,Y1⟩ ⟨⟨Y2,rfl⟩,Y1⟩),he⟩
def ZeY:Con:=fun args st=>match args,st with
  |[.agg [.imm (.pair (.int .i64) (.int .i64)) c__0,.int .i64 c__1]],[]=>.opt (Bool) (Zdq (c__0,c__1)) (fun r=>.ret (.c (.bool r)) [])
  |_,_=>.fail
def ZhO:Cfg:={ y:=tys,n:=37,h:=0,tab:=[(127,Zc1),(170,Zen),(177,ZiG)],cut:=[],hand:=[],good:=[],deep:=[],sched:=[] }
theorem Zmc:Zs Tryz.prog ZhO:=by
  refine Zn ?_
  simp only[ZhO,List.forall_mem_cons]
  exact⟨ZdP,ZhZ,Zqq,fun p h=>by cases h⟩
theorem Zl0:Zq Tryz.prog 223 ZeY:=by
 refine Zm (C:=ZhO) mixed Ze Zmc (fn:=Tryz.f223) (c:=bd Tryz.f223) (by kernel_rfl) (by kernel_rfl) (by kernel_rfl) (by kernel_rfl) ?_
 intro args st k he
 unfold ZeY at he
 split at he
 rotate_left
 ·exact he.elim
 rename_i c__0 c__1
 have he:Ok (Zdq (c__0,c__1)) (fun r=>k (.c (.bool r)) []):=he
 refine⟨rfl,rfl,?_⟩
 refine Zl mixed Ze Zmc (S:=Int×Int) (I:=(fun (before,i)=>(Zo [(1,.c (.ptr 10000000 0)),(3,.c (.int .i64 before)),(7,.c (.imm y5_ (c__0,c__1).1)),(8,.c (.int .i64 ((c__0,c__1).1.length:Int))),(9,.c (.int .i64 i))],[(10000000,.rc [.imm y5_ (c__0,c__1).1,.int .i64 (c__0,c__1).2])]))) (f:=Zha (c__0,c__1)) (K:=(fun r=>k (.c (.bool r)) [])) he (Za [(10000000,1)] rfl rfl ⟨⟨.inl rfl,rfl,Y1⟩,Y1⟩ ⟨⟨Y2,rfl⟩,rfl,.inl rfl,rfl,rfl,Y1⟩) ?_
 rintro⟨before,i⟩ J1 he
 refine Zh he (fun he=>?_) fun he=>?_
 ·refine Zc he fun he=>?_
  refine Zk he fun r1_ he=>?_
  refine ZK he (fun he=>?_) fun he=>?_
  ·refine Zk he fun r2_ he=>?_
   refine ZK he (fun he=>?_) fun he=>?_
   ·refine Zk he fun r3_ he=>?_
    refine Zh he (fun he=>?_) fun he=>?_
    ·have he:=Zb he
     exact⟨rfl,_,_,(Za [] (l:=[(2,.c (.bool false))]) (st':=[]) rfl rfl trivial ⟨.inr rfl,Y1⟩),he⟩
    ·refine Zk he fun r4_ he=>?_
     refine Zc he fun he=>?_
     have he:=Zb he
     exact⟨(r4_,(i+(1:Int))),he,(Za [] rfl rfl ⟨⟨.inl rfl,rfl,Y1⟩,Y1⟩ ⟨⟨Y2,rfl⟩,rfl,.inl rfl,rfl,rfl,Y1⟩)⟩
   ·have he:=Zb he
    exact⟨rfl,_,_,(Za [] (l:=[(2,.c (.bool false))]) (st':=[]) rfl rfl trivial ⟨.inr rfl,Y1⟩),he⟩
  ·have he:=Zb he
   exact⟨rfl,_,_,(Za [] (l:=[(2,.c (.bool false))]) (st':=[]) rfl rfl trivial ⟨.inr rfl,Y1⟩),he⟩
 ·refine Zk he fun r5_ he=>?_
  have he:=Zb he
  exact⟨rfl,_,_,(Za [] (l:=[(2,.c (.bool r5_))]) (st':=[]) rfl rfl trivial ⟨.inl rfl,Y1⟩),he⟩
def Zfx:Con:=fun args st=>match args,st with
  |[.agg [.own 0 false,.int .i64 c_1]],[(0,.sl 155 (.pair (.int .i64) (.int .i64)) o0 .shallow)]=>.opt (Bool×Int×(List D5_)) (ZbZ c_1 o0) (fun r=>.ret (.tup [.agg [.own 901 false,.int .i64 r.2.1],.c (.bool r.1)]) [(0,.dead),(900,.rc [.own 901 false,.int .i64 r.2.1]),(901,.sl 155 y5_ r.2.2 .shallow)])
  |_,_=>.fail
def Zfu:Cfg:={ y:=tys,n:=9,h:=1,tab:=[(223,ZeY)],cut:=[],hand:=[],good:=[],deep:=[],sched:=[] }
theorem ZpN:Zs Tryz.prog Zfu:=by
  refine Zn ?_
  simp only[Zfu,List.forall_mem_cons]
  exact⟨Zl0,fun p h=>by cases h⟩
theorem ZpH:Zq Tryz.prog 187 Zfx:=by
 refine Zm (C:=Zfu) mixed Ze ZpN (fn:=Tryz.f187) (c:=bd Tryz.f187) (by kernel_rfl) (by kernel_rfl) (by kernel_rfl) (by kernel_rfl) ?_
 intro args st k he
 unfold Zfx at he
 split at he
 rotate_left
 ·exact he.elim
 rename_i c_1 o0
 have he:Ok (ZbZ c_1 o0) (fun r=>k (.tup [.agg [.own 901 false,.int .i64 r.2.1],.c (.bool r.1)]) [(0,.dead),(900,.rc [.own 901 false,.int .i64 r.2.1]),(901,.sl 155 y5_ r.2.2 .shallow)]):=he
 refine⟨rfl,rfl,?_⟩
 refine Zk he fun r1_ he=>?_
 refine Zh he (fun he=>?_) fun he=>?_
 ·have he:=Zb he
  exact⟨rfl,_,_,(Za [(900,2)] (l:=[(2,.c (.ptr 900 0)),(3,.c (.bool false))]) (st':=[(0,.dead),(900,.rc [.own 901 false,.int .i64 (0:Int)]),(901,.sl 155 y5_ ([]:List D5_) .shallow)]) rfl rfl ⟨Y1,⟨⟨rfl,Y1⟩,rfl,Y1⟩,Y1,Y1⟩ ⟨⟨Y2,rfl⟩,.inr rfl,Y1⟩),he⟩
 ·have he:=Zb he
  exact⟨rfl,_,_,(Za [(900,2),(901,0)] (l:=[(2,.c (.ptr 900 0)),(3,.c (.bool true))]) (st':=[(0,.dead),(900,.rc [.own 901 false,.int .i64 c_1]),(901,.sl 155 y5_ o0 .shallow)]) rfl rfl ⟨Y1,⟨Y3,rfl,Y1⟩,Y2,Y1⟩ ⟨⟨Y2,rfl⟩,.inr rfl,Y1⟩),he⟩
def Zmh:Con:=fun args st=>match args,st with
  |[.c (.imm (.pair (.int .i64) (.int .i64)) a0),.c (.int .i64 a1)],[]=>.opt (Bool×Int×(List D5_)) (Zgf a0 a1) (fun r=>.ret (.tup [.agg [.own 901 false,.int .i64 r.2.1],.c (.bool r.1)]) [(900,.rc [.own 901 false,.int .i64 r.2.1]),(901,.sl 155 y5_ r.2.2 .shallow)])
  |_,_=>.fail
def Zpk:Cfg:={ y:=tys,n:=84,h:=0,tab:=[(187,Zfx)],cut:=[10,18,20],hand:=[(187,[0])],good:=[],deep:=[],sched:=[(7,(.first 0 (.first 5 (.alt 1 (.first 2 (.first 3 (.alt 4 (.alt 6 (.first 7 (.first 8 (.alt 9 .done .stop))) .stop) (.alt 6 (.alt 4 (.first 7 (.first 8 (.alt 9 .done .stop))) .stop) .stop)))) (.alt 6 (.alt 1 (.first 2 (.first 3 (.alt 4 (.first 7 (.first 8 (.alt 9 .done .stop))) .stop))) .stop) .stop))))),(8,(.first 0 (.first 4 (.alt 1 (.first 2 (.alt 3 (.alt 5 (.first 6 (.first 7 (.alt 8 .done .stop))) .stop) (.alt 5 (.alt 3 (.first 6 (.first 7 (.alt 8 .done .stop))) .stop) .stop))) (.alt 5 (.alt 1 (.first 2 (.alt 3 (.first 6 (.first 7 (.alt 8 .done .stop))) .stop)) .stop) .stop)))))],nils:=[187] }
theorem Zhj:Zs Tryz.prog Zpk:=by
  refine Zn ?_
  simp only[Zpk,List.forall_mem_cons]
  exact⟨ZpH,fun p h=>by cases h⟩
theorem Ztd:Zq Tryz.prog 129 Zmh:=by
 refine Zm (C:=Zpk) mixed Ze Zhj (fn:=Tryz.f129) (c:=bd Tryz.f129) (by kernel_rfl) (by kernel_rfl) (by kernel_rfl) (by kernel_rfl) ?_
 intro args st k he
 unfold Zmh at he
 split at he
 rotate_left
 ·exact he.elim
 rename_i a0 a1
 have he:Ok (Zgf a0 a1) (fun r=>k (.tup [.agg [.own 901 false,.int .i64 r.2.1],.c (.bool r.1)]) [(900,.rc [.own 901 false,.int .i64 r.2.1]),(901,.sl 155 y5_ r.2.2 .shallow)]):=he
 refine⟨rfl,rfl,?_⟩
 refine Zt mixed Ze Zhj (S:=Int×(List Int)) (I:=(fun (i3,i4)=>(Zo [(1,.c (.int .i64 i3)),(4,.c (.ptr 10001000 0)),(6,.c (.eptr 10001001 (0:Int) 0))],[(10001000,.rc [.nil,.int .i64 (0:Int)]),(10001001,.sl 199 y0_ i4 .shallow)]))) (B:=fun s=>Ok (Zia s) (fun r=>k (.tup [.agg [.own 901 false,.int .i64 r.2.1],.c (.bool r.1)]) [(900,.rc [.own 901 false,.int .i64 r.2.1]),(901,.sl 155 y5_ r.2.2 .shallow)])) ?_ ?_
 ·rintro⟨i3,i4⟩ he
  refine Zt mixed Ze Zhj (S:=Int×(List D5_)) (I:=(fun (i9,i_03)=>(Zo [(1,.c (.int .i64 i9)),(4,.c (.ptr 10005000 0)),(9,.c (.ptr 10005001 0))],[(10005000,.rc [.nil,.int .i64 (0:Int)]),(10005001,.rc [.own 10005002 false,.int .i64 (0:Int)]),(10005002,.sl 155 y5_ i_03 .shallow)]))) (B:=fun s=>Ok (Zln s) (fun r=>k (.tup [.agg [.own 901 false,.int .i64 r.2.1],.c (.bool r.1)]) [(900,.rc [.own 901 false,.int .i64 r.2.1]),(901,.sl 155 y5_ r.2.2 .shallow)])) ?_ ?_
  ·rintro⟨i9,i_03⟩ he
   refine Zk he fun r1_ he=>?_
   have he:=Zb he
   exact⟨rfl,_,_,(Za [(900,10005000),(901,82901)] (l:=[(4,.c (.ptr 900 0)),(5,.c (.bool r1_.1))]) (st':=[(900,.rc [.own 901 false,.int .i64 r1_.2.1]),(901,.sl 155 y5_ r1_.2.2 .shallow)]) rfl rfl ⟨⟨Y3,rfl,Y1⟩,Y2,Y1⟩ ⟨⟨Y2,rfl⟩,.inl rfl,Y1⟩),he⟩
  ·skip
   refine Zc he fun he=>?_
   refine Zl mixed Ze Zhj (S:=Int×Int×(List D5_)) (I:=(fun (i5,i6,i_01)=>(Zo [(1,.c (.int .i64 i5)),(4,.c (.ptr 10002000 0)),(9,.c (.ptr 10002001 0)),(44,.agg [.int .i64 (i4.getD 0 0),.int .i64 (i4.getD 1 0),.int .i64 (i4.getD 2 0),.int .i64 (i4.getD 3 0),.int .i64 (i4.getD 4 0),.int .i64 (i4.getD 5 0),.int .i64 (i4.getD 6 0),.int .i64 (i4.getD 7 0),.int .i64 (i4.getD 8 0),.int .i64 (i4.getD 9 0),.int .i64 (i4.getD 10 0),.int .i64 (i4.getD 11 0),.int .i64 (i4.getD 12 0)]),(45,.c (.int .i64 i6))],[(10002000,.rc [.nil,.int .i64 (0:Int)]),(10002001,.rc [.own 10002002 false,.int .i64 (0:Int)]),(10002002,.sl 155 y5_ i_01 .shallow)]))) (f:=ZeN i4) (K:=(fun r=>k (.tup [.agg [.own 901 false,.int .i64 r.2.1],.c (.bool r.1)]) [(900,.rc [.own 901 false,.int .i64 r.2.1]),(901,.sl 155 y5_ r.2.2 .shallow)])) he (Za [(10002000,10001000),(10002001,9)] rfl rfl ⟨⟨rfl,rfl,Y1⟩,⟨⟨rfl,Y1⟩,rfl,Y1⟩,Y1,Y1⟩ ⟨rfl,⟨Y2,rfl⟩,⟨Y2,rfl⟩,⟨rfl,rfl,rfl,rfl,rfl,rfl,rfl,rfl,rfl,rfl,rfl,rfl,rfl,Y1⟩,rfl,Y1⟩) ?_
   rintro⟨i5,i6,i_01⟩ J1 he
   refine Zh he (fun he=>?_) fun he=>?_
   ·refine Zc he fun he=>?_
    refine Zh he (fun he=>?_) fun he=>?_
    ·refine Zc he fun he=>?_
     refine Zc he fun he=>?_
     have he:=Zb he
     exact⟨(i5,(i6+(1:Int)),(i_01++[(([(i4.getD 0 0),(i4.getD 1 0),(i4.getD 2 0),(i4.getD 3 0),(i4.getD 4 0),(i4.getD 5 0),(i4.getD 6 0),(i4.getD 7 0),(i4.getD 8 0),(i4.getD 9 0),(i4.getD 10 0),(i4.getD 11 0),(i4.getD 12 0)].getD i6.toNat 0),i6)])),he,(Za [(10002002,58)] rfl rfl ⟨⟨rfl,rfl,Y1⟩,⟨Y3,rfl,Y1⟩,Y2,Y1⟩ ⟨rfl,⟨Y2,rfl⟩,⟨Y2,rfl⟩,⟨rfl,rfl,rfl,rfl,rfl,rfl,rfl,rfl,rfl,rfl,rfl,rfl,rfl,Y1⟩,rfl,Y1⟩)⟩
    ·refine Zh he (fun he=>?_) fun he=>?_
     ·refine Zt mixed Ze Zhj (S:=Int×(List D5_)) (I:=(fun (i8,i_02)=>(Zo [(1,.c (.int .i64 i5)),(4,.c (.ptr 10004000 0)),(9,.c (.ptr 10004001 0)),(11,.c (.int .i64 i8)),(44,.agg [.int .i64 (i4.getD 0 0),.int .i64 (i4.getD 1 0),.int .i64 (i4.getD 2 0),.int .i64 (i4.getD 3 0),.int .i64 (i4.getD 4 0),.int .i64 (i4.getD 5 0),.int .i64 (i4.getD 6 0),.int .i64 (i4.getD 7 0),.int .i64 (i4.getD 8 0),.int .i64 (i4.getD 9 0),.int .i64 (i4.getD 10 0),.int .i64 (i4.getD 11 0),.int .i64 (i4.getD 12 0)]),(45,.c (.int .i64 i6))],[(10004000,.rc [.nil,.int .i64 (0:Int)]),(10004001,.rc [.own 10004002 false,.int .i64 (0:Int)]),(10004002,.sl 155 y5_ i_02 .shallow)]))) (B:=fun s=>Ok (Zlo i5 i6 s) (LK J1 (fun r=>k (.tup [.agg [.own 901 false,.int .i64 r.2.1],.c (.bool r.1)]) [(900,.rc [.own 901 false,.int .i64 r.2.1]),(901,.sl 155 y5_ r.2.2 .shallow)]))) ?_ ?_
      ·rintro⟨i8,i_02⟩ he
       refine Zc he fun he=>?_
       refine Zc he fun he=>?_
       have he:=Zb he
       exact⟨((i5 - i8),(i6+(1:Int)),i_02),he,(Za [(10002000,10004000),(10002001,10004001),(10002002,10004002)] rfl rfl ⟨⟨rfl,rfl,Y1⟩,⟨Y3,rfl,Y1⟩,Y2,Y1⟩ ⟨rfl,⟨Y2,rfl⟩,⟨Y2,rfl⟩,⟨rfl,rfl,rfl,rfl,rfl,rfl,rfl,rfl,rfl,rfl,rfl,rfl,rfl,Y1⟩,rfl,Y1⟩)⟩
      ·skip
       refine Zc he fun he=>?_
       refine Zc he fun he=>?_
       refine Zc he fun he=>?_
       exact⟨(([(i4.getD 0 0),(i4.getD 1 0),(i4.getD 2 0),(i4.getD 3 0),(i4.getD 4 0),(i4.getD 5 0),(i4.getD 6 0),(i4.getD 7 0),(i4.getD 8 0),(i4.getD 9 0),(i4.getD 10 0),(i4.getD 11 0),(i4.getD 12 0)].getD i6.toNat 0),(i_01++[((0 - ([(i4.getD 0 0),(i4.getD 1 0),(i4.getD 2 0),(i4.getD 3 0),(i4.getD 4 0),(i4.getD 5 0),(i4.getD 6 0),(i4.getD 7 0),(i4.getD 8 0),(i4.getD 9 0),(i4.getD 10 0),(i4.getD 11 0),(i4.getD 12 0)].getD i6.toNat 0)),(0 - i6))])),he,(Za [(10004000,10002000),(10004001,10002001),(10004002,71)] rfl rfl ⟨⟨rfl,rfl,Y1⟩,⟨Y3,rfl,Y1⟩,Y2,Y1⟩ ⟨rfl,⟨Y2,rfl⟩,⟨Y2,rfl⟩,rfl,⟨rfl,rfl,rfl,rfl,rfl,rfl,rfl,rfl,rfl,rfl,rfl,rfl,rfl,Y1⟩,rfl,Y1⟩)⟩
     ·refine Zc he fun he=>?_
      have he:=Zb he
      exact⟨(i5,(i6+(1:Int)),i_01),he,(Za [] rfl rfl ⟨⟨rfl,rfl,Y1⟩,⟨Y3,rfl,Y1⟩,Y2,Y1⟩ ⟨rfl,⟨Y2,rfl⟩,⟨Y2,rfl⟩,⟨rfl,rfl,rfl,rfl,rfl,rfl,rfl,rfl,rfl,rfl,rfl,rfl,rfl,Y1⟩,rfl,Y1⟩)⟩
   ·exact⟨(i5,i_01),ZbH he,(Za [(10005000,10002000),(10005001,10002001),(10005002,10002002)] rfl rfl ⟨⟨rfl,rfl,Y1⟩,⟨Y3,rfl,Y1⟩,Y2,Y1⟩ ⟨rfl,⟨Y2,rfl⟩,⟨Y2,rfl⟩,Y1⟩)⟩
 ·skip
  refine Zl mixed Ze Zhj (S:=Int×Int×(List Int)) (I:=(fun (i,i1,i2)=>(Zo [(1,.c (.int .i64 i)),(4,.c (.ptr 10000000 0)),(6,.c (.eptr 10000001 (0:Int) 0)),(12,.c (.imm y5_ a0)),(13,.c (.int .i64 (a0.length:Int))),(14,.c (.int .i64 i1))],[(10000000,.rc [.nil,.int .i64 (0:Int)]),(10000001,.sl 199 y0_ i2 .shallow)]))) (f:=Zgk a0) (K:=(fun r=>k (.tup [.agg [.own 901 false,.int .i64 r.2.1],.c (.bool r.1)]) [(900,.rc [.own 901 false,.int .i64 r.2.1]),(901,.sl 155 y5_ r.2.2 .shallow)])) he (Za [(10000000,4),(10000001,6)] rfl rfl ⟨⟨rfl,rfl,Y1⟩,Y2,Y1⟩ ⟨rfl,⟨Y2,rfl⟩,⟨Y2,rfl,rfl⟩,.inl rfl,rfl,rfl,Y1⟩) ?_
  rintro⟨i,i1,i2⟩ J1 he
  refine Zh he (fun he=>?_) fun he=>?_
  ·refine Zc he fun he=>?_
   refine Zh he (fun he=>?_) fun he=>?_
   ·refine Zc he fun he=>?_
    refine And.intro (by kernel_rfl) ?_
    have he:=ZU he
    have hq1:=he.1
    have he:=he.2
    have he:=ZU he
    have hq2:=he.1
    have he:=he.2
    have he:=ZU he
    have hq3:=he.1
    have he:=he.2
    have he:=ZU he
    have hq4:=he.1
    have he:=he.2
    refine Y5 ?_ ?_
    ·skip
     refine And.intro hq1 ?_
     refine And.intro hq2 ?_
     refine Y5 ?_ ?_
     ·skip
      refine Y4 ?_
      refine And.intro hq3 ?_
      refine And.intro hq2 ?_
      refine Y4 ?_
      refine Zc he fun he=>?_
      have he:=Zb he
      exact⟨((i - (a0.getD i1.toNat (0,0)).1),(i1+(1:Int)),(i2.set (0 - (a0.getD i1.toNat (0,0)).2).toNat ((i2.getD (0 - (a0.getD i1.toNat (0,0)).2).toNat 0) - (a0.getD i1.toNat (0,0)).1))),he,(Za [] rfl rfl ⟨⟨rfl,rfl,Y1⟩,Y2,Y1⟩ ⟨rfl,⟨Y2,rfl⟩,⟨Y2,rfl,rfl⟩,.inl rfl,rfl,rfl,Y1⟩)⟩
     ·skip
      refine Y4 ?_
      refine And.intro hq3 ?_
      refine And.intro hq2 ?_
      refine Y4 ?_
      refine Zc he fun he=>?_
      have he:=Zb he
      exact⟨((i - (a0.getD i1.toNat (0,0)).1),(i1+(1:Int)),(i2.set (0 - (a0.getD i1.toNat (0,0)).2).toNat ((i2.getD (0 - (a0.getD i1.toNat (0,0)).2).toNat 0) - (a0.getD i1.toNat (0,0)).1))),he,(Za [] rfl rfl ⟨⟨rfl,rfl,Y1⟩,Y2,Y1⟩ ⟨rfl,⟨Y2,rfl⟩,⟨Y2,rfl,rfl⟩,.inl rfl,rfl,rfl,Y1⟩)⟩
    ·skip
     refine Y4 ?_
     refine And.intro hq1 ?_
     refine And.intro hq2 ?_
     refine Y4 ?_
     refine And.intro hq3 ?_
     refine And.intro hq2 ?_
     refine Y4 ?_
     refine Zc he fun he=>?_
     have he:=Zb he
     exact⟨((i - (a0.getD i1.toNat (0,0)).1),(i1+(1:Int)),(i2.set (0 - (a0.getD i1.toNat (0,0)).2).toNat ((i2.getD (0 - (a0.getD i1.toNat (0,0)).2).toNat 0) - (a0.getD i1.toNat (0,0)).1))),he,(Za [] rfl rfl ⟨⟨rfl,rfl,Y1⟩,Y2,Y1⟩ ⟨rfl,⟨Y2,rfl⟩,⟨Y2,rfl,rfl⟩,.inl rfl,rfl,rfl,Y1⟩)⟩
   ·refine And.intro (by kernel_rfl) ?_
    have he:=ZU he
    have hq1:=he.1
    have he:=he.2
    have he:=ZU he
    have hq2:=he.1
    have he:=he.2
    have he:=ZU he
    have hq3:=he.1
    have he:=he.2
    refine Y5 ?_ ?_
    ·skip
     refine And.intro hq1 ?_
     refine Y5 ?_ ?_
     ·skip
      refine Y4 ?_
      refine And.intro hq2 ?_
      refine And.intro hq1 ?_
      refine Y4 ?_
      refine Zc he fun he=>?_
      have he:=Zb he
      exact⟨(i,(i1+(1:Int)),(i2.set (a0.getD i1.toNat (0,0)).2.toNat ((i2.getD (a0.getD i1.toNat (0,0)).2.toNat 0)+(a0.getD i1.toNat (0,0)).1))),he,(Za [] rfl rfl ⟨⟨rfl,rfl,Y1⟩,Y2,Y1⟩ ⟨rfl,⟨Y2,rfl⟩,⟨Y2,rfl,rfl⟩,.inl rfl,rfl,rfl,Y1⟩)⟩
     ·skip
      refine Y4 ?_
      refine And.intro hq2 ?_
      refine And.intro hq1 ?_
      refine Y4 ?_
      refine Zc he fun he=>?_
      have he:=Zb he
      exact⟨(i,(i1+(1:Int)),(i2.set (a0.getD i1.toNat (0,0)).2.toNat ((i2.getD (a0.getD i1.toNat (0,0)).2.toNat 0)+(a0.getD i1.toNat (0,0)).1))),he,(Za [] rfl rfl ⟨⟨rfl,rfl,Y1⟩,Y2,Y1⟩ ⟨rfl,⟨Y2,rfl⟩,⟨Y2,rfl,rfl⟩,.inl rfl,rfl,rfl,Y1⟩)⟩
    ·skip
     refine Y4 ?_
     refine And.intro hq1 ?_
     refine Y4 ?_
     refine And.intro hq2 ?_
     refine And.intro hq1 ?_
     refine Y4 ?_
     refine Zc he fun he=>?_
     have he:=Zb he
     exact⟨(i,(i1+(1:Int)),(i2.set (a0.getD i1.toNat (0,0)).2.toNat ((i2.getD (a0.getD i1.toNat (0,0)).2.toNat 0)+(a0.getD i1.toNat (0,0)).1))),he,(Za [] rfl rfl ⟨⟨rfl,rfl,Y1⟩,Y2,Y1⟩ ⟨rfl,⟨Y2,rfl⟩,⟨Y2,rfl,rfl⟩,.inl rfl,rfl,rfl,Y1⟩)⟩
  ·exact⟨(i,i2),ZbH he,(Za [(10001000,10000000),(10001001,10000001)] rfl rfl ⟨⟨rfl,rfl,Y1⟩,Y2,Y1⟩ ⟨rfl,⟨Y2,rfl⟩,⟨Y2,rfl,rfl⟩,Y1⟩)⟩
def ZpS:Con:=ZAt
theorem Zvb:Zq Tryz.prog 182 ZpS:=ZA5 ZEj
end
end Go.AE.Y
