/-
  Walks: each function keeps the contract that its model gives. No conditions.
-/
import Derived.Test.YtaeeiddjpigemaaGreatR8Tab
import Derived.Test.YtaeeiddjpigemaaGreatR8W1
import Derived.Test.YtaeeiddjpigemaaGreatR8S
namespace Go.AE.Y
open Go Go.AE Go.Proofs
set_option linter.unusedVariables false
set_option maxHeartbeats 2000000
set_option maxRecDepth 100000
noncomputable section
def ZpD:Con:=fun args st=>match args,st with
  |[.agg [.imm (.int .i64) m_0,.imm (.pair (.int .i64) (.pair (.sl (.int .i64)) (.pair (.sl (.int .i64)) (.pair (.int .i64) (.sl (.sl (.int .i64))))))) m_1],.c (.int .i64 cell)],[]=>.opt ((List D6_)) (Zma (m_0,m_1) cell) (fun r=>.ret (.c (.own 900 false)) [(900,.sl 89 y6_ r (.deep true .no))])
  |_,_=>.fail
def Zpq:Cfg:={ y:=tys,n:=35,h:=0,tab:=[(133,Ze7),(189,Zhq),(190,Zmj)],cut:=[6],hand:=[],good:=[],deep:=[34],sched:=[(7,(.first 1 (.alt 0 (.alt 2 (.alt 3 (.first 4 .done) .stop) .stop) (.alt 2 (.alt 0 (.alt 3 (.first 4 .done) .stop) .stop) .stop))))] }
theorem ZpP:Zs Tryz.prog Zpq:=by
  refine Zn ?_
  simp only[Zpq,List.forall_mem_cons]
  exact⟨Zij,ZnG,Ztf,fun p h=>by cases h⟩
theorem ZyK:Zq Tryz.prog 131 ZpD:=by
 refine Zm (C:=Zpq) mixed Ze ZpP (fn:=Tryz.f131) (c:=bd Tryz.f131) (by kernel_rfl) (by kernel_rfl) (by kernel_rfl) (by kernel_rfl) ?_
 intro args st k he
 unfold ZpD at he
 split at he
 rotate_left
 ·exact he.elim
 rename_i m_0 m_1 cell
 have he:Ok (Zma (m_0,m_1) cell) (fun r=>k (.c (.own 900 false)) [(900,.sl 89 y6_ r (.deep true .no))]):=he
 refine⟨rfl,rfl,?_⟩
 refine Zt mixed Ze ZpP (S:=(List Int)) (I:=(fun vars1=>(Zo [(5,.c (.own 10001000 false))],[(10001000,.sl 3 y0_ vars1 .shallow)]))) (B:=fun s=>Ok (Ziu s) (fun r=>k (.c (.own 900 false)) [(900,.sl 89 y6_ r (.deep true .no))])) ?_ ?_
 ·rintro vars1 he
  refine Zk he fun r3_ he=>?_
  refine And.intro (by kernel_rfl) ?_
  obtain⟨r5_,hq1,he⟩:=Zb1 he
  refine Y5 ?_ ?_
  ·skip
   refine Y4 ?_
   refine⟨r5_,hq1,?_⟩
   refine Y4 ?_
   have he:=Zb he
   exact⟨rfl,_,_,(Za [(900,34)] (l:=[(4,.c (.own 900 false))]) (st':=[(900,.sl 89 y6_ [(r3_.2.2,r3_.2.1),(r5_.2,r5_.1)] (.deep true .no))]) rfl rfl Y3 ⟨Y3,Y1⟩),he⟩
  ·skip
   refine⟨r5_,hq1,?_⟩
   refine Y4 ?_
   refine Y4 ?_
   have he:=Zb he
   exact⟨rfl,_,_,(Za [(900,34)] (l:=[(4,.c (.own 900 false))]) (st':=[(900,.sl 89 y6_ [(r3_.2.2,r3_.2.1),(r5_.2,r5_.1)] (.deep true .no))]) rfl rfl Y3 ⟨Y3,Y1⟩),he⟩
 ·skip
  refine Zl mixed Ze ZpP (S:=Int×(List Int)) (I:=(fun (k_,vars)=>(Zo [(1,.c (.int .i64 cell)),(2,.c (.ptr 10000000 0)),(5,.c (.own 10000001 false)),(6,.c (.int .i64 k_))],[(10000000,.rc [.imm y0_ (m_0,m_1).1,.imm y4_ (m_0,m_1).2]),(10000001,.sl 3 y0_ vars .shallow)]))) (f:=Ziv (m_0,m_1) cell) (K:=(fun r=>k (.c (.own 900 false)) [(900,.sl 89 y6_ r (.deep true .no))])) he (Za [(10000000,2),(10000001,9)] rfl rfl ⟨⟨.inl rfl,.inl rfl,Y1⟩,Y2,Y1⟩ ⟨rfl,⟨Y2,rfl⟩,Y3,rfl,Y1⟩) ?_
  rintro⟨k_,vars⟩ J1 he
  refine Zc he fun he=>?_
  refine Zh he (fun he=>?_) fun he=>?_
  ·refine Zk he fun r2_ he=>?_
   refine Zc he fun he=>?_
   refine Zc he fun he=>?_
   have he:=Zb he
   exact⟨((k_+(1:Int)),(vars++[r2_])),he,(Za [(10000001,25)] rfl rfl ⟨⟨.inl rfl,.inl rfl,Y1⟩,Y2,Y1⟩ ⟨rfl,⟨Y2,rfl⟩,Y3,rfl,Y1⟩)⟩
  ·exact⟨vars,ZbH he,(Za [(10001000,10000001)] rfl rfl Y3 ⟨Y3,Y1⟩)⟩
def ZeZ:Con:=fun args st=>match args,st with
  |[.agg [.imm (.pair (.int .i64) (.int .i64)) c__0,.int .i64 c__1]],[]=>.opt (Bool) (Zdx (c__0,c__1)) (fun r=>.ret (.c (.bool r)) [])
  |_,_=>.fail
def ZhP:Cfg:={ y:=tys,n:=57,h:=0,tab:=[(228,Zns),(229,Znr)],cut:=[],hand:=[],good:=[],deep:=[],sched:=[(5,(.first 0 (.alt 1 (.alt 2 (.first 3 (.first 4 (.first 5 (.alt 6 (.first 7 (.first 8 (.first 9 (.first 10 (.alt 11 (.first 12 (.first 13 (.first 14 (.first 15 (.first 16 (.first 17 (.first 18 (.first 20 (.first 21 (.first 26 (.alt 19 (.first 22 (.first 23 (.first 24 (.alt 25 (.alt 27 (.alt 28 (.first 29 (.first 30 (.first 31 .done))) .stop) .stop) (.alt 27 (.alt 25 (.alt 28 (.first 29 (.first 30 (.first 31 .done))) .stop) .stop) .stop))))) (.alt 27 (.alt 19 (.first 22 (.first 23 (.first 24 (.alt 25 (.alt 28 (.first 29 (.first 30 (.first 31 .done))) .stop) .stop)))) .stop) .stop)))))))))))) .stop))))) .stop)))) .stop) .stop)))] }
theorem Zmd:Zs Tryz.prog ZhP:=by
  refine Zn ?_
  simp only[ZhP,List.forall_mem_cons]
  exact⟨Zud,Zuc,fun p h=>by cases h⟩
theorem Zl1:Zq Tryz.prog 168 ZeZ:=by
 refine Zm (C:=ZhP) mixed Ze Zmd (fn:=Tryz.f168) (c:=bd Tryz.f168) (by kernel_rfl) (by kernel_rfl) (by kernel_rfl) (by kernel_rfl) ?_
 intro args st k he
 unfold ZeZ at he
 split at he
 rotate_left
 ·exact he.elim
 rename_i c__0 c__1
 have he:Ok (Zdx (c__0,c__1)) (fun r=>k (.c (.bool r)) []):=he
 refine⟨rfl,rfl,?_⟩
 refine Zl mixed Ze Zmd (S:=Int) (I:=(fun i=>(Zo [(1,.c (.ptr 10000000 0)),(3,.c (.int .i64 i))],[(10000000,.rc [.imm y5_ (c__0,c__1).1,.int .i64 (c__0,c__1).2])]))) (f:=Zez (c__0,c__1)) (K:=(fun r=>k (.c (.bool r)) [])) he (Za [(10000000,1)] rfl rfl ⟨⟨.inl rfl,rfl,Y1⟩,Y1⟩ ⟨⟨Y2,rfl⟩,rfl,Y1⟩) ?_
 rintro i J1 he
 refine Zh he (fun he=>?_) fun he=>?_
 ·refine Zc he fun he=>?_
  refine And.intro (by kernel_rfl) ?_
  refine Y4 ?_
  refine Y4 ?_
  refine Zk he fun r4_ he=>?_
  refine ZK he (fun he=>?_) fun he=>?_
  ·refine Y4 ?_
   refine ZK he (fun he=>?_) fun he=>?_
   ·refine Y4 ?_
    refine ZK he (fun he=>?_) fun he=>?_
    ·refine Zh he (fun he=>?_) fun he=>?_
     ·refine Zc he fun he=>?_
      have he:=ZU he
      have hq1:=he.1
      have he:=he.2
      obtain⟨r5_,hq2,he⟩:=Zb1 he
      obtain⟨r6_,hq3,he⟩:=Zb1 he
      refine Y5 ?_ ?_
      ·skip
       refine And.intro hq1 ?_
       refine Y5 ?_ ?_
       ·skip
        refine⟨r5_,hq2,?_⟩
        refine Y4 ?_
        refine Y4 ?_
        refine⟨r6_,hq3,?_⟩
        refine Zh he (fun he=>?_) fun he=>?_
        ·have he:=Zb he
         exact⟨rfl,_,_,(Za [] (l:=[(2,.c (.bool false))]) (st':=[]) rfl rfl trivial ⟨.inr rfl,Y1⟩),he⟩
        ·refine Zc he fun he=>?_
         have he:=Zb he
         exact⟨(i+(1:Int)),he,(Za [] rfl rfl ⟨⟨.inl rfl,rfl,Y1⟩,Y1⟩ ⟨⟨Y2,rfl⟩,rfl,Y1⟩)⟩
       ·skip
        refine Y4 ?_
        refine⟨r5_,hq2,?_⟩
        refine Y4 ?_
        refine⟨r6_,hq3,?_⟩
        refine Zh he (fun he=>?_) fun he=>?_
        ·have he:=Zb he
         exact⟨rfl,_,_,(Za [] (l:=[(2,.c (.bool false))]) (st':=[]) rfl rfl trivial ⟨.inr rfl,Y1⟩),he⟩
        ·refine Zc he fun he=>?_
         have he:=Zb he
         exact⟨(i+(1:Int)),he,(Za [] rfl rfl ⟨⟨.inl rfl,rfl,Y1⟩,Y1⟩ ⟨⟨Y2,rfl⟩,rfl,Y1⟩)⟩
      ·skip
       refine Y4 ?_
       refine And.intro hq1 ?_
       refine Y4 ?_
       refine⟨r5_,hq2,?_⟩
       refine Y4 ?_
       refine⟨r6_,hq3,?_⟩
       refine Zh he (fun he=>?_) fun he=>?_
       ·have he:=Zb he
        exact⟨rfl,_,_,(Za [] (l:=[(2,.c (.bool false))]) (st':=[]) rfl rfl trivial ⟨.inr rfl,Y1⟩),he⟩
       ·refine Zc he fun he=>?_
        have he:=Zb he
        exact⟨(i+(1:Int)),he,(Za [] rfl rfl ⟨⟨.inl rfl,rfl,Y1⟩,Y1⟩ ⟨⟨Y2,rfl⟩,rfl,Y1⟩)⟩
     ·refine Y5 ?_ ?_
      ·skip
       refine Y5 ?_ ?_
       ·skip
        refine Y4 ?_
        refine Y4 ?_
        refine Zc he fun he=>?_
        have he:=Zb he
        exact⟨(i+(1:Int)),he,(Za [] rfl rfl ⟨⟨.inl rfl,rfl,Y1⟩,Y1⟩ ⟨⟨Y2,rfl⟩,rfl,Y1⟩)⟩
       ·skip
        refine Y4 ?_
        refine Y4 ?_
        refine Zc he fun he=>?_
        have he:=Zb he
        exact⟨(i+(1:Int)),he,(Za [] rfl rfl ⟨⟨.inl rfl,rfl,Y1⟩,Y1⟩ ⟨⟨Y2,rfl⟩,rfl,Y1⟩)⟩
      ·skip
       refine Y4 ?_
       refine Y4 ?_
       refine Y4 ?_
       refine Zc he fun he=>?_
       have he:=Zb he
       exact⟨(i+(1:Int)),he,(Za [] rfl rfl ⟨⟨.inl rfl,rfl,Y1⟩,Y1⟩ ⟨⟨Y2,rfl⟩,rfl,Y1⟩)⟩
    ·refine Y5 ?_ ?_
     ·skip
      refine Y5 ?_ ?_
      ·skip
       refine Y4 ?_
       refine Y4 ?_
       have he:=Zb he
       exact⟨rfl,_,_,(Za [] (l:=[(2,.c (.bool false))]) (st':=[]) rfl rfl trivial ⟨.inr rfl,Y1⟩),he⟩
      ·skip
       refine Y4 ?_
       refine Y4 ?_
       have he:=Zb he
       exact⟨rfl,_,_,(Za [] (l:=[(2,.c (.bool false))]) (st':=[]) rfl rfl trivial ⟨.inr rfl,Y1⟩),he⟩
     ·skip
      refine Y4 ?_
      refine Y4 ?_
      refine Y4 ?_
      have he:=Zb he
      exact⟨rfl,_,_,(Za [] (l:=[(2,.c (.bool false))]) (st':=[]) rfl rfl trivial ⟨.inr rfl,Y1⟩),he⟩
   ·refine Y4 ?_
    refine Y5 ?_ ?_
    ·skip
     refine Y5 ?_ ?_
     ·skip
      refine Y4 ?_
      refine Y4 ?_
      have he:=Zb he
      exact⟨rfl,_,_,(Za [] (l:=[(2,.c (.bool false))]) (st':=[]) rfl rfl trivial ⟨.inr rfl,Y1⟩),he⟩
     ·skip
      refine Y4 ?_
      refine Y4 ?_
      have he:=Zb he
      exact⟨rfl,_,_,(Za [] (l:=[(2,.c (.bool false))]) (st':=[]) rfl rfl trivial ⟨.inr rfl,Y1⟩),he⟩
    ·skip
     refine Y4 ?_
     refine Y4 ?_
     refine Y4 ?_
     have he:=Zb he
     exact⟨rfl,_,_,(Za [] (l:=[(2,.c (.bool false))]) (st':=[]) rfl rfl trivial ⟨.inr rfl,Y1⟩),he⟩
  ·refine Y4 ?_
   refine Y4 ?_
   refine Y5 ?_ ?_
   ·skip
    refine Y5 ?_ ?_
    ·skip
     refine Y4 ?_
     refine Y4 ?_
     have he:=Zb he
     exact⟨rfl,_,_,(Za [] (l:=[(2,.c (.bool false))]) (st':=[]) rfl rfl trivial ⟨.inr rfl,Y1⟩),he⟩
    ·skip
     refine Y4 ?_
     refine Y4 ?_
     have he:=Zb he
     exact⟨rfl,_,_,(Za [] (l:=[(2,.c (.bool false))]) (st':=[]) rfl rfl trivial ⟨.inr rfl,Y1⟩),he⟩
   ·skip
    refine Y4 ?_
    refine Y4 ?_
    refine Y4 ?_
    have he:=Zb he
    exact⟨rfl,_,_,(Za [] (l:=[(2,.c (.bool false))]) (st':=[]) rfl rfl trivial ⟨.inr rfl,Y1⟩),he⟩
 ·refine Zh he (fun he=>?_) fun he=>?_
  ·have he:=Zb he
   exact⟨rfl,_,_,(Za [] (l:=[(2,.c (.bool (decide ((c__0,c__1).2≤(20000:Int)))))]) (st':=[]) rfl rfl trivial ⟨.inl rfl,Y1⟩),he⟩
  ·have he:=Zb he
   exact⟨rfl,_,_,(Za [] (l:=[(2,.c (.bool false))]) (st':=[]) rfl rfl trivial ⟨.inr rfl,Y1⟩),he⟩
def Zka:Con:=fun args st=>match args,st with
  |[.c (.imm (.int .i64) net),.c (.int .i64 bound_)],[]=>.opt (Bool×Int×(List D5_)) (Zhh net bound_) (fun r=>.ret (.tup [.agg [.own 901 false,.int .i64 r.2.1],.c (.bool r.1)]) [(900,.rc [.own 901 false,.int .i64 r.2.1]),(901,.sl 155 y5_ r.2.2 .shallow)])
  |_,_=>.fail
def Znh:Cfg:={ y:=tys,n:=62,h:=0,tab:=[(168,ZeZ)],cut:=[7,9,10,12],hand:=[],good:=[],deep:=[],sched:=[(6,(.first 0 (.first 2 (.first 3 (.first 4 (.first 5 (.first 6 (.alt 1 (.alt 7 (.alt 8 (.alt 9 (.first 10 (.alt 11 .done .stop)) .stop) .stop) .stop) (.alt 7 (.alt 1 (.alt 8 (.alt 9 (.first 10 (.alt 11 .done .stop)) .stop) .stop) (.alt 8 (.alt 1 (.alt 9 (.first 10 (.alt 11 .done .stop)) .stop) .stop) .stop)) .stop))))))))),(8,(.first 0 (.first 2 (.first 3 (.first 4 (.first 5 (.first 6 (.first 7 (.first 8 (.alt 1 (.alt 9 (.alt 10 (.alt 11 (.first 12 (.alt 13 .done .stop)) .stop) .stop) .stop) (.alt 9 (.alt 1 (.alt 10 (.alt 11 (.first 12 (.alt 13 .done .stop)) .stop) .stop) (.alt 10 (.alt 1 (.alt 11 (.first 12 (.alt 13 .done .stop)) .stop) .stop) .stop)) .stop)))))))))))] }
theorem Zft:Zs Tryz.prog Znh:=by
  refine Zn ?_
  simp only[Znh,List.forall_mem_cons]
  exact⟨Zl1,fun p h=>by cases h⟩
theorem Zre:Zq Tryz.prog 134 Zka:=by
 refine Zm (C:=Znh) mixed Ze Zft (fn:=Tryz.f134) (c:=bd Tryz.f134) (by kernel_rfl) (by kernel_rfl) (by kernel_rfl) (by kernel_rfl) ?_
 intro args st k he
 unfold Zka at he
 split at he
 rotate_left
 ·exact he.elim
 rename_i net bound_
 have he:Ok (Zhh net bound_) (fun r=>k (.tup [.agg [.own 901 false,.int .i64 r.2.1],.c (.bool r.1)]) [(900,.rc [.own 901 false,.int .i64 r.2.1]),(901,.sl 155 y5_ r.2.2 .shallow)]):=he
 refine⟨rfl,rfl,?_⟩
 refine Zt mixed Ze Zft (S:=Int×(List D5_)) (I:=(fun (bound_2,c_03)=>(Zo [(1,.c (.int .i64 bound_2)),(4,.c (.ptr 10005000 0)),(6,.c (.ptr 10005001 0))],[(10005000,.rc [.nil,.int .i64 (0:Int)]),(10005001,.rc [.own 10005002 false,.int .i64 (0:Int)]),(10005002,.sl 155 y5_ c_03 .shallow)]))) (B:=fun s=>Ok (ZmT s) (fun r=>k (.tup [.agg [.own 901 false,.int .i64 r.2.1],.c (.bool r.1)]) [(900,.rc [.own 901 false,.int .i64 r.2.1]),(901,.sl 155 y5_ r.2.2 .shallow)])) ?_ ?_
 ·rintro⟨bound_2,c_03⟩ he
  refine Zt mixed Ze Zft (S:=Int) (I:=(fun bound_3=>(Zo [(1,.c (.int .i64 bound_3)),(4,.c (.ptr 10006000 0)),(6,.c (.ptr 10006001 0))],[(10006000,.rc [.nil,.int .i64 (0:Int)]),(10006001,.rc [.own 10006002 false,.int .i64 (0:Int)]),(10006002,.sl 155 y5_ c_03 .shallow)]))) (B:=fun s=>Ok (ZgD c_03 s) (fun r=>k (.tup [.agg [.own 901 false,.int .i64 r.2.1],.c (.bool r.1)]) [(900,.rc [.own 901 false,.int .i64 r.2.1]),(901,.sl 155 y5_ r.2.2 .shallow)])) ?_ ?_
  ·rintro bound_3 he
   refine Zk he fun r1_ he=>?_
   refine Zh he (fun he=>?_) fun he=>?_
   ·have he:=Zb he
    exact⟨rfl,_,_,(Za [(900,10006000)] (l:=[(4,.c (.ptr 900 0)),(5,.c (.bool false))]) (st':=[(900,.rc [.own 901 false,.int .i64 (0:Int)]),(901,.sl 155 y5_ ([]:List D5_) .shallow)]) rfl rfl ⟨⟨⟨rfl,Y1⟩,rfl,Y1⟩,Y1,Y1⟩ ⟨⟨Y2,rfl⟩,.inr rfl,Y1⟩),he⟩
   ·have he:=Zb he
    exact⟨rfl,_,_,(Za [(900,10006000),(901,10006002)] (l:=[(4,.c (.ptr 900 0)),(5,.c (.bool true))]) (st':=[(900,.rc [.own 901 false,.int .i64 bound_3]),(901,.sl 155 y5_ c_03 .shallow)]) rfl rfl ⟨⟨Y3,rfl,Y1⟩,Y2,Y1⟩ ⟨⟨Y2,rfl⟩,.inr rfl,Y1⟩),he⟩
  ·skip
   refine Zh he (fun he=>?_) fun he=>?_
   ·exact⟨(0:Int),he,(Za [(10006000,10005000),(10006001,10005001),(10006002,10005002)] rfl rfl ⟨⟨rfl,rfl,Y1⟩,⟨Y3,rfl,Y1⟩,Y2,Y1⟩ ⟨rfl,⟨Y2,rfl⟩,⟨Y2,rfl⟩,Y1⟩)⟩
   ·exact⟨bound_2,he,(Za [(10006000,10005000),(10006001,10005001),(10006002,10005002)] rfl rfl ⟨⟨rfl,rfl,Y1⟩,⟨Y3,rfl,Y1⟩,Y2,Y1⟩ ⟨rfl,⟨Y2,rfl⟩,⟨Y2,rfl⟩,Y1⟩)⟩
 ·skip
  refine Zl mixed Ze Zft (S:=Int×Int×(List D5_)) (I:=(fun (bound_1,v,c_01)=>(Zo [(0,.c (.imm y0_ net)),(1,.c (.int .i64 bound_1)),(4,.c (.ptr 10000000 0)),(6,.c (.ptr 10000001 0)),(7,.c (.int .i64 v))],[(10000000,.rc [.nil,.int .i64 (0:Int)]),(10000001,.rc [.own 10000002 false,.int .i64 (0:Int)]),(10000002,.sl 155 y5_ c_01 .shallow)]))) (f:=Zi7 net) (K:=(fun r=>k (.tup [.agg [.own 901 false,.int .i64 r.2.1],.c (.bool r.1)]) [(900,.rc [.own 901 false,.int .i64 r.2.1]),(901,.sl 155 y5_ r.2.2 .shallow)])) he (Za [(10000000,4),(10000001,6)] rfl rfl ⟨⟨rfl,rfl,Y1⟩,⟨⟨rfl,Y1⟩,rfl,Y1⟩,Y1,Y1⟩ ⟨.inl rfl,rfl,⟨Y2,rfl⟩,⟨Y2,rfl⟩,rfl,Y1⟩) ?_
  rintro⟨bound_1,v,c_01⟩ J1 he
  refine Zh he (fun he=>?_) fun he=>?_
  ·refine Zt mixed Ze Zft (S:=(List D5_)) (I:=(fun c_02=>(Zo [(0,.c (.imm y0_ net)),(1,.c (.int .i64 bound_1)),(4,.c (.ptr 10003000 0)),(6,.c (.ptr 10003001 0)),(7,.c (.int .i64 v))],[(10003000,.rc [.nil,.int .i64 (0:Int)]),(10003001,.rc [.own 10003002 false,.int .i64 (0:Int)]),(10003002,.sl 155 y5_ c_02 .shallow)]))) (B:=fun s=>Ok (Zi6 net bound_1 v s) (LK J1 (fun r=>k (.tup [.agg [.own 901 false,.int .i64 r.2.1],.c (.bool r.1)]) [(900,.rc [.own 901 false,.int .i64 r.2.1]),(901,.sl 155 y5_ r.2.2 .shallow)]))) ?_ ?_
   ·rintro c_02 he
    refine Zc he fun he=>?_
    refine Zh he (fun he=>?_) fun he=>?_
    ·refine Zt mixed Ze Zft (S:=Unit) (I:=(fun _=>(Zo [(0,.c (.imm y0_ net)),(1,.c (.int .i64 bound_1)),(4,.c (.ptr 10004000 0)),(6,.c (.ptr 10004001 0)),(7,.c (.int .i64 v))],[(10004000,.rc [.nil,.int .i64 (0:Int)]),(10004001,.rc [.own 10004002 false,.int .i64 (0:Int)]),(10004002,.sl 155 y5_ (c_02++[((0 - (net.getD v.toNat 0)),(0 - v))]) .shallow)]))) (B:=fun s=>Ok (ZmU net bound_1 v c_02 s) (LK J1 (fun r=>k (.tup [.agg [.own 901 false,.int .i64 r.2.1],.c (.bool r.1)]) [(900,.rc [.own 901 false,.int .i64 r.2.1]),(901,.sl 155 y5_ r.2.2 .shallow)]))) ?_ ?_
     ·rintro⟨⟩ he
      refine Zc he fun he=>?_
      refine Zc he fun he=>?_
      refine Zc he fun he=>?_
      have he:=Zb he
      exact⟨((bound_1 - (net.getD v.toNat 0)),(v+(1:Int)),(c_02++[((0 - (net.getD v.toNat 0)),(0 - v))])),he,(Za [(10000000,10004000),(10000001,10004001),(10000002,10004002)] rfl rfl ⟨⟨rfl,rfl,Y1⟩,⟨Y3,rfl,Y1⟩,Y2,Y1⟩ ⟨.inl rfl,rfl,⟨Y2,rfl⟩,⟨Y2,rfl⟩,rfl,Y1⟩)⟩
     ·skip
      refine And.intro (by kernel_rfl) ?_
      refine Zc he fun he=>?_
      refine Zc he fun he=>?_
      refine Zc he fun he=>?_
      have he:=ZU he
      have hq1:=he.1
      have he:=he.2
      refine Y5 ?_ ?_
      ·skip
       refine Y4 ?_
       refine Y4 ?_
       refine Y4 ?_
       refine And.intro hq1 ?_
       refine Y4 ?_
       exact⟨(),he,(Za [(10004000,10003000),(10004001,10003001),(10004002,45)] rfl rfl ⟨⟨rfl,rfl,Y1⟩,⟨Y3,rfl,Y1⟩,Y2,Y1⟩ ⟨.inl rfl,rfl,⟨Y2,rfl⟩,⟨Y2,rfl⟩,rfl,Y1⟩)⟩
      ·skip
       refine Y5 ?_ ?_
       ·skip
        refine Y4 ?_
        refine Y4 ?_
        refine And.intro hq1 ?_
        refine Y4 ?_
        exact⟨(),he,(Za [(10004000,10003000),(10004001,10003001),(10004002,45)] rfl rfl ⟨⟨rfl,rfl,Y1⟩,⟨Y3,rfl,Y1⟩,Y2,Y1⟩ ⟨.inl rfl,rfl,⟨Y2,rfl⟩,⟨Y2,rfl⟩,rfl,Y1⟩)⟩
       ·skip
        refine Y4 ?_
        refine Y4 ?_
        refine And.intro hq1 ?_
        refine Y4 ?_
        exact⟨(),he,(Za [(10004000,10003000),(10004001,10003001),(10004002,45)] rfl rfl ⟨⟨rfl,rfl,Y1⟩,⟨Y3,rfl,Y1⟩,Y2,Y1⟩ ⟨.inl rfl,rfl,⟨Y2,rfl⟩,⟨Y2,rfl⟩,rfl,Y1⟩)⟩
    ·refine Zc he fun he=>?_
     have he:=Zb he
     exact⟨(bound_1,(v+(1:Int)),c_02),he,(Za [(10000000,10003000),(10000001,10003001),(10000002,10003002)] rfl rfl ⟨⟨rfl,rfl,Y1⟩,⟨Y3,rfl,Y1⟩,Y2,Y1⟩ ⟨.inl rfl,rfl,⟨Y2,rfl⟩,⟨Y2,rfl⟩,rfl,Y1⟩)⟩
   ·skip
    refine Zc he fun he=>?_
    refine Zh he (fun he=>?_) fun he=>?_
    ·refine And.intro (by kernel_rfl) ?_
     refine Zc he fun he=>?_
     have he:=ZU he
     have hq1:=he.1
     have he:=he.2
     refine Y5 ?_ ?_
     ·skip
      refine Y4 ?_
      refine Y4 ?_
      refine Y4 ?_
      refine And.intro hq1 ?_
      refine Y4 ?_
      exact⟨(c_01++[((net.getD v.toNat 0),v)]),he,(Za [(10003000,10000000),(10003001,10000001),(10003002,27)] rfl rfl ⟨⟨rfl,rfl,Y1⟩,⟨Y3,rfl,Y1⟩,Y2,Y1⟩ ⟨.inl rfl,rfl,⟨Y2,rfl⟩,⟨Y2,rfl⟩,rfl,Y1⟩)⟩
     ·skip
      refine Y5 ?_ ?_
      ·skip
       refine Y4 ?_
       refine Y4 ?_
       refine And.intro hq1 ?_
       refine Y4 ?_
       exact⟨(c_01++[((net.getD v.toNat 0),v)]),he,(Za [(10003000,10000000),(10003001,10000001),(10003002,27)] rfl rfl ⟨⟨rfl,rfl,Y1⟩,⟨Y3,rfl,Y1⟩,Y2,Y1⟩ ⟨.inl rfl,rfl,⟨Y2,rfl⟩,⟨Y2,rfl⟩,rfl,Y1⟩)⟩
      ·skip
       refine Y4 ?_
       refine Y4 ?_
       refine And.intro hq1 ?_
       refine Y4 ?_
       exact⟨(c_01++[((net.getD v.toNat 0),v)]),he,(Za [(10003000,10000000),(10003001,10000001),(10003002,27)] rfl rfl ⟨⟨rfl,rfl,Y1⟩,⟨Y3,rfl,Y1⟩,Y2,Y1⟩ ⟨.inl rfl,rfl,⟨Y2,rfl⟩,⟨Y2,rfl⟩,rfl,Y1⟩)⟩
    ·exact⟨c_01,he,(Za [(10003000,10000000),(10003001,10000001),(10003002,10000002)] rfl rfl ⟨⟨rfl,rfl,Y1⟩,⟨Y3,rfl,Y1⟩,Y2,Y1⟩ ⟨.inl rfl,rfl,⟨Y2,rfl⟩,⟨Y2,rfl⟩,rfl,Y1⟩)⟩
  ·exact⟨(bound_1,c_01),ZbH he,(Za [(10005000,10000000),(10005001,10000001),(10005002,10000002)] rfl rfl ⟨⟨rfl,rfl,Y1⟩,⟨Y3,rfl,Y1⟩,Y2,Y1⟩ ⟨rfl,⟨Y2,rfl⟩,⟨Y2,rfl⟩,Y1⟩)⟩
def Znv:Con:=fun args st=>match args,st with
  |[.agg [.imm (.int .i64) m_0,.imm (.pair (.int .i64) (.pair (.sl (.int .i64)) (.pair (.sl (.int .i64)) (.pair (.int .i64) (.sl (.sl (.int .i64))))))) m_1],.agg [.int .i64 r__0,.imm (.int .i64) r__1,.imm (.int .i64) r__2,.int .i64 r__3,.imm (.sl (.int .i64)) r__4]],[]=>.opt ((List D6_)) (Zjs (m_0,m_1) (r__0,(r__1,(r__2,(r__3,r__4))))) (fun r=>.ret (.c (.own 900 false)) [(900,.sl 89 y6_ r (.deep true .no))])
  |_,_=>.fail
def Znj:Cfg:={ y:=tys,n:=57,h:=0,tab:=[(133,Ze7),(134,Zka)],cut:=[9],hand:=[],good:=[],deep:=[56],sched:=[(8,(.first 0 (.first 2 (.first 4 (.first 7 (.first 9 (.first 11 (.first 14 (.alt 1 (.alt 3 (.first 5 (.first 6 (.alt 8 (.alt 10 (.first 12 (.first 13 (.first 15 (.first 16 (.alt 17 .done .stop))))) .stop) (.alt 10 (.first 12 (.first 13 (.first 15 (.alt 8 (.first 16 (.alt 17 .done .stop)) .stop)))) .stop)))) (.alt 10 (.first 12 (.first 13 (.first 15 (.alt 3 (.first 5 (.first 6 (.alt 8 (.first 16 (.alt 17 .done .stop)) .stop))) .stop)))) .stop)) (.alt 3 (.first 5 (.first 6 (.alt 1 (.alt 8 (.alt 10 (.first 12 (.first 13 (.first 15 (.first 16 (.alt 17 .done .stop))))) .stop) (.alt 10 (.first 12 (.first 13 (.first 15 (.alt 8 (.first 16 (.alt 17 .done .stop)) .stop)))) .stop)) (.alt 10 (.first 12 (.first 13 (.first 15 (.alt 1 (.alt 8 (.first 16 (.alt 17 .done .stop)) .stop) .stop)))) .stop)))) (.alt 10 (.first 12 (.first 13 (.first 15 (.alt 1 (.alt 3 (.first 5 (.first 6 (.alt 8 (.first 16 (.alt 17 .done .stop)) .stop))) .stop) (.alt 3 (.first 5 (.first 6 (.alt 1 (.alt 8 (.first 16 (.alt 17 .done .stop)) .stop) .stop))) .stop))))) .stop)))))))))))] }
theorem Zks:Zs Tryz.prog Znj:=by
  refine Zn ?_
  simp only[Znj,List.forall_mem_cons]
  exact⟨Zij,Zre,fun p h=>by cases h⟩
theorem Zwz:Zq Tryz.prog 191 Znv:=by
 refine Zm (C:=Znj) mixed Ze Zks (fn:=Tryz.f191) (c:=bd Tryz.f191) (by kernel_rfl) (by kernel_rfl) (by kernel_rfl) (by kernel_rfl) ?_
 intro args st k he
 unfold Znv at he
 split at he
 rotate_left
 ·exact he.elim
 rename_i m_0 m_1 r__0 r__1 r__2 r__3 r__4
 have he:Ok (Zjs (m_0,m_1) (r__0,(r__1,(r__2,(r__3,r__4))))) (fun r=>k (.c (.own 900 false)) [(900,.sl 89 y6_ r (.deep true .no))]):=he
 refine⟨rfl,rfl,?_⟩
 refine Zc he fun he=>?_
 refine Zt mixed Ze Zks (S:=(List Int)) (I:=(fun net3=>(Zo [(3,.c (.ptr 10003000 0)),(5,.c (.own 10003001 false))],[(10003000,.rc [.int .i64 (r__0,(r__1,(r__2,(r__3,r__4)))).1,.imm y0_ (r__0,(r__1,(r__2,(r__3,r__4)))).2.1,.imm y0_ (r__0,(r__1,(r__2,(r__3,r__4)))).2.2.1,.int .i64 (r__0,(r__1,(r__2,(r__3,r__4)))).2.2.2.1,.imm (.sl y0_) (r__0,(r__1,(r__2,(r__3,r__4)))).2.2.2.2]),(10003001,.sl 3 y0_ net3 .shallow)]))) (B:=fun s=>Ok (Zjc (r__0,(r__1,(r__2,(r__3,r__4)))) s) (fun r=>k (.c (.own 900 false)) [(900,.sl 89 y6_ r (.deep true .no))])) ?_ ?_
 ·rintro net3 he
  refine Zk he fun r6_ he=>?_
  have he:=Zb he
  exact⟨rfl,_,_,(Za [(900,56)] (l:=[(4,.c (.own 900 false))]) (st':=[(900,.sl 89 y6_ [(r6_.2.2,r6_.2.1)] (.deep true .no))]) rfl rfl Y3 ⟨Y3,Y1⟩),he⟩
 ·skip
  refine Zl mixed Ze Zks (S:=Int×(List Int)) (I:=(fun (i,net1)=>(Zo [(2,.c (.ptr 10000000 0)),(3,.c (.ptr 10000001 0)),(5,.c (.own 10000002 false)),(6,.c (.int .i64 i))],[(10000000,.rc [.imm y0_ (m_0,m_1).1,.imm y4_ (m_0,m_1).2]),(10000001,.rc [.int .i64 (r__0,(r__1,(r__2,(r__3,r__4)))).1,.imm y0_ (r__0,(r__1,(r__2,(r__3,r__4)))).2.1,.imm y0_ (r__0,(r__1,(r__2,(r__3,r__4)))).2.2.1,.int .i64 (r__0,(r__1,(r__2,(r__3,r__4)))).2.2.2.1,.imm (.sl y0_) (r__0,(r__1,(r__2,(r__3,r__4)))).2.2.2.2]),(10000002,.sl 3 y0_ net1 .shallow)]))) (f:=ZmX (m_0,m_1) (r__0,(r__1,(r__2,(r__3,r__4))))) (K:=(fun r=>k (.c (.own 900 false)) [(900,.sl 89 y6_ r (.deep true .no))])) he (Za [(10000000,2),(10000001,3),(10000002,10)] rfl rfl ⟨⟨.inl rfl,.inl rfl,Y1⟩,⟨rfl,.inl rfl,.inl rfl,rfl,.inl rfl,Y1⟩,Y2,Y1⟩ ⟨⟨Y2,rfl⟩,⟨Y2,rfl⟩,Y3,rfl,Y1⟩) ?_
  rintro⟨i,net1⟩ J1 he
  refine Zh he (fun he=>?_) fun he=>?_
  ·refine Zl mixed Ze Zks (S:=Int×(List Int)) (I:=(fun (k_1,net2)=>(Zo [(2,.c (.ptr 10002000 0)),(3,.c (.ptr 10002001 0)),(5,.c (.own 10002002 false)),(6,.c (.int .i64 i)),(7,.c (.int .i64 k_1))],[(10002000,.rc [.imm y0_ (m_0,m_1).1,.imm y4_ (m_0,m_1).2]),(10002001,.rc [.int .i64 (r__0,(r__1,(r__2,(r__3,r__4)))).1,.imm y0_ (r__0,(r__1,(r__2,(r__3,r__4)))).2.1,.imm y0_ (r__0,(r__1,(r__2,(r__3,r__4)))).2.2.1,.int .i64 (r__0,(r__1,(r__2,(r__3,r__4)))).2.2.2.1,.imm (.sl y0_) (r__0,(r__1,(r__2,(r__3,r__4)))).2.2.2.2]),(10002002,.sl 3 y0_ net2 .shallow)]))) (f:=Zjd (m_0,m_1) (r__0,(r__1,(r__2,(r__3,r__4)))) i) (K:=(LK J1 (fun r=>k (.c (.own 900 false)) [(900,.sl 89 y6_ r (.deep true .no))]))) he (Za [(10002000,10000000),(10002001,10000001),(10002002,10000002)] rfl rfl ⟨⟨.inl rfl,.inl rfl,Y1⟩,⟨rfl,.inl rfl,.inl rfl,rfl,.inl rfl,Y1⟩,Y2,Y1⟩ ⟨⟨Y2,rfl⟩,⟨Y2,rfl⟩,Y3,rfl,rfl,Y1⟩) ?_
   rintro⟨k_1,net2⟩ J2 he
   refine And.intro (by kernel_rfl) ?_
   refine Zc he fun he=>?_
   refine Zc he fun he=>?_
   refine Zh he (fun he=>?_) fun he=>?_
   ·refine And.intro (by kernel_rfl) ?_
    have he:=ZU he
    have hq1:=he.1
    have he:=he.2
    obtain⟨r5_,hq2,he⟩:=Zb1 he
    have he:=ZU he
    have hq3:=he.1
    have he:=he.2
    have he:=ZU he
    have hq4:=he.1
    have he:=he.2
    have he:=ZU he
    have hq5:=he.1
    have he:=he.2
    refine And.intro ?_ (And.intro ?_ (And.intro ?_ (Y1)))
    ·skip
     refine Y5 ?_ ?_
     ·skip
      refine And.intro hq1 ?_
      refine Y5 ?_ ?_
      ·skip
       refine⟨r5_,hq2,?_⟩
       refine Y4 ?_
       refine And.intro hq3 ?_
       refine And.intro hq4 ?_
       refine And.intro hq5 ?_
       refine Y4 ?_
       refine Zc he fun he=>?_
       have he:=Zb he
       exact⟨((k_1+(1:Int)),(net2.set r5_.toNat (((r__0,(r__1,(r__2,(r__3,r__4)))).2.2.1.getD i.toNat 0)*k_1))),he,(Za [] rfl rfl ⟨⟨.inl rfl,.inl rfl,Y1⟩,⟨rfl,.inl rfl,.inl rfl,rfl,.inl rfl,Y1⟩,Y2,Y1⟩ ⟨⟨Y2,rfl⟩,⟨Y2,rfl⟩,Y3,rfl,rfl,Y1⟩)⟩
      ·skip
       refine And.intro hq3 ?_
       refine And.intro hq4 ?_
       refine Y4 ?_
       refine⟨r5_,hq2,?_⟩
       refine And.intro hq5 ?_
       refine Y4 ?_
       refine Zc he fun he=>?_
       have he:=Zb he
       exact⟨((k_1+(1:Int)),(net2.set r5_.toNat (((r__0,(r__1,(r__2,(r__3,r__4)))).2.2.1.getD i.toNat 0)*k_1))),he,(Za [] rfl rfl ⟨⟨.inl rfl,.inl rfl,Y1⟩,⟨rfl,.inl rfl,.inl rfl,rfl,.inl rfl,Y1⟩,Y2,Y1⟩ ⟨⟨Y2,rfl⟩,⟨Y2,rfl⟩,Y3,rfl,rfl,Y1⟩)⟩
     ·skip
      refine And.intro hq3 ?_
      refine And.intro hq4 ?_
      refine Y4 ?_
      refine And.intro hq1 ?_
      refine Y4 ?_
      refine⟨r5_,hq2,?_⟩
      refine And.intro hq5 ?_
      refine Y4 ?_
      refine Zc he fun he=>?_
      have he:=Zb he
      exact⟨((k_1+(1:Int)),(net2.set r5_.toNat (((r__0,(r__1,(r__2,(r__3,r__4)))).2.2.1.getD i.toNat 0)*k_1))),he,(Za [] rfl rfl ⟨⟨.inl rfl,.inl rfl,Y1⟩,⟨rfl,.inl rfl,.inl rfl,rfl,.inl rfl,Y1⟩,Y2,Y1⟩ ⟨⟨Y2,rfl⟩,⟨Y2,rfl⟩,Y3,rfl,rfl,Y1⟩)⟩
    ·skip
     refine And.intro hq1 ?_
     refine Y5 ?_ ?_
     ·skip
      refine Y5 ?_ ?_
      ·skip
       refine⟨r5_,hq2,?_⟩
       refine Y4 ?_
       refine And.intro hq3 ?_
       refine And.intro hq4 ?_
       refine And.intro hq5 ?_
       refine Y4 ?_
       refine Zc he fun he=>?_
       have he:=Zb he
       exact⟨((k_1+(1:Int)),(net2.set r5_.toNat (((r__0,(r__1,(r__2,(r__3,r__4)))).2.2.1.getD i.toNat 0)*k_1))),he,(Za [] rfl rfl ⟨⟨.inl rfl,.inl rfl,Y1⟩,⟨rfl,.inl rfl,.inl rfl,rfl,.inl rfl,Y1⟩,Y2,Y1⟩ ⟨⟨Y2,rfl⟩,⟨Y2,rfl⟩,Y3,rfl,rfl,Y1⟩)⟩
      ·skip
       refine And.intro hq3 ?_
       refine And.intro hq4 ?_
       refine Y4 ?_
       refine⟨r5_,hq2,?_⟩
       refine And.intro hq5 ?_
       refine Y4 ?_
       refine Zc he fun he=>?_
       have he:=Zb he
       exact⟨((k_1+(1:Int)),(net2.set r5_.toNat (((r__0,(r__1,(r__2,(r__3,r__4)))).2.2.1.getD i.toNat 0)*k_1))),he,(Za [] rfl rfl ⟨⟨.inl rfl,.inl rfl,Y1⟩,⟨rfl,.inl rfl,.inl rfl,rfl,.inl rfl,Y1⟩,Y2,Y1⟩ ⟨⟨Y2,rfl⟩,⟨Y2,rfl⟩,Y3,rfl,rfl,Y1⟩)⟩
     ·skip
      refine And.intro hq3 ?_
      refine And.intro hq4 ?_
      refine Y4 ?_
      refine Y4 ?_
      refine⟨r5_,hq2,?_⟩
      refine And.intro hq5 ?_
      refine Y4 ?_
      refine Zc he fun he=>?_
      have he:=Zb he
      exact⟨((k_1+(1:Int)),(net2.set r5_.toNat (((r__0,(r__1,(r__2,(r__3,r__4)))).2.2.1.getD i.toNat 0)*k_1))),he,(Za [] rfl rfl ⟨⟨.inl rfl,.inl rfl,Y1⟩,⟨rfl,.inl rfl,.inl rfl,rfl,.inl rfl,Y1⟩,Y2,Y1⟩ ⟨⟨Y2,rfl⟩,⟨Y2,rfl⟩,Y3,rfl,rfl,Y1⟩)⟩
    ·skip
     refine And.intro hq3 ?_
     refine And.intro hq4 ?_
     refine Y5 ?_ ?_
     ·skip
      refine Y4 ?_
      refine And.intro hq1 ?_
      refine Y4 ?_
      refine⟨r5_,hq2,?_⟩
      refine And.intro hq5 ?_
      refine Y4 ?_
      refine Zc he fun he=>?_
      have he:=Zb he
      exact⟨((k_1+(1:Int)),(net2.set r5_.toNat (((r__0,(r__1,(r__2,(r__3,r__4)))).2.2.1.getD i.toNat 0)*k_1))),he,(Za [] rfl rfl ⟨⟨.inl rfl,.inl rfl,Y1⟩,⟨rfl,.inl rfl,.inl rfl,rfl,.inl rfl,Y1⟩,Y2,Y1⟩ ⟨⟨Y2,rfl⟩,⟨Y2,rfl⟩,Y3,rfl,rfl,Y1⟩)⟩
     ·skip
      refine And.intro hq1 ?_
      refine Y4 ?_
      refine Y4 ?_
      refine⟨r5_,hq2,?_⟩
      refine And.intro hq5 ?_
      refine Y4 ?_
      refine Zc he fun he=>?_
      have he:=Zb he
      exact⟨((k_1+(1:Int)),(net2.set r5_.toNat (((r__0,(r__1,(r__2,(r__3,r__4)))).2.2.1.getD i.toNat 0)*k_1))),he,(Za [] rfl rfl ⟨⟨.inl rfl,.inl rfl,Y1⟩,⟨rfl,.inl rfl,.inl rfl,rfl,.inl rfl,Y1⟩,Y2,Y1⟩ ⟨⟨Y2,rfl⟩,⟨Y2,rfl⟩,Y3,rfl,rfl,Y1⟩)⟩
   ·refine Zc he fun he=>?_
    have he:=Zb he
    exact⟨((i+(1:Int)),net2),he,(Za [(10000000,10002000),(10000001,10002001),(10000002,10002002)] rfl rfl ⟨⟨.inl rfl,.inl rfl,Y1⟩,⟨rfl,.inl rfl,.inl rfl,rfl,.inl rfl,Y1⟩,Y2,Y1⟩ ⟨⟨Y2,rfl⟩,⟨Y2,rfl⟩,Y3,rfl,Y1⟩)⟩
  ·exact⟨net1,ZbH he,(Za [(10003000,10000001),(10003001,10000002)] rfl rfl ⟨⟨rfl,.inl rfl,.inl rfl,rfl,.inl rfl,Y1⟩,Y2,Y1⟩ ⟨⟨Y2,rfl⟩,Y3,Y1⟩)⟩
def Znw:Con:=fun args st=>match args,st with
  |[.c (.imm (.int .i64) list_)],[]=>.opt ((List Int)) (Zjt list_) (fun r=>.ret (.c (.own 900 false)) [(900,.sl 3 y0_ r .shallow)])
  |_,_=>.fail
def ZqX:Cfg:={ y:=tys,n:=51,h:=0,tab:=[],cut:=[],hand:=[],good:=[],deep:=[],sched:=[] }
theorem ZnU:Zs Tryz.prog ZqX:=Zn (fun p h=>by cases h)
theorem ZwA:Zq Tryz.prog 246 Znw:=by
 refine Zm (C:=ZqX) mixed Ze ZnU (fn:=Tryz.f246) (c:=bd Tryz.f246) (by kernel_rfl) (by kernel_rfl) (by kernel_rfl) (by kernel_rfl) ?_
 intro args st k he
 unfold Znw at he
 split at he
 rotate_left
 ·exact he.elim
 rename_i list_
 have he:Ok (Zjt list_) (fun r=>k (.c (.own 900 false)) [(900,.sl 3 y0_ r .shallow)]):=he
 refine⟨rfl,rfl,?_⟩
 refine Zc he fun he=>?_
 refine Zl mixed Ze ZnU (S:=Int×(List Int)) (I:=(fun (i,out1)=>(Zo [(3,.c (.own 10000000 false)),(4,.c (.int .i64 i))],[(10000000,.sl 3 y0_ out1 .shallow)]))) (f:=Zje) (K:=(fun r=>k (.c (.own 900 false)) [(900,.sl 3 y0_ r .shallow)])) he (Za [(10000000,9)] rfl rfl Y3 ⟨Y3,rfl,Y1⟩) ?_
 rintro⟨i,out1⟩ J1 he
 refine Zh he (fun he=>?_) fun he=>?_
 ·refine Zl mixed Ze ZnU (S:=Int×(List Int)) (I:=(fun (k_1,out2)=>(Zo [(3,.c (.own 10002000 false)),(4,.c (.int .i64 i)),(5,.c (.int .i64 k_1))],[(10002000,.sl 3 y0_ out2 .shallow)]))) (f:=Zjf i) (K:=(LK J1 (fun r=>k (.c (.own 900 false)) [(900,.sl 3 y0_ r .shallow)]))) he (Za [(10002000,10000000)] rfl rfl Y3 ⟨Y3,rfl,rfl,Y1⟩) ?_
  rintro⟨k_1,out2⟩ J2 he
  refine And.intro (by kernel_rfl) ?_
  refine Zh he (fun he=>?_) fun he=>?_
  ·refine Zc he fun he=>?_
   refine Zc he fun he=>?_
   refine Zc he fun he=>?_
   refine Zh he (fun he=>?_) fun he=>?_
   ·refine Zc he fun he=>?_
    refine Zc he fun he=>?_
    refine Zc he fun he=>?_
    refine Zc he fun he=>?_
    refine Zc he fun he=>?_
    refine Zc he fun he=>?_
    refine Zc he fun he=>?_
    have he:=Zb he
    exact⟨((k_1 - (1:Int)),((out2.set k_1.toNat (out2.getD (k_1 - (1:Int)).toNat 0)).set (k_1 - (1:Int)).toNat (out2.getD k_1.toNat 0))),he,(Za [] rfl rfl Y3 ⟨Y3,rfl,rfl,Y1⟩)⟩
   ·refine Zc he fun he=>?_
    have he:=Zb he
    exact⟨((i+(1:Int)),out2),he,(Za [(10000000,10002000)] rfl rfl Y3 ⟨Y3,rfl,Y1⟩)⟩
  ·refine Zc he fun he=>?_
   have he:=Zb he
   exact⟨((i+(1:Int)),out2),he,(Za [(10000000,10002000)] rfl rfl Y3 ⟨Y3,rfl,Y1⟩)⟩
 ·have he:=Zb he
  exact⟨rfl,_,_,(Za [(900,10000000)] (l:=[(2,.c (.own 900 false))]) (st':=[(900,.sl 3 y0_ out1 .shallow)]) rfl rfl Y3 ⟨Y3,Y1⟩),he⟩
def ZkM:Con:=fun args st=>match args,st with
  |[.agg [.imm (.int .i64) m_0,.imm (.pair (.int .i64) (.pair (.sl (.int .i64)) (.pair (.sl (.int .i64)) (.pair (.int .i64) (.sl (.sl (.int .i64))))))) m_1],.agg [.int .i64 r__0,.imm (.int .i64) r__1,.imm (.int .i64) r__2,.int .i64 r__3,.imm (.sl (.int .i64)) r__4]],[]=>.opt ((List D6_)) (ZgF (m_0,m_1) (r__0,(r__1,(r__2,(r__3,r__4))))) (fun r=>.ret (.c (.own 900 false)) [(900,.sl 89 y6_ r (.deep true .no))])
  |_,_=>.fail
def ZkD:Cfg:={ y:=tys,n:=54,h:=0,tab:=[(133,Ze7),(190,Zmj),(246,Znw)],cut:=[11],hand:=[],good:=[],deep:=[9,51],sched:=[(10,(.first 0 (.first 2 (.first 4 (.first 7 (.alt 1 (.alt 3 (.first 5 (.first 6 (.alt 8 (.alt 9 (.alt 10 (.first 11 .done) .stop) .stop) .stop))) .stop) (.alt 3 (.first 5 (.first 6 (.alt 1 (.alt 8 (.alt 9 (.alt 10 (.first 11 .done) .stop) .stop) .stop) .stop))) .stop)))))))] }
theorem ZhM:Zs Tryz.prog ZkD:=by
  refine Zn ?_
  simp only[ZkD,List.forall_mem_cons]
  exact⟨Zij,Ztf,ZwA,fun p h=>by cases h⟩
theorem Zuf:Zq Tryz.prog 192 ZkM:=by
 refine Zm (C:=ZkD) mixed Ze ZhM (fn:=Tryz.f192) (c:=bd Tryz.f192) (by kernel_rfl) (by kernel_rfl) (by kernel_rfl) (by kernel_rfl) ?_
 intro args st k he
 unfold ZkM at he
 split at he
 rotate_left
 ·exact he.elim
 rename_i m_0 m_1 r__0 r__1 r__2 r__3 r__4
 have he:Ok (ZgF (m_0,m_1) (r__0,(r__1,(r__2,(r__3,r__4))))) (fun r=>k (.c (.own 900 false)) [(900,.sl 89 y6_ r (.deep true .no))]):=he
 refine⟨rfl,rfl,?_⟩
 refine Zl mixed Ze ZhM (S:=Int×(List D6_)) (I:=(fun (k_,out)=>(Zo [(2,.c (.ptr 10000000 0)),(3,.c (.ptr 10000001 0)),(5,.c (.own 10000002 false)),(6,.c (.int .i64 k_))],[(10000000,.rc [.imm y0_ (m_0,m_1).1,.imm y4_ (m_0,m_1).2]),(10000001,.rc [.int .i64 (r__0,(r__1,(r__2,(r__3,r__4)))).1,.imm y0_ (r__0,(r__1,(r__2,(r__3,r__4)))).2.1,.imm y0_ (r__0,(r__1,(r__2,(r__3,r__4)))).2.2.1,.int .i64 (r__0,(r__1,(r__2,(r__3,r__4)))).2.2.2.1,.imm (.sl y0_) (r__0,(r__1,(r__2,(r__3,r__4)))).2.2.2.2]),(10000002,.sl 89 y6_ out (.deep true .no))]))) (f:=Zj3 (m_0,m_1) (r__0,(r__1,(r__2,(r__3,r__4))))) (K:=(fun r=>k (.c (.own 900 false)) [(900,.sl 89 y6_ r (.deep true .no))])) he (Za [(10000000,2),(10000001,3),(10000002,9)] rfl rfl ⟨⟨.inl rfl,.inl rfl,Y1⟩,⟨rfl,.inl rfl,.inl rfl,rfl,.inl rfl,Y1⟩,Y2,Y1⟩ ⟨⟨Y2,rfl⟩,⟨Y2,rfl⟩,Y3,rfl,Y1⟩) ?_
 rintro⟨k_,out⟩ J1 he
 refine Zh he (fun he=>?_) fun he=>?_
 ·refine Zt mixed Ze ZhM (S:=(List Int)) (I:=(fun vars3=>(Zo [(2,.c (.ptr 10004000 0)),(3,.c (.ptr 10004001 0)),(5,.c (.own 10004002 false)),(6,.c (.int .i64 k_)),(7,.c (.own 10004003 false))],[(10004000,.rc [.imm y0_ (m_0,m_1).1,.imm y4_ (m_0,m_1).2]),(10004001,.rc [.int .i64 (r__0,(r__1,(r__2,(r__3,r__4)))).1,.imm y0_ (r__0,(r__1,(r__2,(r__3,r__4)))).2.1,.imm y0_ (r__0,(r__1,(r__2,(r__3,r__4)))).2.2.1,.int .i64 (r__0,(r__1,(r__2,(r__3,r__4)))).2.2.2.1,.imm (.sl y0_) (r__0,(r__1,(r__2,(r__3,r__4)))).2.2.2.2]),(10004002,.sl 89 y6_ out (.deep true .no)),(10004003,.sl 3 y0_ vars3 .shallow)]))) (B:=fun s=>Ok (ZeJ k_ out s) (LK J1 (fun r=>k (.c (.own 900 false)) [(900,.sl 89 y6_ r (.deep true .no))]))) ?_ ?_
  ·rintro vars3 he
   refine Zh he (fun he=>?_) fun he=>?_
   ·refine Zk he fun r8_ he=>?_
    refine Zk he fun r9_ he=>?_
    refine Zc he fun he=>?_
    refine Zc he fun he=>?_
    have he:=Zb he
    exact⟨((k_+(1:Int)),(out++[(r9_.2,r9_.1)])),he,(Za [(10000000,10004000),(10000001,10004001),(10000002,52)] rfl rfl ⟨⟨.inl rfl,.inl rfl,Y1⟩,⟨rfl,.inl rfl,.inl rfl,rfl,.inl rfl,Y1⟩,Y2,Y1⟩ ⟨⟨Y2,rfl⟩,⟨Y2,rfl⟩,Y3,rfl,Y1⟩)⟩
   ·refine Zc he fun he=>?_
    have he:=Zb he
    exact⟨((k_+(1:Int)),out),he,(Za [(10000000,10004000),(10000001,10004001),(10000002,10004002)] rfl rfl ⟨⟨.inl rfl,.inl rfl,Y1⟩,⟨rfl,.inl rfl,.inl rfl,rfl,.inl rfl,Y1⟩,Y2,Y1⟩ ⟨⟨Y2,rfl⟩,⟨Y2,rfl⟩,Y3,rfl,Y1⟩)⟩
  ·skip
   refine Zl mixed Ze ZhM (S:=Int×(List Int)) (I:=(fun (i1,vars2)=>(Zo [(2,.c (.ptr 10003000 0)),(3,.c (.ptr 10003001 0)),(5,.c (.own 10003002 false)),(6,.c (.int .i64 k_)),(7,.c (.own 10003003 false)),(8,.c (.int .i64 i1))],[(10003000,.rc [.imm y0_ (m_0,m_1).1,.imm y4_ (m_0,m_1).2]),(10003001,.rc [.int .i64 (r__0,(r__1,(r__2,(r__3,r__4)))).1,.imm y0_ (r__0,(r__1,(r__2,(r__3,r__4)))).2.1,.imm y0_ (r__0,(r__1,(r__2,(r__3,r__4)))).2.2.1,.int .i64 (r__0,(r__1,(r__2,(r__3,r__4)))).2.2.2.1,.imm (.sl y0_) (r__0,(r__1,(r__2,(r__3,r__4)))).2.2.2.2]),(10003002,.sl 89 y6_ out (.deep true .no)),(10003003,.sl 3 y0_ vars2 .shallow)]))) (f:=ZeK (m_0,m_1) (r__0,(r__1,(r__2,(r__3,r__4)))) k_ out) (K:=(LK J1 (fun r=>k (.c (.own 900 false)) [(900,.sl 89 y6_ r (.deep true .no))]))) he (Za [(10003000,10000000),(10003001,10000001),(10003002,10000002),(10003003,14)] rfl rfl ⟨⟨.inl rfl,.inl rfl,Y1⟩,⟨rfl,.inl rfl,.inl rfl,rfl,.inl rfl,Y1⟩,Y2,Y2,Y1⟩ ⟨⟨Y2,rfl⟩,⟨Y2,rfl⟩,Y3,rfl,Y3,rfl,Y1⟩) ?_
   rintro⟨i1,vars2⟩ J2 he
   refine Zh he (fun he=>?_) fun he=>?_
   ·refine And.intro (by kernel_rfl) ?_
    refine Zc he fun he=>?_
    refine Zc he fun he=>?_
    refine Zh he (fun he=>?_) fun he=>?_
    ·refine And.intro (by kernel_rfl) ?_
     have he:=ZU he
     have hq1:=he.1
     have he:=he.2
     obtain⟨r7_,hq2,he⟩:=Zb1 he
     have he:=ZU he
     have hq3:=he.1
     have he:=he.2
     refine Y5 ?_ ?_
     ·skip
      refine Y4 ?_
      refine And.intro hq1 ?_
      refine Y4 ?_
      refine⟨r7_,hq2,?_⟩
      refine Y4 ?_
      refine Y4 ?_
      refine And.intro hq3 ?_
      refine Zc he fun he=>?_
      have he:=Zb he
      exact⟨((i1+(1:Int)),(vars2++[r7_])),he,(Za [(10003003,43)] rfl rfl ⟨⟨.inl rfl,.inl rfl,Y1⟩,⟨rfl,.inl rfl,.inl rfl,rfl,.inl rfl,Y1⟩,Y2,Y2,Y1⟩ ⟨⟨Y2,rfl⟩,⟨Y2,rfl⟩,Y3,rfl,Y3,rfl,Y1⟩)⟩
     ·skip
      refine And.intro hq1 ?_
      refine Y4 ?_
      refine Y4 ?_
      refine⟨r7_,hq2,?_⟩
      refine Y4 ?_
      refine Y4 ?_
      refine And.intro hq3 ?_
      refine Zc he fun he=>?_
      have he:=Zb he
      exact⟨((i1+(1:Int)),(vars2++[r7_])),he,(Za [(10003003,43)] rfl rfl ⟨⟨.inl rfl,.inl rfl,Y1⟩,⟨rfl,.inl rfl,.inl rfl,rfl,.inl rfl,Y1⟩,Y2,Y2,Y1⟩ ⟨⟨Y2,rfl⟩,⟨Y2,rfl⟩,Y3,rfl,Y3,rfl,Y1⟩)⟩
    ·refine Zc he fun he=>?_
     have he:=Zb he
     exact⟨((i1+(1:Int)),vars2),he,(Za [] rfl rfl ⟨⟨.inl rfl,.inl rfl,Y1⟩,⟨rfl,.inl rfl,.inl rfl,rfl,.inl rfl,Y1⟩,Y2,Y2,Y1⟩ ⟨⟨Y2,rfl⟩,⟨Y2,rfl⟩,Y3,rfl,Y3,rfl,Y1⟩)⟩
   ·exact⟨vars2,ZbH he,(Za [(10004000,10003000),(10004001,10003001),(10004002,10003002),(10004003,10003003)] rfl rfl ⟨⟨.inl rfl,.inl rfl,Y1⟩,⟨rfl,.inl rfl,.inl rfl,rfl,.inl rfl,Y1⟩,Y2,Y2,Y1⟩ ⟨⟨Y2,rfl⟩,⟨Y2,rfl⟩,Y3,rfl,Y3,Y1⟩)⟩
 ·have he:=Zb he
  exact⟨rfl,_,_,(Za [(900,10000002)] (l:=[(4,.c (.own 900 false))]) (st':=[(900,.sl 89 y6_ out (.deep true .no))]) rfl rfl Y3 ⟨Y3,Y1⟩),he⟩
def Zpz:Con:=fun args st=>match args,st with
  |[.c (.imm (.int .i64) a),.c (.imm (.int .i64) b)],[]=>.opt (Bool) (Zl7 a b) (fun r=>.ret (.c (.bool r)) [])
  |_,_=>.fail
def Zs7:Cfg:={ y:=tys,n:=26,h:=0,tab:=[],cut:=[],hand:=[],good:=[],deep:=[],sched:=[] }
theorem Ztm:Zs Tryz.prog Zs7:=Zn (fun p h=>by cases h)
theorem ZyG:Zq Tryz.prog 251 Zpz:=by
 refine Zm (C:=Zs7) mixed Ze Ztm (fn:=Tryz.f251) (c:=bd Tryz.f251) (by kernel_rfl) (by kernel_rfl) (by kernel_rfl) (by kernel_rfl) ?_
 intro args st k he
 unfold Zpz at he
 split at he
 rotate_left
 ·exact he.elim
 rename_i a b
 have he:Ok (Zl7 a b) (fun r=>k (.c (.bool r)) []):=he
 refine⟨rfl,rfl,?_⟩
 refine Zh he (fun he=>?_) fun he=>?_
 ·have he:=Zb he
  exact⟨rfl,_,_,Leads.refl _ _,he⟩
 ·refine Zl mixed Ze Ztm (S:=Int) (I:=(fun i=>(Zo [(0,.c (.imm y0_ a)),(1,.c (.imm y0_ b)),(5,.c (.int .i64 i))],[]))) (f:=Zlx a b) (K:=(fun r=>k (.c (.bool r)) [])) he (Za [] rfl rfl trivial ⟨.inl rfl,.inl rfl,rfl,Y1⟩) ?_
  rintro i J1 he
  refine Zh he (fun he=>?_) fun he=>?_
  ·refine And.intro (by kernel_rfl) ?_
   refine Zc he fun he=>?_
   refine Zc he fun he=>?_
   refine Zh he (fun he=>?_) fun he=>?_
   ·have he:=Zb he
    exact⟨rfl,_,_,Leads.refl _ _,he⟩
   ·refine Zc he fun he=>?_
    have he:=Zb he
    exact⟨(i+(1:Int)),he,(Za [] rfl rfl trivial ⟨.inl rfl,.inl rfl,rfl,Y1⟩)⟩
  ·have he:=Zb he
   exact⟨rfl,_,_,Leads.refl _ _,he⟩
def ZoC:Con:=fun args st=>match args,st with
  |[.agg [.int .i64 a0_0,.imm (.int .i64) a0_1,.imm (.int .i64) a0_2,.int .i64 a0_3,.imm (.sl (.int .i64)) a0_4],.c (.imm (.int .i64) a1)],[]=>.opt (Bool) (Zk9 (a0_0,(a0_1,(a0_2,(a0_3,a0_4)))) a1) (fun r=>.ret (.c (.bool r)) [])
  |_,_=>.fail
def Zol:Cfg:={ y:=tys,n:=102,h:=0,tab:=[(251,Zpz)],cut:=[6],hand:=[],good:=[],deep:=[],sched:=[] }
theorem ZeW:Zs Tryz.prog Zol:=by
  refine Zn ?_
  simp only[Zol,List.forall_mem_cons]
  exact⟨ZyG,fun p h=>by cases h⟩
theorem Zxw:Zq Tryz.prog 205 ZoC:=by
 refine Zm (C:=Zol) mixed Ze ZeW (fn:=Tryz.f205) (c:=bd Tryz.f205) (by kernel_rfl) (by kernel_rfl) (by kernel_rfl) (by kernel_rfl) ?_
 intro args st k he
 unfold ZoC at he
 split at he
 rotate_left
 ·exact he.elim
 rename_i a0_0 a0_1 a0_2 a0_3 a0_4 a1
 have he:Ok (Zk9 (a0_0,(a0_1,(a0_2,(a0_3,a0_4)))) a1) (fun r=>k (.c (.bool r)) []):=he
 refine⟨rfl,rfl,?_⟩
 refine Zt mixed Ze ZeW (S:=(List Int)) (I:=(fun i2=>(Zo [(2,.c (.ptr 10001000 0)),(5,.c (.own 10001001 false))],[(10001000,.rc [.int .i64 (a0_0,(a0_1,(a0_2,(a0_3,a0_4)))).1,.imm y0_ (a0_0,(a0_1,(a0_2,(a0_3,a0_4)))).2.1,.imm y0_ (a0_0,(a0_1,(a0_2,(a0_3,a0_4)))).2.2.1,.int .i64 (a0_0,(a0_1,(a0_2,(a0_3,a0_4)))).2.2.2.1,.imm (.sl y0_) (a0_0,(a0_1,(a0_2,(a0_3,a0_4)))).2.2.2.2]),(10001001,.sl 3 y0_ i2 .shallow)]))) (B:=fun s=>Ok (Zkl (a0_0,(a0_1,(a0_2,(a0_3,a0_4)))) s) (fun r=>k (.c (.bool r)) [])) ?_ ?_
 ·rintro i2 he
  refine Zh he (fun he=>?_) fun he=>?_
  ·refine Zl mixed Ze ZeW (S:=Int×Int) (I:=(fun (i3,i4)=>(Zo [(2,.c (.ptr 10002000 0)),(5,.c (.own 10002001 false)),(7,.c (.int .i64 i3)),(8,.c (.int .i64 i4))],[(10002000,.rc [.int .i64 (a0_0,(a0_1,(a0_2,(a0_3,a0_4)))).1,.imm y0_ (a0_0,(a0_1,(a0_2,(a0_3,a0_4)))).2.1,.imm y0_ (a0_0,(a0_1,(a0_2,(a0_3,a0_4)))).2.2.1,.int .i64 (a0_0,(a0_1,(a0_2,(a0_3,a0_4)))).2.2.2.1,.imm (.sl y0_) (a0_0,(a0_1,(a0_2,(a0_3,a0_4)))).2.2.2.2]),(10002001,.sl 3 y0_ i2 .shallow)]))) (f:=ZnN (a0_0,(a0_1,(a0_2,(a0_3,a0_4)))) i2) (K:=(fun r=>k (.c (.bool r)) [])) he (Za [(10002000,10001000),(10002001,10001001)] rfl rfl ⟨⟨rfl,.inl rfl,.inl rfl,rfl,.inl rfl,Y1⟩,Y2,Y1⟩ ⟨⟨Y2,rfl⟩,Y3,rfl,rfl,Y1⟩) ?_
   rintro⟨i3,i4⟩ J1 he
   refine Zh he (fun he=>?_) fun he=>?_
   ·refine And.intro (by kernel_rfl) ?_
    refine Zc he fun he=>?_
    refine Zc he fun he=>?_
    refine Zc he fun he=>?_
    refine Zc he fun he=>?_
    refine Zc he fun he=>?_
    have he:=Zb he
    exact⟨((i3+(((a0_0,(a0_1,(a0_2,(a0_3,a0_4)))).2.2.1.getD i4.toNat 0)*(i2.getD i4.toNat 0))),(i4+(1:Int))),he,(Za [] rfl rfl ⟨⟨rfl,.inl rfl,.inl rfl,rfl,.inl rfl,Y1⟩,Y2,Y1⟩ ⟨⟨Y2,rfl⟩,Y3,rfl,rfl,Y1⟩)⟩
   ·have he:=Zb he
    exact⟨rfl,_,_,(Za [] (l:=[(4,.c (.bool (decide ((a0_0,(a0_1,(a0_2,(a0_3,a0_4)))).2.2.2.1≤i3))))]) (st':=[]) rfl rfl trivial ⟨.inl rfl,Y1⟩),he⟩
  ·refine Zh he (fun he=>?_) fun he=>?_
   ·refine Zl mixed Ze ZeW (S:=Int) (I:=(fun i5=>(Zo [(5,.c (.own 10003000 false)),(9,.c (.int .i64 i5))],[(10003000,.sl 3 y0_ i2 .shallow)]))) (f:=ZhF i2) (K:=(fun r=>k (.c (.bool r)) [])) he (Za [(10003000,10001001)] rfl rfl Y3 ⟨Y3,rfl,Y1⟩) ?_
    rintro i5 J1 he
    refine Zh he (fun he=>?_) fun he=>?_
    ·refine Zl mixed Ze ZeW (S:=Int) (I:=(fun i6=>(Zo [(5,.c (.own 10004000 false)),(9,.c (.int .i64 i5)),(10,.c (.int .i64 i6))],[(10004000,.sl 3 y0_ i2 .shallow)]))) (f:=ZhG i2 i5) (K:=(LK J1 (fun r=>k (.c (.bool r)) []))) he (Za [(10004000,10003000)] rfl rfl Y3 ⟨Y3,rfl,rfl,Y1⟩) ?_
     rintro i6 J2 he
     refine Zh he (fun he=>?_) fun he=>?_
     ·refine And.intro (by kernel_rfl) ?_
      refine Zc he fun he=>?_
      refine Zc he fun he=>?_
      refine Zh he (fun he=>?_) fun he=>?_
      ·have he:=Zb he
       exact⟨rfl,_,_,(Za [] (l:=[(4,.c (.bool false))]) (st':=[]) rfl rfl trivial ⟨.inr rfl,Y1⟩),he⟩
      ·refine Zc he fun he=>?_
       have he:=Zb he
       exact⟨(i6+(1:Int)),he,(Za [] rfl rfl Y3 ⟨Y3,rfl,rfl,Y1⟩)⟩
     ·refine Zc he fun he=>?_
      have he:=Zb he
      exact⟨(i5+(1:Int)),he,(Za [(10003000,10004000)] rfl rfl Y3 ⟨Y3,rfl,Y1⟩)⟩
    ·have he:=Zb he
     exact⟨rfl,_,_,(Za [] (l:=[(4,.c (.bool true))]) (st':=[]) rfl rfl trivial ⟨.inr rfl,Y1⟩),he⟩
   ·refine Zh he (fun he=>?_) fun he=>?_
    ·refine And.intro (by kernel_rfl) ?_
     refine Zc he fun he=>?_
     refine Zc he fun he=>?_
     have he:=Zb he
     exact⟨rfl,_,_,(Za [] (l:=[(4,.c (.bool (decide ((i2.getD (0:Int).toNat 0)<(i2.getD (1:Int).toNat 0)))))]) (st':=[]) rfl rfl trivial ⟨.inl rfl,Y1⟩),he⟩
    ·refine Zl mixed Ze ZeW (S:=Int) (I:=(fun i7=>(Zo [(2,.c (.ptr 10005000 0)),(5,.c (.own 10005001 false)),(11,.c (.int .i64 i7))],[(10005000,.rc [.int .i64 (a0_0,(a0_1,(a0_2,(a0_3,a0_4)))).1,.imm y0_ (a0_0,(a0_1,(a0_2,(a0_3,a0_4)))).2.1,.imm y0_ (a0_0,(a0_1,(a0_2,(a0_3,a0_4)))).2.2.1,.int .i64 (a0_0,(a0_1,(a0_2,(a0_3,a0_4)))).2.2.2.1,.imm (.sl y0_) (a0_0,(a0_1,(a0_2,(a0_3,a0_4)))).2.2.2.2]),(10005001,.sl 3 y0_ i2 .shallow)]))) (f:=Zkm (a0_0,(a0_1,(a0_2,(a0_3,a0_4)))) i2) (K:=(fun r=>k (.c (.bool r)) [])) he (Za [(10005000,10001000),(10005001,10001001)] rfl rfl ⟨⟨rfl,.inl rfl,.inl rfl,rfl,.inl rfl,Y1⟩,Y2,Y1⟩ ⟨⟨Y2,rfl⟩,Y3,rfl,Y1⟩) ?_
     rintro i7 J1 he
     refine Zh he (fun he=>?_) fun he=>?_
     ·refine Zc he fun he=>?_
      refine Zk he fun r1_ he=>?_
      refine Zh he (fun he=>?_) fun he=>?_
      ·have he:=Zb he
       exact⟨rfl,_,_,(Za [] (l:=[(4,.c (.bool true))]) (st':=[]) rfl rfl trivial ⟨.inr rfl,Y1⟩),he⟩
      ·refine Zc he fun he=>?_
       have he:=Zb he
       exact⟨(i7+(1:Int)),he,(Za [] rfl rfl ⟨⟨rfl,.inl rfl,.inl rfl,rfl,.inl rfl,Y1⟩,Y2,Y1⟩ ⟨⟨Y2,rfl⟩,Y3,rfl,Y1⟩)⟩
     ·have he:=Zb he
      exact⟨rfl,_,_,(Za [] (l:=[(4,.c (.bool false))]) (st':=[]) rfl rfl trivial ⟨.inr rfl,Y1⟩),he⟩
 ·skip
  refine Zl mixed Ze ZeW (S:=Int×(List Int)) (I:=(fun (i,i1)=>(Zo [(1,.c (.imm y0_ a1)),(2,.c (.ptr 10000000 0)),(5,.c (.own 10000001 false)),(6,.c (.int .i64 i))],[(10000000,.rc [.int .i64 (a0_0,(a0_1,(a0_2,(a0_3,a0_4)))).1,.imm y0_ (a0_0,(a0_1,(a0_2,(a0_3,a0_4)))).2.1,.imm y0_ (a0_0,(a0_1,(a0_2,(a0_3,a0_4)))).2.2.1,.int .i64 (a0_0,(a0_1,(a0_2,(a0_3,a0_4)))).2.2.2.1,.imm (.sl y0_) (a0_0,(a0_1,(a0_2,(a0_3,a0_4)))).2.2.2.2]),(10000001,.sl 3 y0_ i1 .shallow)]))) (f:=Zkn (a0_0,(a0_1,(a0_2,(a0_3,a0_4)))) a1) (K:=(fun r=>k (.c (.bool r)) [])) he (Za [(10000000,2),(10000001,12)] rfl rfl ⟨⟨rfl,.inl rfl,.inl rfl,rfl,.inl rfl,Y1⟩,Y2,Y1⟩ ⟨.inl rfl,⟨Y2,rfl⟩,Y3,rfl,Y1⟩) ?_
  rintro⟨i,i1⟩ J1 he
  refine Zh he (fun he=>?_) fun he=>?_
  ·refine Zc he fun he=>?_
   refine Zc he fun he=>?_
   refine Zc he fun he=>?_
   refine Zc he fun he=>?_
   have he:=Zb he
   exact⟨((i+(1:Int)),(i1++[(a1.getD ((a0_0,(a0_1,(a0_2,(a0_3,a0_4)))).2.1.getD i.toNat 0).toNat 0)])),he,(Za [(10000001,30)] rfl rfl ⟨⟨rfl,.inl rfl,.inl rfl,rfl,.inl rfl,Y1⟩,Y2,Y1⟩ ⟨.inl rfl,⟨Y2,rfl⟩,Y3,rfl,Y1⟩)⟩
  ·exact⟨i1,ZbH he,(Za [(10001000,10000000),(10001001,10000001)] rfl rfl ⟨⟨rfl,.inl rfl,.inl rfl,rfl,.inl rfl,Y1⟩,Y2,Y1⟩ ⟨⟨Y2,rfl⟩,Y3,Y1⟩)⟩
def ZpA:Con:=fun args st=>match args,st with
  |[.agg [.imm (.int .i64) m_0,.imm (.pair (.int .i64) (.pair (.sl (.int .i64)) (.pair (.sl (.int .i64)) (.pair (.int .i64) (.sl (.sl (.int .i64))))))) m_1],.c (.imm (.int .i64) cells)],[]=>.opt (Bool×(List Int)) (Zjx (m_0,m_1) cells) (fun r=>.ret (.tup [.c (.own 900 false),.c (.bool r.1)]) [(900,.sl 3 y0_ r.2 .shallow)])
  |_,_=>.fail
def Zs8:Cfg:={ y:=tys,n:=41,h:=0,tab:=[],cut:=[],hand:=[],good:=[],deep:=[],sched:=[] }
theorem Ztn:Zs Tryz.prog Zs8:=Zn (fun p h=>by cases h)
theorem ZyH:Zq Tryz.prog 247 ZpA:=by
 refine Zm (C:=Zs8) mixed Ze Ztn (fn:=Tryz.f247) (c:=bd Tryz.f247) (by kernel_rfl) (by kernel_rfl) (by kernel_rfl) (by kernel_rfl) ?_
 intro args st k he
 unfold ZpA at he
 split at he
 rotate_left
 ·exact he.elim
 rename_i m_0 m_1 cells
 have he:Ok (Zjx (m_0,m_1) cells) (fun r=>k (.tup [.c (.own 900 false),.c (.bool r.1)]) [(900,.sl 3 y0_ r.2 .shallow)]):=he
 refine⟨rfl,rfl,?_⟩
 refine Zc he fun he=>?_
 refine Zc he fun he=>?_
 refine Zl mixed Ze Ztn (S:=Int×(List Int)) (I:=(fun (i,out)=>(Zo [(2,.c (.ptr 10000000 0)),(6,.c (.own 10000001 false)),(7,.c (.int .i64 i))],[(10000000,.rc [.imm y0_ (m_0,m_1).1,.imm y4_ (m_0,m_1).2]),(10000001,.sl 3 y0_ out .shallow)]))) (f:=Zly (m_0,m_1)) (K:=(fun r=>k (.tup [.c (.own 900 false),.c (.bool r.1)]) [(900,.sl 3 y0_ r.2 .shallow)])) he (Za [(10000000,2),(10000001,10)] rfl rfl ⟨⟨.inl rfl,.inl rfl,Y1⟩,Y2,Y1⟩ ⟨⟨Y2,rfl⟩,Y3,rfl,Y1⟩) ?_
 rintro⟨i,out⟩ J1 he
 refine Zh he (fun he=>?_) fun he=>?_
 ·refine And.intro (by kernel_rfl) ?_
  refine Zc he fun he=>?_
  refine Zc he fun he=>?_
  refine Zh he (fun he=>?_) fun he=>?_
  ·refine Zc he fun he=>?_
   refine Zc he fun he=>?_
   refine Zc he fun he=>?_
   have he:=Zb he
   exact⟨rfl,_,_,(Za [(900,10000001)] (l:=[(4,.c (.own 900 false)),(5,.c (.bool true))]) (st':=[(900,.sl 3 y0_ (out.set i.toNat ((out.getD i.toNat 0)+(1:Int))) .shallow)]) rfl rfl Y3 ⟨Y3,.inr rfl,Y1⟩),he⟩
  ·refine Zc he fun he=>?_
   refine Zc he fun he=>?_
   have he:=Zb he
   exact⟨((i - (1:Int)),(out.set i.toNat (0:Int))),he,(Za [] rfl rfl ⟨⟨.inl rfl,.inl rfl,Y1⟩,Y2,Y1⟩ ⟨⟨Y2,rfl⟩,Y3,rfl,Y1⟩)⟩
 ·have he:=Zb he
  exact⟨rfl,_,_,(Za [(900,10000001)] (l:=[(4,.c (.own 900 false)),(5,.c (.bool false))]) (st':=[(900,.sl 3 y0_ out .shallow)]) rfl rfl Y3 ⟨Y3,.inr rfl,Y1⟩),he⟩
def Znu:Con:=fun args st=>match args,st with
  |[.agg [.imm (.int .i64) a0_0,.imm (.pair (.int .i64) (.pair (.sl (.int .i64)) (.pair (.sl (.int .i64)) (.pair (.int .i64) (.sl (.sl (.int .i64))))))) a0_1],.agg [.int .i64 a1_0,.imm (.int .i64) a1_1,.imm (.int .i64) a1_2,.int .i64 a1_3,.imm (.sl (.int .i64)) a1_4]],[]=>.opt ((List D6_)) (Zjr (a0_0,a0_1) (a1_0,(a1_1,(a1_2,(a1_3,a1_4))))) (fun r=>.ret (.c (.own 900 false)) [(900,.sl 89 y6_ r (.deep true .no))])
  |_,_=>.fail
def Zni:Cfg:={ y:=tys,n:=100,h:=0,tab:=[(133,Ze7),(189,Zhq),(205,ZoC),(247,ZpA)],cut:=[6,16,17,20],hand:=[],good:=[],deep:=[37,91],sched:=[(5,(.first 0 (.first 2 (.first 4 (.first 6 (.alt 1 (.alt 3 (.alt 5 (.first 7 (.first 8 (.first 9 (.first 10 (.alt 11 (.alt 12 (.first 13 (.alt 14 .done .stop)) .stop) .stop))))) .stop) (.alt 5 (.first 7 (.first 8 (.alt 3 (.first 9 (.first 10 (.alt 11 (.alt 12 (.first 13 (.alt 14 .done .stop)) .stop) .stop))) .stop))) .stop)) (.alt 3 (.alt 1 (.alt 5 (.first 7 (.first 8 (.first 9 (.first 10 (.alt 11 (.alt 12 (.first 13 (.alt 14 .done .stop)) .stop) .stop))))) .stop) (.alt 5 (.first 7 (.first 8 (.first 9 (.first 10 (.alt 1 (.alt 11 (.alt 12 (.first 13 (.alt 14 .done .stop)) .stop) .stop) (.alt 11 (.alt 1 (.alt 12 (.first 13 (.alt 14 .done .stop)) .stop) .stop) .stop)))))) .stop)) (.alt 5 (.first 7 (.first 8 (.alt 1 (.alt 3 (.first 9 (.first 10 (.alt 11 (.alt 12 (.first 13 (.alt 14 .done .stop)) .stop) .stop))) .stop) (.alt 3 (.first 9 (.first 10 (.alt 1 (.alt 11 (.alt 12 (.first 13 (.alt 14 .done .stop)) .stop) .stop) (.alt 11 (.alt 1 (.alt 12 (.first 13 (.alt 14 .done .stop)) .stop) .stop) .stop)))) .stop)))) .stop)))))))),(15,(.first 0 (.first 1 (.first 3 (.first 6 (.first 7 (.first 8 (.alt 2 (.first 4 (.first 5 (.alt 9 (.first 10 (.alt 11 .done .stop)) .stop))) (.alt 9 (.alt 2 (.first 4 (.first 5 (.first 10 (.alt 11 .done .stop)))) .stop) .stop))))))))),(16,(.first 0 (.first 2 (.first 4 (.first 7 (.first 8 (.first 9 (.alt 1 (.alt 3 (.first 5 (.first 6 (.alt 10 (.alt 11 (.first 12 (.alt 13 (.alt 14 (.first 15 .done) .stop) .stop)) .stop) .stop))) (.alt 10 (.alt 3 (.first 5 (.first 6 (.alt 11 (.first 12 (.alt 13 (.alt 14 (.first 15 .done) .stop) .stop)) .stop))) .stop) .stop)) (.alt 3 (.first 5 (.first 6 (.alt 1 (.alt 10 (.alt 11 (.first 12 (.alt 13 (.alt 14 (.first 15 .done) .stop) .stop)) .stop) .stop) (.alt 10 (.alt 1 (.alt 11 (.first 12 (.alt 13 (.alt 14 (.first 15 .done) .stop) .stop)) .stop) .stop) .stop)))) (.alt 10 (.alt 1 (.alt 3 (.first 5 (.first 6 (.alt 11 (.first 12 (.alt 13 (.alt 14 (.first 15 .done) .stop) .stop)) .stop))) .stop) (.alt 3 (.first 5 (.first 6 (.alt 1 (.alt 11 (.first 12 (.alt 13 (.alt 14 (.first 15 .done) .stop) .stop)) .stop) .stop))) .stop)) .stop))))))))))] }
theorem ZdJ:Zs Tryz.prog Zni:=by
  refine Zn ?_
  simp only[Zni,List.forall_mem_cons]
  exact⟨Zij,ZnG,Zxw,ZyH,fun p h=>by cases h⟩
theorem Zwy:Zq Tryz.prog 193 Znu:=by
 refine Zm (C:=Zni) mixed Ze ZdJ (fn:=Tryz.f193) (c:=bd Tryz.f193) (by kernel_rfl) (by kernel_rfl) (by kernel_rfl) (by kernel_rfl) ?_
 intro args st k he
 unfold Znu at he
 split at he
 rotate_left
 ·exact he.elim
 rename_i a0_0 a0_1 a1_0 a1_1 a1_2 a1_3 a1_4
 have he:Ok (Zjr (a0_0,a0_1) (a1_0,(a1_1,(a1_2,(a1_3,a1_4))))) (fun r=>k (.c (.own 900 false)) [(900,.sl 89 y6_ r (.deep true .no))]):=he
 refine⟨rfl,rfl,?_⟩
 refine Zt mixed Ze ZdJ (S:=(List Int)) (I:=(fun i_01=>(Zo [(2,.c (.ptr 10001000 0)),(3,.c (.ptr 10001001 0)),(5,.c (.ptr 10001002 0))],[(10001000,.rc [.imm y0_ (a0_0,a0_1).1,.imm y4_ (a0_0,a0_1).2]),(10001001,.rc [.int .i64 (a1_0,(a1_1,(a1_2,(a1_3,a1_4)))).1,.imm y0_ (a1_0,(a1_1,(a1_2,(a1_3,a1_4)))).2.1,.imm y0_ (a1_0,(a1_1,(a1_2,(a1_3,a1_4)))).2.2.1,.int .i64 (a1_0,(a1_1,(a1_2,(a1_3,a1_4)))).2.2.2.1,.imm (.sl y0_) (a1_0,(a1_1,(a1_2,(a1_3,a1_4)))).2.2.2.2]),(10001002,.rc [.own 10001003 false,.nil]),(10001003,.sl 3 y0_ i_01 .shallow)]))) (B:=fun s=>Ok (ZgG (a0_0,a0_1) (a1_0,(a1_1,(a1_2,(a1_3,a1_4)))) s) (fun r=>k (.c (.own 900 false)) [(900,.sl 89 y6_ r (.deep true .no))])) ?_ ?_
 ·rintro i_01 he
  refine Zc he fun he=>?_
  refine Zl mixed Ze ZdJ (S:=Bool×(List D6_)×(List Int)) (I:=(fun (i1,i8,i9)=>(Zo [(2,.c (.ptr 10002000 0)),(3,.c (.ptr 10002001 0)),(5,.c (.ptr 10002002 0)),(7,.c (.own 10002003 false)),(8,.c (.own 10002004 false)),(9,.c (.bool i1))],[(10002000,.rc [.imm y0_ (a0_0,a0_1).1,.imm y4_ (a0_0,a0_1).2]),(10002001,.rc [.int .i64 (a1_0,(a1_1,(a1_2,(a1_3,a1_4)))).1,.imm y0_ (a1_0,(a1_1,(a1_2,(a1_3,a1_4)))).2.1,.imm y0_ (a1_0,(a1_1,(a1_2,(a1_3,a1_4)))).2.2.1,.int .i64 (a1_0,(a1_1,(a1_2,(a1_3,a1_4)))).2.2.2.1,.imm (.sl y0_) (a1_0,(a1_1,(a1_2,(a1_3,a1_4)))).2.2.2.2]),(10002002,.rc [.own 10002005 false,.nil]),(10002003,.sl 89 y6_ i8 (.deep true .no)),(10002004,.sl 3 y0_ i9 .shallow),(10002005,.sl 3 y0_ i_01 .shallow)]))) (f:=Zja (a0_0,a0_1) (a1_0,(a1_1,(a1_2,(a1_3,a1_4)))) i_01) (K:=(fun r=>k (.c (.own 900 false)) [(900,.sl 89 y6_ r (.deep true .no))])) he (Za [(10002000,10001000),(10002001,10001001),(10002002,10001002),(10002003,37),(10002004,41),(10002005,10001003)] rfl rfl ⟨⟨.inl rfl,.inl rfl,Y1⟩,⟨rfl,.inl rfl,.inl rfl,rfl,.inl rfl,Y1⟩,⟨Y3,rfl,Y1⟩,Y2,Y2,Y2,Y1⟩ ⟨⟨Y2,rfl⟩,⟨Y2,rfl⟩,⟨Y2,rfl⟩,Y3,Y3,.inr rfl,Y1⟩) ?_
  rintro⟨i1,i8,i9⟩ J1 he
  refine Zh he (fun he=>?_) fun he=>?_
  ·refine Zc he fun he=>?_
   refine Zt mixed Ze ZdJ (S:=(List Int)×(List Int)) (I:=(fun (i13,i14)=>(Zo [(2,.c (.ptr 10011000 0)),(3,.c (.ptr 10011001 0)),(5,.c (.ptr 10011002 0)),(7,.c (.own 10011003 false)),(8,.c (.own 10011004 false)),(10,.c (.own 10011005 false)),(11,.c (.own 10011006 false))],[(10011000,.rc [.imm y0_ (a0_0,a0_1).1,.imm y4_ (a0_0,a0_1).2]),(10011001,.rc [.int .i64 (a1_0,(a1_1,(a1_2,(a1_3,a1_4)))).1,.imm y0_ (a1_0,(a1_1,(a1_2,(a1_3,a1_4)))).2.1,.imm y0_ (a1_0,(a1_1,(a1_2,(a1_3,a1_4)))).2.2.1,.int .i64 (a1_0,(a1_1,(a1_2,(a1_3,a1_4)))).2.2.2.1,.imm (.sl y0_) (a1_0,(a1_1,(a1_2,(a1_3,a1_4)))).2.2.2.2]),(10011002,.rc [.own 10011007 false,.nil]),(10011003,.sl 89 y6_ i8 (.deep true .no)),(10011004,.sl 3 y0_ i9 .shallow),(10011005,.sl 3 y0_ i13 .shallow),(10011006,.sl 3 y0_ i14 .shallow),(10011007,.sl 3 y0_ i_01 .shallow)]))) (B:=fun s=>Ok (ZgH (a1_0,(a1_1,(a1_2,(a1_3,a1_4)))) i_01 i8 i9 s) (LK J1 (fun r=>k (.c (.own 900 false)) [(900,.sl 89 y6_ r (.deep true .no))]))) ?_ ?_
   ·rintro⟨i13,i14⟩ he
    refine Zt mixed Ze ZdJ (S:=(List D6_)) (I:=(fun i15=>(Zo [(2,.c (.ptr 10012000 0)),(3,.c (.ptr 10012001 0)),(5,.c (.ptr 10012002 0)),(7,.c (.own 10012003 false)),(8,.c (.own 10012004 false))],[(10012000,.rc [.imm y0_ (a0_0,a0_1).1,.imm y4_ (a0_0,a0_1).2]),(10012001,.rc [.int .i64 (a1_0,(a1_1,(a1_2,(a1_3,a1_4)))).1,.imm y0_ (a1_0,(a1_1,(a1_2,(a1_3,a1_4)))).2.1,.imm y0_ (a1_0,(a1_1,(a1_2,(a1_3,a1_4)))).2.2.1,.int .i64 (a1_0,(a1_1,(a1_2,(a1_3,a1_4)))).2.2.2.1,.imm (.sl y0_) (a1_0,(a1_1,(a1_2,(a1_3,a1_4)))).2.2.2.2]),(10012002,.rc [.own 10012005 false,.nil]),(10012003,.sl 89 y6_ i15 (.deep true .no)),(10012004,.sl 3 y0_ i9 .shallow),(10012005,.sl 3 y0_ i_01 .shallow)]))) (B:=fun s=>Ok (ZgI i_01 i9 s) (LK J1 (fun r=>k (.c (.own 900 false)) [(900,.sl 89 y6_ r (.deep true .no))]))) ?_ ?_
    ·rintro i15 he
     refine Zk he fun r11_ he=>?_
     have he:=Zb he
     exact⟨(r11_.1,i15,r11_.2),he,(Za [(10002000,10012000),(10002001,10012001),(10002002,10012002),(10002003,10012003),(10002004,97900),(10002005,10012005)] rfl rfl ⟨⟨.inl rfl,.inl rfl,Y1⟩,⟨rfl,.inl rfl,.inl rfl,rfl,.inl rfl,Y1⟩,⟨Y3,rfl,Y1⟩,Y2,Y2,Y2,Y1⟩ ⟨⟨Y2,rfl⟩,⟨Y2,rfl⟩,⟨Y2,rfl⟩,Y3,Y3,.inl rfl,Y1⟩)⟩
    ·skip
     refine Zk he fun r9_ he=>?_
     refine Zh he (fun he=>?_) fun he=>?_
     ·refine Zk he fun r10_ he=>?_
      refine Zc he fun he=>?_
      exact⟨(i8++[(r10_.2.2,r10_.2.1)]),he,(Za [(10012000,10011000),(10012001,10011001),(10012002,10011002),(10012003,92),(10012004,10011004),(10012005,10011007)] rfl rfl ⟨⟨.inl rfl,.inl rfl,Y1⟩,⟨rfl,.inl rfl,.inl rfl,rfl,.inl rfl,Y1⟩,⟨Y3,rfl,Y1⟩,Y2,Y2,Y2,Y1⟩ ⟨⟨Y2,rfl⟩,⟨Y2,rfl⟩,⟨Y2,rfl⟩,Y3,Y3,Y1⟩)⟩
     ·exact⟨i8,he,(Za [(10012000,10011000),(10012001,10011001),(10012002,10011002),(10012003,10011003),(10012004,10011004),(10012005,10011007)] rfl rfl ⟨⟨.inl rfl,.inl rfl,Y1⟩,⟨rfl,.inl rfl,.inl rfl,rfl,.inl rfl,Y1⟩,⟨Y3,rfl,Y1⟩,Y2,Y2,Y2,Y1⟩ ⟨⟨Y2,rfl⟩,⟨Y2,rfl⟩,⟨Y2,rfl⟩,Y3,Y3,Y1⟩)⟩
   ·skip
    refine Zl mixed Ze ZdJ (S:=Int×(List Int)×(List Int)) (I:=(fun (i10,i11,i12)=>(Zo [(2,.c (.ptr 10008000 0)),(3,.c (.ptr 10008001 0)),(5,.c (.ptr 10008002 0)),(7,.c (.own 10008003 false)),(8,.c (.own 10008004 false)),(10,.c (.own 10008005 false)),(11,.c (.own 10008006 false)),(12,.c (.int .i64 i10))],[(10008000,.rc [.imm y0_ (a0_0,a0_1).1,.imm y4_ (a0_0,a0_1).2]),(10008001,.rc [.int .i64 (a1_0,(a1_1,(a1_2,(a1_3,a1_4)))).1,.imm y0_ (a1_0,(a1_1,(a1_2,(a1_3,a1_4)))).2.1,.imm y0_ (a1_0,(a1_1,(a1_2,(a1_3,a1_4)))).2.2.1,.int .i64 (a1_0,(a1_1,(a1_2,(a1_3,a1_4)))).2.2.2.1,.imm (.sl y0_) (a1_0,(a1_1,(a1_2,(a1_3,a1_4)))).2.2.2.2]),(10008002,.rc [.own 10008007 false,.nil]),(10008003,.sl 89 y6_ i8 (.deep true .no)),(10008004,.sl 3 y0_ i9 .shallow),(10008005,.sl 3 y0_ i11 .shallow),(10008006,.sl 3 y0_ i12 .shallow),(10008007,.sl 3 y0_ i_01 .shallow)]))) (f:=Zjb (a0_0,a0_1) (a1_0,(a1_1,(a1_2,(a1_3,a1_4)))) i_01 i8 i9) (K:=(LK J1 (fun r=>k (.c (.own 900 false)) [(900,.sl 89 y6_ r (.deep true .no))]))) he (Za [(10008000,10002000),(10008001,10002001),(10008002,10002002),(10008003,10002003),(10008004,10002004),(10008005,46),(10008006,47),(10008007,10002005)] rfl rfl ⟨⟨.inl rfl,.inl rfl,Y1⟩,⟨rfl,.inl rfl,.inl rfl,rfl,.inl rfl,Y1⟩,⟨Y3,rfl,Y1⟩,Y2,Y2,Y2,Y2,Y2,Y1⟩ ⟨⟨Y2,rfl⟩,⟨Y2,rfl⟩,⟨Y2,rfl⟩,Y3,Y3,Y3,Y3,rfl,Y1⟩) ?_
    rintro⟨i10,i11,i12⟩ J2 he
    refine Zh he (fun he=>?_) fun he=>?_
    ·refine Zt mixed Ze ZdJ (S:=Unit) (I:=(fun _=>(Zo [(2,.c (.ptr 10010000 0)),(3,.c (.ptr 10010001 0)),(5,.c (.ptr 10010002 0)),(7,.c (.own 10010003 false)),(8,.c (.own 10010004 false)),(10,.c (.own 10010005 false)),(11,.c (.own 10010006 false)),(12,.c (.int .i64 i10))],[(10010000,.rc [.imm y0_ (a0_0,a0_1).1,.imm y4_ (a0_0,a0_1).2]),(10010001,.rc [.int .i64 (a1_0,(a1_1,(a1_2,(a1_3,a1_4)))).1,.imm y0_ (a1_0,(a1_1,(a1_2,(a1_3,a1_4)))).2.1,.imm y0_ (a1_0,(a1_1,(a1_2,(a1_3,a1_4)))).2.2.1,.int .i64 (a1_0,(a1_1,(a1_2,(a1_3,a1_4)))).2.2.2.1,.imm (.sl y0_) (a1_0,(a1_1,(a1_2,(a1_3,a1_4)))).2.2.2.2]),(10010002,.rc [.own 10010007 false,.nil]),(10010003,.sl 89 y6_ i8 (.deep true .no)),(10010004,.sl 3 y0_ i9 .shallow),(10010005,.sl 3 y0_ (i11.set ((a1_0,(a1_1,(a1_2,(a1_3,a1_4)))).2.1.getD i10.toNat 0).toNat (i9.getD i10.toNat 0)) .shallow),(10010006,.sl 3 y0_ i12 .shallow),(10010007,.sl 3 y0_ i_01 .shallow)]))) (B:=fun s=>Ok (ZmW (a0_0,a0_1) (a1_0,(a1_1,(a1_2,(a1_3,a1_4)))) i9 i10 i11 i12 s) (LK J2 (LK J1 (fun r=>k (.c (.own 900 false)) [(900,.sl 89 y6_ r (.deep true .no))])))) ?_ ?_
     ·rintro⟨⟩ he
      refine And.intro (by kernel_rfl) ?_
      refine Zc he fun he=>?_
      have he:=ZU he
      have hq1:=he.1
      have he:=he.2
      obtain⟨r8_,hq2,he⟩:=Zb1 he
      have he:=ZU he
      have hq3:=he.1
      have he:=he.2
      have he:=ZU he
      have hq4:=he.1
      have he:=he.2
      refine And.intro ?_ (And.intro ?_ (And.intro ?_ (Y1)))
      ·skip
       refine Y5 ?_ ?_
       ·skip
        refine And.intro hq1 ?_
        refine Y4 ?_
        refine Y4 ?_
        refine⟨r8_,hq2,?_⟩
        refine And.intro hq3 ?_
        refine Y4 ?_
        refine Y4 ?_
        refine And.intro hq4 ?_
        refine Zc he fun he=>?_
        have he:=Zb he
        exact⟨((i10+(1:Int)),(i11.set ((a1_0,(a1_1,(a1_2,(a1_3,a1_4)))).2.1.getD i10.toNat 0).toNat (i9.getD i10.toNat 0)),(i12++[(0 - r8_)])),he,(Za [(10008000,10010000),(10008001,10010001),(10008002,10010002),(10008003,10010003),(10008004,10010004),(10008005,10010005),(10008006,79),(10008007,10010007)] rfl rfl ⟨⟨.inl rfl,.inl rfl,Y1⟩,⟨rfl,.inl rfl,.inl rfl,rfl,.inl rfl,Y1⟩,⟨Y3,rfl,Y1⟩,Y2,Y2,Y2,Y2,Y2,Y1⟩ ⟨⟨Y2,rfl⟩,⟨Y2,rfl⟩,⟨Y2,rfl⟩,Y3,Y3,Y3,Y3,rfl,Y1⟩)⟩
       ·skip
        refine Y4 ?_
        refine And.intro hq1 ?_
        refine Y4 ?_
        refine⟨r8_,hq2,?_⟩
        refine And.intro hq3 ?_
        refine Y4 ?_
        refine Y4 ?_
        refine And.intro hq4 ?_
        refine Zc he fun he=>?_
        have he:=Zb he
        exact⟨((i10+(1:Int)),(i11.set ((a1_0,(a1_1,(a1_2,(a1_3,a1_4)))).2.1.getD i10.toNat 0).toNat (i9.getD i10.toNat 0)),(i12++[(0 - r8_)])),he,(Za [(10008000,10010000),(10008001,10010001),(10008002,10010002),(10008003,10010003),(10008004,10010004),(10008005,10010005),(10008006,79),(10008007,10010007)] rfl rfl ⟨⟨.inl rfl,.inl rfl,Y1⟩,⟨rfl,.inl rfl,.inl rfl,rfl,.inl rfl,Y1⟩,⟨Y3,rfl,Y1⟩,Y2,Y2,Y2,Y2,Y2,Y1⟩ ⟨⟨Y2,rfl⟩,⟨Y2,rfl⟩,⟨Y2,rfl⟩,Y3,Y3,Y3,Y3,rfl,Y1⟩)⟩
      ·skip
       refine And.intro hq1 ?_
       refine Y5 ?_ ?_
       ·skip
        refine Y4 ?_
        refine Y4 ?_
        refine⟨r8_,hq2,?_⟩
        refine And.intro hq3 ?_
        refine Y4 ?_
        refine Y4 ?_
        refine And.intro hq4 ?_
        refine Zc he fun he=>?_
        have he:=Zb he
        exact⟨((i10+(1:Int)),(i11.set ((a1_0,(a1_1,(a1_2,(a1_3,a1_4)))).2.1.getD i10.toNat 0).toNat (i9.getD i10.toNat 0)),(i12++[(0 - r8_)])),he,(Za [(10008000,10010000),(10008001,10010001),(10008002,10010002),(10008003,10010003),(10008004,10010004),(10008005,10010005),(10008006,79),(10008007,10010007)] rfl rfl ⟨⟨.inl rfl,.inl rfl,Y1⟩,⟨rfl,.inl rfl,.inl rfl,rfl,.inl rfl,Y1⟩,⟨Y3,rfl,Y1⟩,Y2,Y2,Y2,Y2,Y2,Y1⟩ ⟨⟨Y2,rfl⟩,⟨Y2,rfl⟩,⟨Y2,rfl⟩,Y3,Y3,Y3,Y3,rfl,Y1⟩)⟩
       ·skip
        refine Y4 ?_
        refine Y4 ?_
        refine⟨r8_,hq2,?_⟩
        refine And.intro hq3 ?_
        refine Y4 ?_
        refine Y4 ?_
        refine And.intro hq4 ?_
        refine Zc he fun he=>?_
        have he:=Zb he
        exact⟨((i10+(1:Int)),(i11.set ((a1_0,(a1_1,(a1_2,(a1_3,a1_4)))).2.1.getD i10.toNat 0).toNat (i9.getD i10.toNat 0)),(i12++[(0 - r8_)])),he,(Za [(10008000,10010000),(10008001,10010001),(10008002,10010002),(10008003,10010003),(10008004,10010004),(10008005,10010005),(10008006,79),(10008007,10010007)] rfl rfl ⟨⟨.inl rfl,.inl rfl,Y1⟩,⟨rfl,.inl rfl,.inl rfl,rfl,.inl rfl,Y1⟩,⟨Y3,rfl,Y1⟩,Y2,Y2,Y2,Y2,Y2,Y1⟩ ⟨⟨Y2,rfl⟩,⟨Y2,rfl⟩,⟨Y2,rfl⟩,Y3,Y3,Y3,Y3,rfl,Y1⟩)⟩
      ·skip
       refine Y5 ?_ ?_
       ·skip
        refine Y4 ?_
        refine And.intro hq1 ?_
        refine Y4 ?_
        refine⟨r8_,hq2,?_⟩
        refine And.intro hq3 ?_
        refine Y4 ?_
        refine Y4 ?_
        refine And.intro hq4 ?_
        refine Zc he fun he=>?_
        have he:=Zb he
        exact⟨((i10+(1:Int)),(i11.set ((a1_0,(a1_1,(a1_2,(a1_3,a1_4)))).2.1.getD i10.toNat 0).toNat (i9.getD i10.toNat 0)),(i12++[(0 - r8_)])),he,(Za [(10008000,10010000),(10008001,10010001),(10008002,10010002),(10008003,10010003),(10008004,10010004),(10008005,10010005),(10008006,79),(10008007,10010007)] rfl rfl ⟨⟨.inl rfl,.inl rfl,Y1⟩,⟨rfl,.inl rfl,.inl rfl,rfl,.inl rfl,Y1⟩,⟨Y3,rfl,Y1⟩,Y2,Y2,Y2,Y2,Y2,Y1⟩ ⟨⟨Y2,rfl⟩,⟨Y2,rfl⟩,⟨Y2,rfl⟩,Y3,Y3,Y3,Y3,rfl,Y1⟩)⟩
       ·skip
        refine And.intro hq1 ?_
        refine Y4 ?_
        refine Y4 ?_
        refine⟨r8_,hq2,?_⟩
        refine And.intro hq3 ?_
        refine Y4 ?_
        refine Y4 ?_
        refine And.intro hq4 ?_
        refine Zc he fun he=>?_
        have he:=Zb he
        exact⟨((i10+(1:Int)),(i11.set ((a1_0,(a1_1,(a1_2,(a1_3,a1_4)))).2.1.getD i10.toNat 0).toNat (i9.getD i10.toNat 0)),(i12++[(0 - r8_)])),he,(Za [(10008000,10010000),(10008001,10010001),(10008002,10010002),(10008003,10010003),(10008004,10010004),(10008005,10010005),(10008006,79),(10008007,10010007)] rfl rfl ⟨⟨.inl rfl,.inl rfl,Y1⟩,⟨rfl,.inl rfl,.inl rfl,rfl,.inl rfl,Y1⟩,⟨Y3,rfl,Y1⟩,Y2,Y2,Y2,Y2,Y2,Y1⟩ ⟨⟨Y2,rfl⟩,⟨Y2,rfl⟩,⟨Y2,rfl⟩,Y3,Y3,Y3,Y3,rfl,Y1⟩)⟩
     ·skip
      refine And.intro (by kernel_rfl) ?_
      refine Zc he fun he=>?_
      have he:=ZU he
      have hq1:=he.1
      have he:=he.2
      have he:=ZU he
      have hq2:=he.1
      have he:=he.2
      refine Y5 ?_ ?_
      ·skip
       refine And.intro hq1 ?_
       refine Y4 ?_
       refine And.intro hq2 ?_
       refine Y4 ?_
       exact⟨(),he,(Za [(10010000,10008000),(10010001,10008001),(10010002,10008002),(10010003,10008003),(10010004,10008004),(10010005,10008005),(10010006,10008006),(10010007,10008007)] rfl rfl ⟨⟨.inl rfl,.inl rfl,Y1⟩,⟨rfl,.inl rfl,.inl rfl,rfl,.inl rfl,Y1⟩,⟨Y3,rfl,Y1⟩,Y2,Y2,Y2,Y2,Y2,Y1⟩ ⟨⟨Y2,rfl⟩,⟨Y2,rfl⟩,⟨Y2,rfl⟩,Y3,Y3,Y3,Y3,rfl,Y1⟩)⟩
      ·skip
       refine Y4 ?_
       refine And.intro hq1 ?_
       refine And.intro hq2 ?_
       refine Y4 ?_
       exact⟨(),he,(Za [(10010000,10008000),(10010001,10008001),(10010002,10008002),(10010003,10008003),(10010004,10008004),(10010005,10008005),(10010006,10008006),(10010007,10008007)] rfl rfl ⟨⟨.inl rfl,.inl rfl,Y1⟩,⟨rfl,.inl rfl,.inl rfl,rfl,.inl rfl,Y1⟩,⟨Y3,rfl,Y1⟩,Y2,Y2,Y2,Y2,Y2,Y1⟩ ⟨⟨Y2,rfl⟩,⟨Y2,rfl⟩,⟨Y2,rfl⟩,Y3,Y3,Y3,Y3,rfl,Y1⟩)⟩
    ·exact⟨(i11,i12),ZbH he,(Za [(10011000,10008000),(10011001,10008001),(10011002,10008002),(10011003,10008003),(10011004,10008004),(10011005,10008005),(10011006,10008006),(10011007,10008007)] rfl rfl ⟨⟨.inl rfl,.inl rfl,Y1⟩,⟨rfl,.inl rfl,.inl rfl,rfl,.inl rfl,Y1⟩,⟨Y3,rfl,Y1⟩,Y2,Y2,Y2,Y2,Y2,Y1⟩ ⟨⟨Y2,rfl⟩,⟨Y2,rfl⟩,⟨Y2,rfl⟩,Y3,Y3,Y3,Y3,Y1⟩)⟩
  ·have he:=Zb he
   exact⟨rfl,_,_,(Za [(900,10002003)] (l:=[(4,.c (.own 900 false))]) (st':=[(900,.sl 89 y6_ i8 (.deep true .no))]) rfl rfl Y3 ⟨Y3,Y1⟩),he⟩
 ·skip
  refine Zl mixed Ze ZdJ (S:=Int×(List Int)) (I:=(fun (i,i_0)=>(Zo [(2,.c (.ptr 10000000 0)),(3,.c (.ptr 10000001 0)),(5,.c (.ptr 10000002 0)),(6,.c (.int .i64 i))],[(10000000,.rc [.imm y0_ (a0_0,a0_1).1,.imm y4_ (a0_0,a0_1).2]),(10000001,.rc [.int .i64 (a1_0,(a1_1,(a1_2,(a1_3,a1_4)))).1,.imm y0_ (a1_0,(a1_1,(a1_2,(a1_3,a1_4)))).2.1,.imm y0_ (a1_0,(a1_1,(a1_2,(a1_3,a1_4)))).2.2.1,.int .i64 (a1_0,(a1_1,(a1_2,(a1_3,a1_4)))).2.2.2.1,.imm (.sl y0_) (a1_0,(a1_1,(a1_2,(a1_3,a1_4)))).2.2.2.2]),(10000002,.rc [.own 10000003 false,.nil]),(10000003,.sl 3 y0_ i_0 .shallow)]))) (f:=ZgJ (a0_0,a0_1) (a1_0,(a1_1,(a1_2,(a1_3,a1_4))))) (K:=(fun r=>k (.c (.own 900 false)) [(900,.sl 89 y6_ r (.deep true .no))])) he (Za [(10000000,2),(10000001,3),(10000002,5)] rfl rfl ⟨⟨.inl rfl,.inl rfl,Y1⟩,⟨rfl,.inl rfl,.inl rfl,rfl,.inl rfl,Y1⟩,⟨⟨rfl,Y1⟩,rfl,Y1⟩,Y1,Y1⟩ ⟨⟨Y2,rfl⟩,⟨Y2,rfl⟩,⟨Y2,rfl⟩,rfl,Y1⟩) ?_
  rintro⟨i,i_0⟩ J1 he
  refine Zh he (fun he=>?_) fun he=>?_
  ·refine And.intro (by kernel_rfl) ?_
   have he:=ZU he
   have hq1:=he.1
   have he:=he.2
   have he:=ZU he
   have hq2:=he.1
   have he:=he.2
   have he:=ZU he
   have hq3:=he.1
   have he:=he.2
   refine And.intro ?_ (And.intro ?_ (And.intro ?_ (Y1)))
   ·skip
    refine Y5 ?_ ?_
    ·skip
     refine Y4 ?_
     refine And.intro hq1 ?_
     refine And.intro hq2 ?_
     refine Y4 ?_
     refine Y4 ?_
     refine And.intro hq3 ?_
     refine Y4 ?_
     refine Zc he fun he=>?_
     have he:=Zb he
     exact⟨((i+(1:Int)),(i_0++[((a0_0,a0_1).1.getD ((a1_0,(a1_1,(a1_2,(a1_3,a1_4)))).2.1.getD i.toNat 0).toNat 0)])),he,(Za [(10000003,35)] rfl rfl ⟨⟨.inl rfl,.inl rfl,Y1⟩,⟨rfl,.inl rfl,.inl rfl,rfl,.inl rfl,Y1⟩,⟨Y3,rfl,Y1⟩,Y2,Y1⟩ ⟨⟨Y2,rfl⟩,⟨Y2,rfl⟩,⟨Y2,rfl⟩,rfl,Y1⟩)⟩
    ·skip
     refine And.intro hq1 ?_
     refine Y4 ?_
     refine And.intro hq2 ?_
     refine Y4 ?_
     refine Y4 ?_
     refine And.intro hq3 ?_
     refine Y4 ?_
     refine Zc he fun he=>?_
     have he:=Zb he
     exact⟨((i+(1:Int)),(i_0++[((a0_0,a0_1).1.getD ((a1_0,(a1_1,(a1_2,(a1_3,a1_4)))).2.1.getD i.toNat 0).toNat 0)])),he,(Za [(10000003,35)] rfl rfl ⟨⟨.inl rfl,.inl rfl,Y1⟩,⟨rfl,.inl rfl,.inl rfl,rfl,.inl rfl,Y1⟩,⟨Y3,rfl,Y1⟩,Y2,Y1⟩ ⟨⟨Y2,rfl⟩,⟨Y2,rfl⟩,⟨Y2,rfl⟩,rfl,Y1⟩)⟩
   ·skip
    refine Y5 ?_ ?_
    ·skip
     refine Y4 ?_
     refine And.intro hq1 ?_
     refine And.intro hq2 ?_
     refine Y4 ?_
     refine Y4 ?_
     refine And.intro hq3 ?_
     refine Y4 ?_
     refine Zc he fun he=>?_
     have he:=Zb he
     exact⟨((i+(1:Int)),(i_0++[((a0_0,a0_1).1.getD ((a1_0,(a1_1,(a1_2,(a1_3,a1_4)))).2.1.getD i.toNat 0).toNat 0)])),he,(Za [(10000003,35)] rfl rfl ⟨⟨.inl rfl,.inl rfl,Y1⟩,⟨rfl,.inl rfl,.inl rfl,rfl,.inl rfl,Y1⟩,⟨Y3,rfl,Y1⟩,Y2,Y1⟩ ⟨⟨Y2,rfl⟩,⟨Y2,rfl⟩,⟨Y2,rfl⟩,rfl,Y1⟩)⟩
    ·skip
     refine And.intro hq1 ?_
     refine And.intro hq2 ?_
     refine Y5 ?_ ?_
     ·skip
      refine Y4 ?_
      refine Y4 ?_
      refine And.intro hq3 ?_
      refine Y4 ?_
      refine Zc he fun he=>?_
      have he:=Zb he
      exact⟨((i+(1:Int)),(i_0++[((a0_0,a0_1).1.getD ((a1_0,(a1_1,(a1_2,(a1_3,a1_4)))).2.1.getD i.toNat 0).toNat 0)])),he,(Za [(10000003,35)] rfl rfl ⟨⟨.inl rfl,.inl rfl,Y1⟩,⟨rfl,.inl rfl,.inl rfl,rfl,.inl rfl,Y1⟩,⟨Y3,rfl,Y1⟩,Y2,Y1⟩ ⟨⟨Y2,rfl⟩,⟨Y2,rfl⟩,⟨Y2,rfl⟩,rfl,Y1⟩)⟩
     ·skip
      refine Y4 ?_
      refine Y4 ?_
      refine And.intro hq3 ?_
      refine Y4 ?_
      refine Zc he fun he=>?_
      have he:=Zb he
      exact⟨((i+(1:Int)),(i_0++[((a0_0,a0_1).1.getD ((a1_0,(a1_1,(a1_2,(a1_3,a1_4)))).2.1.getD i.toNat 0).toNat 0)])),he,(Za [(10000003,35)] rfl rfl ⟨⟨.inl rfl,.inl rfl,Y1⟩,⟨rfl,.inl rfl,.inl rfl,rfl,.inl rfl,Y1⟩,⟨Y3,rfl,Y1⟩,Y2,Y1⟩ ⟨⟨Y2,rfl⟩,⟨Y2,rfl⟩,⟨Y2,rfl⟩,rfl,Y1⟩)⟩
   ·skip
    refine And.intro hq1 ?_
    refine Y5 ?_ ?_
    ·skip
     refine Y4 ?_
     refine And.intro hq2 ?_
     refine Y4 ?_
     refine Y4 ?_
     refine And.intro hq3 ?_
     refine Y4 ?_
     refine Zc he fun he=>?_
     have he:=Zb he
     exact⟨((i+(1:Int)),(i_0++[((a0_0,a0_1).1.getD ((a1_0,(a1_1,(a1_2,(a1_3,a1_4)))).2.1.getD i.toNat 0).toNat 0)])),he,(Za [(10000003,35)] rfl rfl ⟨⟨.inl rfl,.inl rfl,Y1⟩,⟨rfl,.inl rfl,.inl rfl,rfl,.inl rfl,Y1⟩,⟨Y3,rfl,Y1⟩,Y2,Y1⟩ ⟨⟨Y2,rfl⟩,⟨Y2,rfl⟩,⟨Y2,rfl⟩,rfl,Y1⟩)⟩
    ·skip
     refine And.intro hq2 ?_
     refine Y5 ?_ ?_
     ·skip
      refine Y4 ?_
      refine Y4 ?_
      refine And.intro hq3 ?_
      refine Y4 ?_
      refine Zc he fun he=>?_
      have he:=Zb he
      exact⟨((i+(1:Int)),(i_0++[((a0_0,a0_1).1.getD ((a1_0,(a1_1,(a1_2,(a1_3,a1_4)))).2.1.getD i.toNat 0).toNat 0)])),he,(Za [(10000003,35)] rfl rfl ⟨⟨.inl rfl,.inl rfl,Y1⟩,⟨rfl,.inl rfl,.inl rfl,rfl,.inl rfl,Y1⟩,⟨Y3,rfl,Y1⟩,Y2,Y1⟩ ⟨⟨Y2,rfl⟩,⟨Y2,rfl⟩,⟨Y2,rfl⟩,rfl,Y1⟩)⟩
     ·skip
      refine Y4 ?_
      refine Y4 ?_
      refine And.intro hq3 ?_
      refine Y4 ?_
      refine Zc he fun he=>?_
      have he:=Zb he
      exact⟨((i+(1:Int)),(i_0++[((a0_0,a0_1).1.getD ((a1_0,(a1_1,(a1_2,(a1_3,a1_4)))).2.1.getD i.toNat 0).toNat 0)])),he,(Za [(10000003,35)] rfl rfl ⟨⟨.inl rfl,.inl rfl,Y1⟩,⟨rfl,.inl rfl,.inl rfl,rfl,.inl rfl,Y1⟩,⟨Y3,rfl,Y1⟩,Y2,Y1⟩ ⟨⟨Y2,rfl⟩,⟨Y2,rfl⟩,⟨Y2,rfl⟩,rfl,Y1⟩)⟩
  ·exact⟨i_0,ZbH he,(Za [(10001000,10000000),(10001001,10000001),(10001002,10000002),(10001003,10000003)] rfl rfl ⟨⟨.inl rfl,.inl rfl,Y1⟩,⟨rfl,.inl rfl,.inl rfl,rfl,.inl rfl,Y1⟩,⟨Y3,rfl,Y1⟩,Y2,Y1⟩ ⟨⟨Y2,rfl⟩,⟨Y2,rfl⟩,⟨Y2,rfl⟩,Y1⟩)⟩
def ZpE:Con:=fun args st=>match args,st with
  |[.agg [.imm (.int .i64) m_0,.imm (.pair (.int .i64) (.pair (.sl (.int .i64)) (.pair (.sl (.int .i64)) (.pair (.int .i64) (.sl (.sl (.int .i64))))))) m_1],.agg [.int .i64 r__0,.imm (.int .i64) r__1,.imm (.int .i64) r__2,.int .i64 r__3,.imm (.sl (.int .i64)) r__4]],[]=>.opt ((List D6_)) (Zmb (m_0,m_1) (r__0,(r__1,(r__2,(r__3,r__4))))) (fun r=>.ret (.c (.own 900 false)) [(900,.sl 89 y6_ r (.deep true .no))])
  |_,_=>.fail
def Zpr:Cfg:={ y:=tys,n:=20,h:=0,tab:=[(191,Znv),(192,ZkM),(193,Znu)],cut:=[],hand:=[],good:=[],deep:=[],sched:=[] }
theorem Zy0:Zs Tryz.prog Zpr:=by
  refine Zn ?_
  simp only[Zpr,List.forall_mem_cons]
  exact⟨Zwz,Zuf,Zwy,fun p h=>by cases h⟩
theorem ZyL:Zq Tryz.prog 132 ZpE:=by
 refine Zm (C:=Zpr) mixed Ze Zy0 (fn:=Tryz.f132) (c:=bd Tryz.f132) (by kernel_rfl) (by kernel_rfl) (by kernel_rfl) (by kernel_rfl) ?_
 intro args st k he
 unfold ZpE at he
 split at he
 rotate_left
 ·exact he.elim
 rename_i m_0 m_1 r__0 r__1 r__2 r__3 r__4
 have he:Ok (Zmb (m_0,m_1) (r__0,(r__1,(r__2,(r__3,r__4))))) (fun r=>k (.c (.own 900 false)) [(900,.sl 89 y6_ r (.deep true .no))]):=he
 refine⟨rfl,rfl,?_⟩
 refine Zh he (fun he=>?_) fun he=>?_
 ·refine Zk he fun r1_ he=>?_
  have he:=Zb he
  exact⟨rfl,_,_,(Za [(900,12900)] (l:=[(4,.c (.own 900 false))]) (st':=[(900,.sl 89 y6_ r1_ (.deep true .no))]) rfl rfl Y3 ⟨Y3,Y1⟩),he⟩
 ·refine Zh he (fun he=>?_) fun he=>?_
  ·refine Zk he fun r2_ he=>?_
   have he:=Zb he
   exact⟨rfl,_,_,(Za [(900,17900)] (l:=[(4,.c (.own 900 false))]) (st':=[(900,.sl 89 y6_ r2_ (.deep true .no))]) rfl rfl Y3 ⟨Y3,Y1⟩),he⟩
  ·refine Zk he fun r3_ he=>?_
   have he:=Zb he
   exact⟨rfl,_,_,(Za [(900,20900)] (l:=[(4,.c (.own 900 false))]) (st':=[(900,.sl 89 y6_ r3_ (.deep true .no))]) rfl rfl Y3 ⟨Y3,Y1⟩),he⟩
def ZkK:Con:=fun args st=>match args,st with
  |[.agg [.imm (.int .i64) m_0,.imm (.pair (.int .i64) (.pair (.sl (.int .i64)) (.pair (.sl (.int .i64)) (.pair (.int .i64) (.sl (.sl (.int .i64))))))) m_1]],[]=>.opt (Bool×(List D6_)) (ZgC (m_0,m_1)) (fun r=>.ret (.tup [.c (.own 900 false),.c (.bool r.1)]) [(900,.sl 89 y6_ r.2 (.deep true .no))])
  |_,_=>.fail
def Zkz:Cfg:={ y:=tys,n:=45,h:=0,tab:=[(130,ZfE),(131,ZpD),(132,ZpE)],cut:=[8,12],hand:=[],good:=[],deep:=[10,11,43],sched:=[(11,(.first 0 (.first 2 (.first 4 (.alt 1 (.alt 3 (.first 5 (.first 6 (.alt 7 (.alt 8 (.first 9 .done) .stop) .stop))) .stop) (.alt 3 (.first 5 (.first 6 (.alt 1 (.alt 7 (.alt 8 (.first 9 .done) .stop) .stop) .stop))) .stop))))))] }
theorem Zfn:Zs Tryz.prog Zkz:=by
  refine Zn ?_
  simp only[Zkz,List.forall_mem_cons]
  exact⟨ZlP,ZyK,ZyL,fun p h=>by cases h⟩
theorem Zub:Zq Tryz.prog 62 ZkK:=by
 refine Zm (C:=Zkz) mixed Ze Zfn (fn:=Tryz.f62) (c:=bd Tryz.f62) (by kernel_rfl) (by kernel_rfl) (by kernel_rfl) (by kernel_rfl) ?_
 intro args st k he
 unfold ZkK at he
 split at he
 rotate_left
 ·exact he.elim
 rename_i m_0 m_1
 have he:Ok (ZgC (m_0,m_1)) (fun r=>k (.tup [.c (.own 900 false),.c (.bool r.1)]) [(900,.sl 89 y6_ r.2 (.deep true .no))]):=he
 refine⟨rfl,rfl,?_⟩
 refine Zk he fun r1_ he=>?_
 refine Zh he (fun he=>?_) fun he=>?_
 ·have he:=Zb he
  exact⟨rfl,_,_,(Za [(900,10)] (l:=[(2,.c (.own 900 false)),(3,.c (.bool false))]) (st':=[(900,.sl 89 y6_ ([]:List D6_) (.deep true .no))]) rfl rfl Y3 ⟨Y3,.inr rfl,Y1⟩),he⟩
 ·refine Zt mixed Ze Zfn (S:=(List D6_)) (I:=(fun out1=>(Zo [(1,.c (.ptr 10001000 0)),(4,.c (.own 10001001 false))],[(10001000,.rc [.imm y0_ (m_0,m_1).1,.imm y4_ (m_0,m_1).2]),(10001001,.sl 89 y6_ out1 (.deep true .no))]))) (B:=fun s=>Ok (ZgT (m_0,m_1) s) (fun r=>k (.tup [.c (.own 900 false),.c (.bool r.1)]) [(900,.sl 89 y6_ r.2 (.deep true .no))])) ?_ ?_
  ·rintro out1 he
   refine Zt mixed Ze Zfn (S:=(List D6_)) (I:=(fun out3=>(Zo [(4,.c (.own 10003000 false))],[(10003000,.sl 89 y6_ out3 (.deep true .no))]))) (B:=fun s=>Ok (ZgU s) (fun r=>k (.tup [.c (.own 900 false),.c (.bool r.1)]) [(900,.sl 89 y6_ r.2 (.deep true .no))])) ?_ ?_
   ·rintro out3 he
    refine Zh he (fun he=>?_) fun he=>?_
    ·have he:=Zb he
     exact⟨rfl,_,_,(Za [(900,43)] (l:=[(2,.c (.own 900 false)),(3,.c (.bool false))]) (st':=[(900,.sl 89 y6_ ([]:List D6_) (.deep true .no))]) rfl rfl Y3 ⟨Y3,.inr rfl,Y1⟩),he⟩
    ·have he:=Zb he
     exact⟨rfl,_,_,(Za [(900,10003000)] (l:=[(2,.c (.own 900 false)),(3,.c (.bool true))]) (st':=[(900,.sl 89 y6_ out3 (.deep true .no))]) rfl rfl Y3 ⟨Y3,.inr rfl,Y1⟩),he⟩
   ·skip
    refine Zl mixed Ze Zfn (S:=Int×(List D6_)) (I:=(fun (i1,out2)=>(Zo [(1,.c (.ptr 10002000 0)),(4,.c (.own 10002001 false)),(6,.c (.int .i64 i1))],[(10002000,.rc [.imm y0_ (m_0,m_1).1,.imm y4_ (m_0,m_1).2]),(10002001,.sl 89 y6_ out2 (.deep true .no))]))) (f:=ZgV (m_0,m_1)) (K:=(fun r=>k (.tup [.c (.own 900 false),.c (.bool r.1)]) [(900,.sl 89 y6_ r.2 (.deep true .no))])) he (Za [(10002000,10001000),(10002001,10001001)] rfl rfl ⟨⟨.inl rfl,.inl rfl,Y1⟩,Y2,Y1⟩ ⟨⟨Y2,rfl⟩,Y3,rfl,Y1⟩) ?_
    rintro⟨i1,out2⟩ J1 he
    refine Zh he (fun he=>?_) fun he=>?_
    ·refine And.intro (by kernel_rfl) ?_
     have he:=ZU he
     have hq1:=he.1
     have he:=he.2
     obtain⟨r6_,hq2,he⟩:=Zb1 he
     have he:=ZU he
     have hq3:=he.1
     have he:=he.2
     refine Y5 ?_ ?_
     ·skip
      refine Y4 ?_
      refine And.intro hq1 ?_
      refine Y4 ?_
      refine⟨r6_,hq2,?_⟩
      refine Y4 ?_
      refine And.intro hq3 ?_
      refine Zc he fun he=>?_
      have he:=Zb he
      exact⟨((i1+(1:Int)),(out2++r6_)),he,(Za [(10002001,39)] rfl rfl ⟨⟨.inl rfl,.inl rfl,Y1⟩,Y2,Y1⟩ ⟨⟨Y2,rfl⟩,Y3,rfl,Y1⟩)⟩
     ·skip
      refine And.intro hq1 ?_
      refine Y4 ?_
      refine Y4 ?_
      refine⟨r6_,hq2,?_⟩
      refine Y4 ?_
      refine And.intro hq3 ?_
      refine Zc he fun he=>?_
      have he:=Zb he
      exact⟨((i1+(1:Int)),(out2++r6_)),he,(Za [(10002001,39)] rfl rfl ⟨⟨.inl rfl,.inl rfl,Y1⟩,Y2,Y1⟩ ⟨⟨Y2,rfl⟩,Y3,rfl,Y1⟩)⟩
    ·exact⟨out2,ZbH he,(Za [(10003000,10002001)] rfl rfl Y3 ⟨Y3,Y1⟩)⟩
  ·skip
   refine Zl mixed Ze Zfn (S:=Int×(List D6_)) (I:=(fun (i,out)=>(Zo [(1,.c (.ptr 10000000 0)),(4,.c (.own 10000001 false)),(5,.c (.int .i64 i))],[(10000000,.rc [.imm y0_ (m_0,m_1).1,.imm y4_ (m_0,m_1).2]),(10000001,.sl 89 y6_ out (.deep true .no))]))) (f:=ZgW (m_0,m_1)) (K:=(fun r=>k (.tup [.c (.own 900 false),.c (.bool r.1)]) [(900,.sl 89 y6_ r.2 (.deep true .no))])) he (Za [(10000000,1),(10000001,11)] rfl rfl ⟨⟨.inl rfl,.inl rfl,Y1⟩,Y2,Y1⟩ ⟨⟨Y2,rfl⟩,Y3,rfl,Y1⟩) ?_
   rintro⟨i,out⟩ J1 he
   refine Zh he (fun he=>?_) fun he=>?_
   ·refine Zk he fun r3_ he=>?_
    refine Zc he fun he=>?_
    refine Zc he fun he=>?_
    have he:=Zb he
    exact⟨((i+(1:Int)),(out++r3_)),he,(Za [(10000001,23)] rfl rfl ⟨⟨.inl rfl,.inl rfl,Y1⟩,Y2,Y1⟩ ⟨⟨Y2,rfl⟩,Y3,rfl,Y1⟩)⟩
   ·exact⟨out,ZbH he,(Za [(10001000,10000000),(10001001,10000001)] rfl rfl ⟨⟨.inl rfl,.inl rfl,Y1⟩,Y2,Y1⟩ ⟨⟨Y2,rfl⟩,Y3,Y1⟩)⟩
def Zlh:Con:=fun args st=>match args,st with
  |[.agg [.imm (.int .i64) m_0,.imm (.pair (.int .i64) (.pair (.sl (.int .i64)) (.pair (.sl (.int .i64)) (.pair (.int .i64) (.sl (.sl (.int .i64))))))) m_1],.c (.imm (.int .i64) coefs)],[]=>.opt (Bool) (Zix (m_0,m_1) coefs) (fun r=>.ret (.c (.bool r)) [])
  |_,_=>.fail
def Zom:Cfg:={ y:=tys,n:=35,h:=0,tab:=[(130,ZfE)],cut:=[],hand:=[],good:=[],deep:=[],sched:=[] }
theorem Zsf:Zs Tryz.prog Zom:=by
  refine Zn ?_
  simp only[Zom,List.forall_mem_cons]
  exact⟨ZlP,fun p h=>by cases h⟩
theorem ZrR:Zq Tryz.prog 63 Zlh:=by
 refine Zm (C:=Zom) mixed Ze Zsf (fn:=Tryz.f63) (c:=bd Tryz.f63) (by kernel_rfl) (by kernel_rfl) (by kernel_rfl) (by kernel_rfl) ?_
 intro args st k he
 unfold Zlh at he
 split at he
 rotate_left
 ·exact he.elim
 rename_i m_0 m_1 coefs
 have he:Ok (Zix (m_0,m_1) coefs) (fun r=>k (.c (.bool r)) []):=he
 refine⟨rfl,rfl,?_⟩
 refine Zk he fun r1_ he=>?_
 refine ZK he (fun he=>?_) fun he=>?_
 ·refine Zh he (fun he=>?_) fun he=>?_
  ·have he:=Zb he
   exact⟨rfl,_,_,(Za [] (l:=[(4,.c (.bool false))]) (st':=[]) rfl rfl trivial ⟨.inr rfl,Y1⟩),he⟩
  ·refine Zl mixed Ze Zsf (S:=Int) (I:=(fun i=>(Zo [(1,.c (.imm y0_ coefs)),(5,.c (.int .i64 i))],[]))) (f:=Zkp coefs) (K:=(fun r=>k (.c (.bool r)) [])) he (Za [] rfl rfl trivial ⟨.inl rfl,rfl,Y1⟩) ?_
   rintro i J1 he
   refine Zh he (fun he=>?_) fun he=>?_
   ·refine Zc he fun he=>?_
    refine ZK he (fun he=>?_) fun he=>?_
    ·refine Zc he fun he=>?_
     refine Zh he (fun he=>?_) fun he=>?_
     ·have he:=Zb he
      exact⟨rfl,_,_,Leads.refl _ _,he⟩
     ·refine Zc he fun he=>?_
      have he:=Zb he
      exact⟨(i+(1:Int)),he,(Za [] rfl rfl trivial ⟨.inl rfl,rfl,Y1⟩)⟩
    ·have he:=Zb he
     exact⟨rfl,_,_,Leads.refl _ _,he⟩
   ·have he:=Zb he
    exact⟨rfl,_,_,Leads.refl _ _,he⟩
 ·have he:=Zb he
  exact⟨rfl,_,_,(Za [] (l:=[(4,.c (.bool false))]) (st':=[]) rfl rfl trivial ⟨.inr rfl,Y1⟩),he⟩
def ZoE:Con:=fun args st=>match args,st with
  |[.c (.imm (.int .i64) coefs),.c (.imm (.int .i64) cells)],[]=>.opt (Int) (Zlb coefs cells) (fun r=>.ret (.c (.int .i64 r)) [])
  |_,_=>.fail
def ZrH:Cfg:={ y:=tys,n:=25,h:=0,tab:=[],cut:=[],hand:=[],good:=[],deep:=[],sched:=[] }
theorem Zsg:Zs Tryz.prog ZrH:=Zn (fun p h=>by cases h)
theorem Zxy:Zq Tryz.prog 65 ZoE:=by
 refine Zm (C:=ZrH) mixed Ze Zsg (fn:=Tryz.f65) (c:=bd Tryz.f65) (by kernel_rfl) (by kernel_rfl) (by kernel_rfl) (by kernel_rfl) ?_
 intro args st k he
 unfold ZoE at he
 split at he
 rotate_left
 ·exact he.elim
 rename_i coefs cells
 have he:Ok (Zlb coefs cells) (fun r=>k (.c (.int .i64 r)) []):=he
 refine⟨rfl,rfl,?_⟩
 refine Zl mixed Ze Zsg (S:=Int×Int) (I:=(fun (n,i)=>(Zo [(0,.c (.imm y0_ coefs)),(1,.c (.imm y0_ cells)),(5,.c (.int .i64 n)),(6,.c (.int .i64 i))],[]))) (f:=ZnO coefs cells) (K:=(fun r=>k (.c (.int .i64 r)) [])) he (Za [] rfl rfl trivial ⟨.inl rfl,.inl rfl,rfl,rfl,Y1⟩) ?_
 rintro⟨n,i⟩ J1 he
 refine Zh he (fun he=>?_) fun he=>?_
 ·refine And.intro (by kernel_rfl) ?_
  refine Zc he fun he=>?_
  refine Zc he fun he=>?_
  refine Zc he fun he=>?_
  refine Zc he fun he=>?_
  refine Zc he fun he=>?_
  have he:=Zb he
  exact⟨((n+((coefs.getD i.toNat 0)*(cells.getD i.toNat 0))),(i+(1:Int))),he,(Za [] rfl rfl trivial ⟨.inl rfl,.inl rfl,rfl,rfl,Y1⟩)⟩
 ·have he:=Zb he
  exact⟨rfl,_,_,Leads.refl _ _,he⟩
def Zg9:Con:=fun args st=>match args,st with
  |[.agg [.imm (.int .i64) m_0,.imm (.pair (.int .i64) (.pair (.sl (.int .i64)) (.pair (.sl (.int .i64)) (.pair (.int .i64) (.sl (.sl (.int .i64))))))) m_1],.c (.imm (.int .i64) coefs),.c (.int .i64 most)],[]=>.opt (Bool×Int×(List D5_)) (Zd5 (m_0,m_1) coefs most) (fun r=>.ret (.tup [.agg [.own 901 false,.int .i64 r.2.1],.c (.bool r.1)]) [(900,.rc [.own 901 false,.int .i64 r.2.1]),(901,.sl 155 y5_ r.2.2 .shallow)])
  |_,_=>.fail
def Zg6:Cfg:={ y:=tys,n:=59,h:=0,tab:=[(63,Zlh),(133,Ze7),(134,Zka)],cut:=[11],hand:=[],good:=[],deep:=[],sched:=[(10,(.first 0 (.first 2 (.first 3 (.first 5 (.first 6 (.first 7 (.first 8 (.first 9 (.first 10 (.first 11 (.alt 1 (.alt 4 (.first 12 (.alt 13 .done .stop)) .stop) .stop))))))))))))] }
theorem ZeB:Zs Tryz.prog Zg6:=by
  refine Zn ?_
  simp only[Zg6,List.forall_mem_cons]
  exact⟨ZrR,Zij,Zre,fun p h=>by cases h⟩
theorem ZqQ:Zq Tryz.prog 64 Zg9:=by
 refine Zm (C:=Zg6) mixed Ze ZeB (fn:=Tryz.f64) (c:=bd Tryz.f64) (by kernel_rfl) (by kernel_rfl) (by kernel_rfl) (by kernel_rfl) ?_
 intro args st k he
 unfold Zg9 at he
 split at he
 rotate_left
 ·exact he.elim
 rename_i m_0 m_1 coefs most
 have he:Ok (Zd5 (m_0,m_1) coefs most) (fun r=>k (.tup [.agg [.own 901 false,.int .i64 r.2.1],.c (.bool r.1)]) [(900,.rc [.own 901 false,.int .i64 r.2.1]),(901,.sl 155 y5_ r.2.2 .shallow)]):=he
 refine⟨rfl,rfl,?_⟩
 refine Zk he fun r1_ he=>?_
 refine ZK he (fun he=>?_) fun he=>?_
 ·refine ZK he (fun he=>?_) fun he=>?_
  ·refine Zh he (fun he=>?_) fun he=>?_
   ·have he:=Zb he
    exact⟨rfl,_,_,(Za [(900,6)] (l:=[(6,.c (.ptr 900 0)),(7,.c (.bool false))]) (st':=[(900,.rc [.own 901 false,.int .i64 (0:Int)]),(901,.sl 155 y5_ ([]:List D5_) .shallow)]) rfl rfl ⟨⟨⟨rfl,Y1⟩,rfl,Y1⟩,Y1,Y1⟩ ⟨⟨Y2,rfl⟩,.inr rfl,Y1⟩),he⟩
   ·refine Zc he fun he=>?_
    refine Zt mixed Ze ZeB (S:=(List Int)) (I:=(fun net3=>(Zo [(2,.c (.int .i64 most)),(6,.c (.ptr 10003000 0)),(8,.c (.own 10003001 false))],[(10003000,.rc [.nil,.int .i64 (0:Int)]),(10003001,.sl 3 y0_ net3 .shallow)]))) (B:=fun s=>Ok (ZgA most s) (fun r=>k (.tup [.agg [.own 901 false,.int .i64 r.2.1],.c (.bool r.1)]) [(900,.rc [.own 901 false,.int .i64 r.2.1]),(901,.sl 155 y5_ r.2.2 .shallow)])) ?_ ?_
    ·rintro net3 he
     refine Zc he fun he=>?_
     refine Zk he fun r7_ he=>?_
     have he:=Zb he
     exact⟨rfl,_,_,(Za [(900,10003000),(901,57901)] (l:=[(6,.c (.ptr 900 0)),(7,.c (.bool r7_.1))]) (st':=[(900,.rc [.own 901 false,.int .i64 r7_.2.1]),(901,.sl 155 y5_ r7_.2.2 .shallow)]) rfl rfl ⟨⟨Y3,rfl,Y1⟩,Y2,Y1⟩ ⟨⟨Y2,rfl⟩,.inl rfl,Y1⟩),he⟩
    ·skip
     refine Zl mixed Ze ZeB (S:=Int×(List Int)) (I:=(fun (i,net1)=>(Zo [(1,.c (.imm y0_ coefs)),(2,.c (.int .i64 most)),(3,.c (.ptr 10000000 0)),(6,.c (.ptr 10000001 0)),(8,.c (.own 10000002 false)),(9,.c (.int .i64 i))],[(10000000,.rc [.imm y0_ (m_0,m_1).1,.imm y4_ (m_0,m_1).2]),(10000001,.rc [.nil,.int .i64 (0:Int)]),(10000002,.sl 3 y0_ net1 .shallow)]))) (f:=Zej (m_0,m_1) coefs most) (K:=(fun r=>k (.tup [.agg [.own 901 false,.int .i64 r.2.1],.c (.bool r.1)]) [(900,.rc [.own 901 false,.int .i64 r.2.1]),(901,.sl 155 y5_ r.2.2 .shallow)])) he (Za [(10000000,3),(10000001,6),(10000002,24)] rfl rfl ⟨⟨.inl rfl,.inl rfl,Y1⟩,⟨rfl,rfl,Y1⟩,Y2,Y1⟩ ⟨.inl rfl,rfl,⟨Y2,rfl⟩,⟨Y2,rfl⟩,Y3,rfl,Y1⟩) ?_
     rintro⟨i,net1⟩ J1 he
     refine Zh he (fun he=>?_) fun he=>?_
     ·refine Zl mixed Ze ZeB (S:=Int×(List Int)) (I:=(fun (k_1,net2)=>(Zo [(1,.c (.imm y0_ coefs)),(2,.c (.int .i64 most)),(3,.c (.ptr 10002000 0)),(6,.c (.ptr 10002001 0)),(8,.c (.own 10002002 false)),(9,.c (.int .i64 i)),(10,.c (.int .i64 k_1))],[(10002000,.rc [.imm y0_ (m_0,m_1).1,.imm y4_ (m_0,m_1).2]),(10002001,.rc [.nil,.int .i64 (0:Int)]),(10002002,.sl 3 y0_ net2 .shallow)]))) (f:=Zek (m_0,m_1) coefs i) (K:=(LK J1 (fun r=>k (.tup [.agg [.own 901 false,.int .i64 r.2.1],.c (.bool r.1)]) [(900,.rc [.own 901 false,.int .i64 r.2.1]),(901,.sl 155 y5_ r.2.2 .shallow)]))) he (Za [(10002000,10000000),(10002001,10000001),(10002002,10000002)] rfl rfl ⟨⟨.inl rfl,.inl rfl,Y1⟩,⟨rfl,rfl,Y1⟩,Y2,Y1⟩ ⟨.inl rfl,rfl,⟨Y2,rfl⟩,⟨Y2,rfl⟩,Y3,rfl,rfl,Y1⟩) ?_
      rintro⟨k_1,net2⟩ J2 he
      refine Zc he fun he=>?_
      refine Zh he (fun he=>?_) fun he=>?_
      ·refine And.intro (by kernel_rfl) ?_
       refine Zc he fun he=>?_
       refine Zc he fun he=>?_
       refine Zc he fun he=>?_
       refine Y4 ?_
       refine Y4 ?_
       refine Zk he fun r6_ he=>?_
       refine Zc he fun he=>?_
       refine Y4 ?_
       refine Zc he fun he=>?_
       have he:=Zb he
       exact⟨((k_1+(1:Int)),(net2.set r6_.toNat ((0 - (coefs.getD i.toNat 0))*k_1))),he,(Za [] rfl rfl ⟨⟨.inl rfl,.inl rfl,Y1⟩,⟨rfl,rfl,Y1⟩,Y2,Y1⟩ ⟨.inl rfl,rfl,⟨Y2,rfl⟩,⟨Y2,rfl⟩,Y3,rfl,rfl,Y1⟩)⟩
      ·refine Zc he fun he=>?_
       have he:=Zb he
       exact⟨((i+(1:Int)),net2),he,(Za [(10000000,10002000),(10000001,10002001),(10000002,10002002)] rfl rfl ⟨⟨.inl rfl,.inl rfl,Y1⟩,⟨rfl,rfl,Y1⟩,Y2,Y1⟩ ⟨.inl rfl,rfl,⟨Y2,rfl⟩,⟨Y2,rfl⟩,Y3,rfl,Y1⟩)⟩
     ·exact⟨net1,ZbH he,(Za [(10003000,10000001),(10003001,10000002)] rfl rfl ⟨⟨rfl,rfl,Y1⟩,Y2,Y1⟩ ⟨rfl,⟨Y2,rfl⟩,Y3,Y1⟩)⟩
  ·have he:=Zb he
   exact⟨rfl,_,_,(Za [(900,6)] (l:=[(6,.c (.ptr 900 0)),(7,.c (.bool false))]) (st':=[(900,.rc [.own 901 false,.int .i64 (0:Int)]),(901,.sl 155 y5_ ([]:List D5_) .shallow)]) rfl rfl ⟨⟨⟨rfl,Y1⟩,rfl,Y1⟩,Y1,Y1⟩ ⟨⟨Y2,rfl⟩,.inr rfl,Y1⟩),he⟩
 ·have he:=Zb he
  exact⟨rfl,_,_,(Za [(900,6)] (l:=[(6,.c (.ptr 900 0)),(7,.c (.bool false))]) (st':=[(900,.rc [.own 901 false,.int .i64 (0:Int)]),(901,.sl 155 y5_ ([]:List D5_) .shallow)]) rfl rfl ⟨⟨⟨rfl,Y1⟩,rfl,Y1⟩,Y1,Y1⟩ ⟨⟨Y2,rfl⟩,.inr rfl,Y1⟩),he⟩
def ZjX:Con:=fun args st=>match args,st with
  |[.c (.imm (.pair (.sl (.pair (.int .i64) (.int .i64))) (.int .i64)) list_)],[]=>.opt (Bool) (ZfO list_) (fun r=>.ret (.c (.bool r)) [])
  |_,_=>.fail
def ZjJ:Cfg:={ y:=tys,n:=19,h:=0,tab:=[(168,ZeZ)],cut:=[],hand:=[],good:=[],deep:=[],sched:=[] }
theorem Zn7:Zs Tryz.prog ZjJ:=by
  refine Zn ?_
  simp only[ZjJ,List.forall_mem_cons]
  exact⟨Zl1,fun p h=>by cases h⟩
theorem ZtC:Zq Tryz.prog 109 ZjX:=by
 refine Zm (C:=ZjJ) mixed Ze Zn7 (fn:=Tryz.f109) (c:=bd Tryz.f109) (by kernel_rfl) (by kernel_rfl) (by kernel_rfl) (by kernel_rfl) ?_
 intro args st k he
 unfold ZjX at he
 split at he
 rotate_left
 ·exact he.elim
 rename_i list_
 have he:Ok (ZfO list_) (fun r=>k (.c (.bool r)) []):=he
 refine⟨rfl,rfl,?_⟩
 refine Zl mixed Ze Zn7 (S:=Int) (I:=(fun i=>(Zo [(0,.c (.imm y6_ list_)),(3,.c (.int .i64 i))],[]))) (f:=Zf7 list_) (K:=(fun r=>k (.c (.bool r)) [])) he (Za [] rfl rfl trivial ⟨.inl rfl,rfl,Y1⟩) ?_
 rintro i J1 he
 refine Zh he (fun he=>?_) fun he=>?_
 ·refine Zc he fun he=>?_
  refine Zk he fun r1_ he=>?_
  refine Zh he (fun he=>?_) fun he=>?_
  ·have he:=Zb he
   exact⟨rfl,_,_,Leads.refl _ _,he⟩
  ·refine Zc he fun he=>?_
   have he:=Zb he
   exact⟨(i+(1:Int)),he,(Za [] rfl rfl trivial ⟨.inl rfl,rfl,Y1⟩)⟩
 ·have he:=Zb he
  exact⟨rfl,_,_,Leads.refl _ _,he⟩
def Zhr:Con:=fun args st=>match args,st with
  |[.c (.own 0 false),.c (.int .i64 lit)],[(0,.sl 3 (.int .i64) p .shallow)]=>.opt ((List Int)) (Zev lit p) (fun r=>.ret (.tup []) [(0,.sl 3 y0_ r .shallow)])
  |_,_=>.fail
def ZqV:Cfg:={ y:=tys,n:=15,h:=1,tab:=[],cut:=[],hand:=[],good:=[],deep:=[],sched:=[] }
theorem Zw1:Zs Tryz.prog ZqV:=Zn (fun p h=>by cases h)
theorem ZnH:Zq Tryz.prog 194 Zhr:=by
 refine Zm (C:=ZqV) mixed Ze Zw1 (fn:=Tryz.f194) (c:=bd Tryz.f194) (by kernel_rfl) (by kernel_rfl) (by kernel_rfl) (by kernel_rfl) ?_
 intro args st k he
 unfold Zhr at he
 split at he
 rotate_left
 ·exact he.elim
 rename_i lit p
 have he:Ok (Zev lit p) (fun r=>k (.tup []) [(0,.sl 3 y0_ r .shallow)]):=he
 refine⟨rfl,rfl,?_⟩
 refine Zh he (fun he=>?_) fun he=>?_
 ·refine Zc he fun he=>?_
  refine Zc he fun he=>?_
  have he:=Zb he
  exact⟨rfl,_,_,(Za [] (l:=[]) (st':=[(0,.sl 3 y0_ (p.set (lit - (1:Int)).toNat (1:Int)) .shallow)]) rfl rfl Y3 Y1),he⟩
 ·refine Zc he fun he=>?_
  refine Zc he fun he=>?_
  refine Zc he fun he=>?_
  have he:=Zb he
  exact⟨rfl,_,_,(Za [] (l:=[]) (st':=[(0,.sl 3 y0_ (p.set ((0 - lit) - (1:Int)).toNat (-1:Int)) .shallow)]) rfl rfl Y3 Y1),he⟩
def Zlg:Con:=fun args st=>match args,st with
  |[.c (.imm (.int .i64) p),.c (.int .i64 lit)],[]=>.opt (Int) (Zir p lit) (fun r=>.ret (.c (.int .i64 r)) [])
  |_,_=>.fail
def ZrF:Cfg:={ y:=tys,n:=19,h:=0,tab:=[],cut:=[],hand:=[],good:=[],deep:=[],sched:=[] }
theorem Zx0:Zs Tryz.prog ZrF:=Zn (fun p h=>by cases h)
theorem ZrQ:Zq Tryz.prog 288 Zlg:=by
 refine Zm (C:=ZrF) mixed Ze Zx0 (fn:=Tryz.f288) (c:=bd Tryz.f288) (by kernel_rfl) (by kernel_rfl) (by kernel_rfl) (by kernel_rfl) ?_
 intro args st k he
 unfold Zlg at he
 split at he
 rotate_left
 ·exact he.elim
 rename_i p lit
 have he:Ok (Zir p lit) (fun r=>k (.c (.int .i64 r)) []):=he
 refine⟨rfl,rfl,?_⟩
 refine Zh he (fun he=>?_) fun he=>?_
 ·refine Zc he fun he=>?_
  refine Zc he fun he=>?_
  have he:=Zb he
  exact⟨rfl,_,_,Leads.refl _ _,he⟩
 ·refine Zc he fun he=>?_
  refine Zc he fun he=>?_
  refine Zc he fun he=>?_
  refine Zc he fun he=>?_
  have he:=Zb he
  exact⟨rfl,_,_,Leads.refl _ _,he⟩
def Zlf:Con:=fun args st=>match args,st with
  |[.agg [.imm (.pair (.int .i64) (.int .i64)) c__0,.int .i64 c__1],.c (.imm (.int .i64) p)],[]=>.opt (Int) (Ziq (c__0,c__1) p) (fun r=>.ret (.c (.int .i64 r)) [])
  |_,_=>.fail
def Zok:Cfg:={ y:=tys,n:=35,h:=0,tab:=[(288,Zlg)],cut:=[],hand:=[],good:=[],deep:=[],sched:=[] }
theorem Zse:Zs Tryz.prog Zok:=by
  refine Zn ?_
  simp only[Zok,List.forall_mem_cons]
  exact⟨ZrQ,fun p h=>by cases h⟩
theorem ZrP:Zq Tryz.prog 248 Zlf:=by
 refine Zm (C:=Zok) mixed Ze Zse (fn:=Tryz.f248) (c:=bd Tryz.f248) (by kernel_rfl) (by kernel_rfl) (by kernel_rfl) (by kernel_rfl) ?_
 intro args st k he
 unfold Zlf at he
 split at he
 rotate_left
 ·exact he.elim
 rename_i c__0 c__1 p
 have he:Ok (Ziq (c__0,c__1) p) (fun r=>k (.c (.int .i64 r)) []):=he
 refine⟨rfl,rfl,?_⟩
 refine Zc he fun he=>?_
 refine Zl mixed Ze Zse (S:=Int×Int) (I:=(fun (n,i)=>(Zo [(1,.c (.imm y0_ p)),(2,.c (.ptr 10000000 0)),(5,.c (.int .i64 n)),(6,.c (.int .i64 i))],[(10000000,.rc [.imm y5_ (c__0,c__1).1,.int .i64 (c__0,c__1).2])]))) (f:=Zkk (c__0,c__1) p) (K:=(fun r=>k (.c (.int .i64 r)) [])) he (Za [(10000000,2)] rfl rfl ⟨⟨.inl rfl,rfl,Y1⟩,Y1⟩ ⟨.inl rfl,⟨Y2,rfl⟩,rfl,rfl,Y1⟩) ?_
 rintro⟨n,i⟩ J1 he
 refine Zh he (fun he=>?_) fun he=>?_
 ·refine Zc he fun he=>?_
  refine Zk he fun r1_ he=>?_
  refine Zh he (fun he=>?_) fun he=>?_
  ·refine Zc he fun he=>?_
   refine Zc he fun he=>?_
   refine Zc he fun he=>?_
   have he:=Zb he
   exact⟨((n+((c__0,c__1).1.getD i.toNat (0,0)).1),(i+(1:Int))),he,(Za [] rfl rfl ⟨⟨.inl rfl,rfl,Y1⟩,Y1⟩ ⟨.inl rfl,⟨Y2,rfl⟩,rfl,rfl,Y1⟩)⟩
  ·refine Zc he fun he=>?_
   have he:=Zb he
   exact⟨(n,(i+(1:Int))),he,(Za [] rfl rfl ⟨⟨.inl rfl,rfl,Y1⟩,Y1⟩ ⟨.inl rfl,⟨Y2,rfl⟩,rfl,rfl,Y1⟩)⟩
 ·have he:=Zb he
  exact⟨rfl,_,_,(Za [] (l:=[(4,.c (.int .i64 n))]) (st':=[]) rfl rfl trivial ⟨rfl,Y1⟩),he⟩
def ZmJ:Con:=fun args st=>match args,st with
  |[.agg [.imm (.pair (.int .i64) (.int .i64)) c__0,.int .i64 c__1],.c (.imm (.int .i64) p)],[]=>.opt ((List Int)) (ZeU (c__0,c__1) p) (fun r=>.ret (.c (.own 900 false)) [(900,.sl 3 y0_ r .shallow)])
  |_,_=>.fail
def ZmA:Cfg:={ y:=tys,n:=52,h:=0,tab:=[(248,Zlf),(288,Zlg)],cut:=[],hand:=[],good:=[],deep:=[],sched:=[] }
theorem ZqN:Zs Tryz.prog ZmA:=by
  refine Zn ?_
  simp only[ZmA,List.forall_mem_cons]
  exact⟨ZrP,ZrQ,fun p h=>by cases h⟩
theorem ZvO:Zq Tryz.prog 249 ZmJ:=by
 refine Zm (C:=ZmA) mixed Ze ZqN (fn:=Tryz.f249) (c:=bd Tryz.f249) (by kernel_rfl) (by kernel_rfl) (by kernel_rfl) (by kernel_rfl) ?_
 intro args st k he
 unfold ZmJ at he
 split at he
 rotate_left
 ·exact he.elim
 rename_i c__0 c__1 p
 have he:Ok (ZeU (c__0,c__1) p) (fun r=>k (.c (.own 900 false)) [(900,.sl 3 y0_ r .shallow)]):=he
 refine⟨rfl,rfl,?_⟩
 refine Zk he fun r1_ he=>?_
 refine Zl mixed Ze ZqN (S:=Int×(List Int)) (I:=(fun (i,out)=>(Zo [(1,.c (.imm y0_ p)),(2,.c (.ptr 10000000 0)),(5,.c (.own 10000001 false)),(6,.c (.int .i64 r1_)),(7,.c (.int .i64 i))],[(10000000,.rc [.imm y5_ (c__0,c__1).1,.int .i64 (c__0,c__1).2]),(10000001,.sl 3 y0_ out .shallow)]))) (f:=ZfR (c__0,c__1) p r1_) (K:=(fun r=>k (.c (.own 900 false)) [(900,.sl 3 y0_ r .shallow)])) he (Za [(10000000,2),(10000001,8)] rfl rfl ⟨⟨.inl rfl,rfl,Y1⟩,Y2,Y1⟩ ⟨.inl rfl,⟨Y2,rfl⟩,Y3,rfl,rfl,Y1⟩) ?_
 rintro⟨i,out⟩ J1 he
 refine Zh he (fun he=>?_) fun he=>?_
 ·refine Zh he (fun he=>?_) fun he=>?_
  ·refine Zc he fun he=>?_
   refine Zk he fun r3_ he=>?_
   refine Zh he (fun he=>?_) fun he=>?_
   ·refine Zc he fun he=>?_
    refine Zh he (fun he=>?_) fun he=>?_
    ·refine Zc he fun he=>?_
     refine Zc he fun he=>?_
     refine Zc he fun he=>?_
     have he:=Zb he
     exact⟨((i+(1:Int)),(out++[((c__0,c__1).1.getD i.toNat (0,0)).2])),he,(Za [(10000001,50)] rfl rfl ⟨⟨.inl rfl,rfl,Y1⟩,Y2,Y1⟩ ⟨.inl rfl,⟨Y2,rfl⟩,Y3,rfl,rfl,Y1⟩)⟩
    ·refine Zc he fun he=>?_
     have he:=Zb he
     exact⟨((i+(1:Int)),out),he,(Za [] rfl rfl ⟨⟨.inl rfl,rfl,Y1⟩,Y2,Y1⟩ ⟨.inl rfl,⟨Y2,rfl⟩,Y3,rfl,rfl,Y1⟩)⟩
   ·refine Zc he fun he=>?_
    have he:=Zb he
    exact⟨((i+(1:Int)),out),he,(Za [] rfl rfl ⟨⟨.inl rfl,rfl,Y1⟩,Y2,Y1⟩ ⟨.inl rfl,⟨Y2,rfl⟩,Y3,rfl,rfl,Y1⟩)⟩
  ·have he:=Zb he
   exact⟨rfl,_,_,(Za [(900,10000001)] (l:=[(4,.c (.own 900 false))]) (st':=[(900,.sl 3 y0_ out .shallow)]) rfl rfl Y3 ⟨Y3,Y1⟩),he⟩
 ·have he:=Zb he
  exact⟨rfl,_,_,(Za [(900,10000001)] (l:=[(4,.c (.own 900 false))]) (st':=[(900,.sl 3 y0_ out .shallow)]) rfl rfl Y3 ⟨Y3,Y1⟩),he⟩
end
end Go.AE.Y
