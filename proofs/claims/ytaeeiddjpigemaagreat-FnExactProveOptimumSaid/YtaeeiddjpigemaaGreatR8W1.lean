/-
  Walks: each function keeps the contract that its model gives. No conditions.
-/
import Derived.Test.YtaeeiddjpigemaaGreatR8Tab
import Derived.Test.YtaeeiddjpigemaaGreatR8M
import Derived.Test.YtaeeiddjpigemaaGreatR8S
namespace Go.AE.Y
open Go Go.AE Go.Proofs
set_option linter.unusedVariables false
set_option maxHeartbeats 2000000
set_option maxRecDepth 100000
noncomputable section
def Zjl:Con:=fun args st=>match args,st with
  |[.c (.imm (.int .i64) a),.c (.int .i64 left)],[]=>.opt (Int) (Zgg a left) (fun r=>.ret (.c (.int .i64 r)) [])
  |_,_=>.fail
def Zs3:Cfg:={ y:=tys,n:=12,h:=0,tab:=[],cut:=[],hand:=[],good:=[],deep:=[],sched:=[] }
theorem ZyW:Zs Tryz.prog Zs3:=Zn (fun p h=>by cases h)
theorem ZpJ:Zq Tryz.prog 78 Zjl:=by
 refine Zm (C:=Zs3) mixed Ze ZyW (fn:=Tryz.f78) (c:=bd Tryz.f78) (by kernel_rfl) (by kernel_rfl) (by kernel_rfl) (by kernel_rfl) ?_
 intro args st k he
 unfold Zjl at he
 split at he
 rotate_left
 ·exact he.elim
 rename_i a left
 have he:Ok (Zgg a left) (fun r=>k (.c (.int .i64 r)) []):=he
 refine⟨rfl,rfl,?_⟩
 refine Zc he fun he=>?_
 refine Zh he (fun he=>?_) fun he=>?_
 ·have he:=Zb he
  exact⟨rfl,_,_,Leads.refl _ _,he⟩
 ·have he:=Zb he
  exact⟨rfl,_,_,Leads.refl _ _,he⟩
def Zow:Con:=fun args st=>match args,st with
  |[.c (.imm (.sl (.int .i64)) a),.c (.int .i64 left)],[]=>.opt (Int) (ZkX a left) (fun r=>.ret (.c (.int .i64 r)) [])
  |_,_=>.fail
def Zoe:Cfg:={ y:=tys,n:=27,h:=0,tab:=[(78,Zjl)],cut:=[],hand:=[],good:=[],deep:=[],sched:=[] }
theorem Zr9:Zs Tryz.prog Zoe:=by
  refine Zn ?_
  simp only[Zoe,List.forall_mem_cons]
  exact⟨ZpJ,fun p h=>by cases h⟩
theorem Zxq:Zq Tryz.prog 203 Zow:=by
 refine Zm (C:=Zoe) mixed Ze Zr9 (fn:=Tryz.f203) (c:=bd Tryz.f203) (by kernel_rfl) (by kernel_rfl) (by kernel_rfl) (by kernel_rfl) ?_
 intro args st k he
 unfold Zow at he
 split at he
 rotate_left
 ·exact he.elim
 rename_i a left
 have he:Ok (ZkX a left) (fun r=>k (.c (.int .i64 r)) []):=he
 refine⟨rfl,rfl,?_⟩
 refine Zc he fun he=>?_
 refine Zh he (fun he=>?_) fun he=>?_
 ·have he:=Zb he
  exact⟨rfl,_,_,Leads.refl _ _,he⟩
 ·refine Zl mixed Ze Zr9 (S:=Int×Int) (I:=(fun (left1,i)=>(Zo [(0,.c (.imm (.sl y0_) a)),(1,.c (.int .i64 left1)),(5,.c (.int .i64 i))],[]))) (f:=ZnI a) (K:=(fun r=>k (.c (.int .i64 r)) [])) he (Za [] rfl rfl trivial ⟨.inl rfl,rfl,rfl,Y1⟩) ?_
  rintro⟨left1,i⟩ J1 he
  refine Zh he (fun he=>?_) fun he=>?_
  ·refine Zc he fun he=>?_
   refine Zk he fun r1_ he=>?_
   refine Zh he (fun he=>?_) fun he=>?_
   ·have he:=Zb he
    exact⟨rfl,_,_,Leads.refl _ _,he⟩
   ·refine Zc he fun he=>?_
    have he:=Zb he
    exact⟨(r1_,(i+(1:Int))),he,(Za [] rfl rfl trivial ⟨.inl rfl,rfl,rfl,Y1⟩)⟩
  ·have he:=Zb he
   exact⟨rfl,_,_,Leads.refl _ _,he⟩
def Zpw:Con:=fun args st=>match args,st with
  |[.agg [.int .i64 a_0,.imm (.int .i64) a_1,.imm (.int .i64) a_2,.int .i64 a_3,.imm (.sl (.int .i64)) a_4],.c (.int .i64 left)],[]=>.opt (Int) (Zl4 (a_0,(a_1,(a_2,(a_3,a_4)))) left) (fun r=>.ret (.c (.int .i64 r)) [])
  |_,_=>.fail
def Zpn:Cfg:={ y:=tys,n:=24,h:=0,tab:=[(78,Zjl),(203,Zow)],cut:=[],hand:=[],good:=[],deep:=[],sched:=[] }
theorem ZyX:Zs Tryz.prog Zpn:=by
  refine Zn ?_
  simp only[Zpn,List.forall_mem_cons]
  exact⟨ZpJ,Zxq,fun p h=>by cases h⟩
theorem ZyD:Zq Tryz.prog 143 Zpw:=by
 refine Zm (C:=Zpn) mixed Ze ZyX (fn:=Tryz.f143) (c:=bd Tryz.f143) (by kernel_rfl) (by kernel_rfl) (by kernel_rfl) (by kernel_rfl) ?_
 intro args st k he
 unfold Zpw at he
 split at he
 rotate_left
 ·exact he.elim
 rename_i a_0 a_1 a_2 a_3 a_4 left
 have he:Ok (Zl4 (a_0,(a_1,(a_2,(a_3,a_4)))) left) (fun r=>k (.c (.int .i64 r)) []):=he
 refine⟨rfl,rfl,?_⟩
 refine Zk he fun r1_ he=>?_
 refine Zh he (fun he=>?_) fun he=>?_
 ·have he:=Zb he
  exact⟨rfl,_,_,(Za [] (l:=[(4,.c (.int .i64 (-1:Int)))]) (st':=[]) rfl rfl trivial ⟨rfl,Y1⟩),he⟩
 ·refine Zk he fun r2_ he=>?_
  refine Zh he (fun he=>?_) fun he=>?_
  ·have he:=Zb he
   exact⟨rfl,_,_,(Za [] (l:=[(4,.c (.int .i64 (-1:Int)))]) (st':=[]) rfl rfl trivial ⟨rfl,Y1⟩),he⟩
  ·refine Zk he fun r3_ he=>?_
   refine Zh he (fun he=>?_) fun he=>?_
   ·have he:=Zb he
    exact⟨rfl,_,_,(Za [] (l:=[(4,.c (.int .i64 (-1:Int)))]) (st':=[]) rfl rfl trivial ⟨rfl,Y1⟩),he⟩
   ·have he:=Zb he
    exact⟨rfl,_,_,(Za [] (l:=[(4,.c (.int .i64 r3_))]) (st':=[]) rfl rfl trivial ⟨rfl,Y1⟩),he⟩
def Zoy:Con:=fun args st=>match args,st with
  |[.c (.imm (.pair (.int .i64) (.pair (.sl (.int .i64)) (.pair (.sl (.int .i64)) (.pair (.int .i64) (.sl (.sl (.int .i64))))))) a),.c (.int .i64 left)],[]=>.opt (Int) (ZkZ a left) (fun r=>.ret (.c (.int .i64 r)) [])
  |_,_=>.fail
def Zog:Cfg:={ y:=tys,n:=27,h:=0,tab:=[(143,Zpw)],cut:=[],hand:=[],good:=[],deep:=[],sched:=[] }
theorem Zsa:Zs Tryz.prog Zog:=by
  refine Zn ?_
  simp only[Zog,List.forall_mem_cons]
  exact⟨ZyD,fun p h=>by cases h⟩
theorem Zxs:Zq Tryz.prog 79 Zoy:=by
 refine Zm (C:=Zog) mixed Ze Zsa (fn:=Tryz.f79) (c:=bd Tryz.f79) (by kernel_rfl) (by kernel_rfl) (by kernel_rfl) (by kernel_rfl) ?_
 intro args st k he
 unfold Zoy at he
 split at he
 rotate_left
 ·exact he.elim
 rename_i a left
 have he:Ok (ZkZ a left) (fun r=>k (.c (.int .i64 r)) []):=he
 refine⟨rfl,rfl,?_⟩
 refine Zc he fun he=>?_
 refine Zh he (fun he=>?_) fun he=>?_
 ·have he:=Zb he
  exact⟨rfl,_,_,Leads.refl _ _,he⟩
 ·refine Zl mixed Ze Zsa (S:=Int×Int) (I:=(fun (left1,i)=>(Zo [(0,.c (.imm y4_ a)),(1,.c (.int .i64 left1)),(5,.c (.int .i64 i))],[]))) (f:=ZnJ a) (K:=(fun r=>k (.c (.int .i64 r)) [])) he (Za [] rfl rfl trivial ⟨.inl rfl,rfl,rfl,Y1⟩) ?_
  rintro⟨left1,i⟩ J1 he
  refine Zh he (fun he=>?_) fun he=>?_
  ·refine Zc he fun he=>?_
   refine Zk he fun r1_ he=>?_
   refine Zh he (fun he=>?_) fun he=>?_
   ·have he:=Zb he
    exact⟨rfl,_,_,Leads.refl _ _,he⟩
   ·refine Zc he fun he=>?_
    have he:=Zb he
    exact⟨(r1_,(i+(1:Int))),he,(Za [] rfl rfl trivial ⟨.inl rfl,rfl,rfl,Y1⟩)⟩
  ·have he:=Zb he
   exact⟨rfl,_,_,Leads.refl _ _,he⟩
def Zox:Con:=fun args st=>match args,st with
  |[.agg [.imm (.int .i64) a_0,.imm (.pair (.int .i64) (.pair (.sl (.int .i64)) (.pair (.sl (.int .i64)) (.pair (.int .i64) (.sl (.sl (.int .i64))))))) a_1],.c (.int .i64 left)],[]=>.opt (Int) (ZkY (a_0,a_1) left) (fun r=>.ret (.c (.int .i64 r)) [])
  |_,_=>.fail
def Zof:Cfg:={ y:=tys,n:=18,h:=0,tab:=[(78,Zjl),(79,Zoy)],cut:=[],hand:=[],good:=[],deep:=[],sched:=[] }
theorem ZxY:Zs Tryz.prog Zof:=by
  refine Zn ?_
  simp only[Zof,List.forall_mem_cons]
  exact⟨ZpJ,Zxs,fun p h=>by cases h⟩
theorem Zxr:Zq Tryz.prog 19 Zox:=by
 refine Zm (C:=Zof) mixed Ze ZxY (fn:=Tryz.f19) (c:=bd Tryz.f19) (by kernel_rfl) (by kernel_rfl) (by kernel_rfl) (by kernel_rfl) ?_
 intro args st k he
 unfold Zox at he
 split at he
 rotate_left
 ·exact he.elim
 rename_i a_0 a_1 left
 have he:Ok (ZkY (a_0,a_1) left) (fun r=>k (.c (.int .i64 r)) []):=he
 refine⟨rfl,rfl,?_⟩
 refine Zk he fun r1_ he=>?_
 refine Zh he (fun he=>?_) fun he=>?_
 ·have he:=Zb he
  exact⟨rfl,_,_,(Za [] (l:=[(4,.c (.int .i64 (-1:Int)))]) (st':=[]) rfl rfl trivial ⟨rfl,Y1⟩),he⟩
 ·refine Zk he fun r2_ he=>?_
  refine Zh he (fun he=>?_) fun he=>?_
  ·have he:=Zb he
   exact⟨rfl,_,_,(Za [] (l:=[(4,.c (.int .i64 (-1:Int)))]) (st':=[]) rfl rfl trivial ⟨rfl,Y1⟩),he⟩
  ·have he:=Zb he
   exact⟨rfl,_,_,(Za [] (l:=[(4,.c (.int .i64 r2_))]) (st':=[]) rfl rfl trivial ⟨rfl,Y1⟩),he⟩
def Zhe:Con:=fun args st=>match args,st with
  |[.c (.imm (.int .i64) a)],[]=>.opt ((List Int)) (Zdn a) (fun r=>.ret (.c (.own 900 false)) [(900,.sl 3 y0_ r .shallow)])
  |_,_=>.fail
def Zs4:Cfg:={ y:=tys,n:=22,h:=0,tab:=[],cut:=[],hand:=[],good:=[],deep:=[],sched:=[] }
theorem Ztk:Zs Tryz.prog Zs4:=Zn (fun p h=>by cases h)
theorem Zmn:Zq Tryz.prog 23 Zhe:=by
 refine Zm (C:=Zs4) mixed Ze Ztk (fn:=Tryz.f23) (c:=bd Tryz.f23) (by kernel_rfl) (by kernel_rfl) (by kernel_rfl) (by kernel_rfl) ?_
 intro args st k he
 unfold Zhe at he
 split at he
 rotate_left
 ·exact he.elim
 rename_i a
 have he:Ok (Zdn a) (fun r=>k (.c (.own 900 false)) [(900,.sl 3 y0_ r .shallow)]):=he
 refine⟨rfl,rfl,?_⟩
 refine Zc he fun he=>?_
 refine Zl mixed Ze Ztk (S:=Int×(List Int)) (I:=(fun (i,out)=>(Zo [(0,.c (.imm y0_ a)),(3,.c (.own 10000000 false)),(4,.c (.int .i64 i))],[(10000000,.sl 3 y0_ out .shallow)]))) (f:=Zlr a) (K:=(fun r=>k (.c (.own 900 false)) [(900,.sl 3 y0_ r .shallow)])) he (Za [(10000000,7)] rfl rfl Y3 ⟨.inl rfl,Y3,rfl,Y1⟩) ?_
 rintro⟨i,out⟩ J1 he
 refine Zh he (fun he=>?_) fun he=>?_
 ·refine Zc he fun he=>?_
  refine Zc he fun he=>?_
  refine Zc he fun he=>?_
  have he:=Zb he
  exact⟨((i+(1:Int)),(out.set i.toNat (a.getD i.toNat 0))),he,(Za [] rfl rfl Y3 ⟨.inl rfl,Y3,rfl,Y1⟩)⟩
 ·have he:=Zb he
  exact⟨rfl,_,_,(Za [(900,10000000)] (l:=[(2,.c (.own 900 false))]) (st':=[(900,.sl 3 y0_ out .shallow)]) rfl rfl Y3 ⟨Y3,Y1⟩),he⟩
def Zoz:Con:=fun args st=>match args,st with
  |[.c (.imm (.sl (.int .i64)) a)],[]=>.opt ((List (List Int))) (Zk0 a) (fun r=>.ret (.c (.own 900 false)) [(900,.sl 23 (.sl y0_) r (.deep true .no))])
  |_,_=>.fail
def Zoh:Cfg:={ y:=tys,n:=23,h:=0,tab:=[(23,Zhe)],cut:=[],hand:=[],good:=[],deep:=[7],sched:=[] }
theorem Zsb:Zs Tryz.prog Zoh:=by
  refine Zn ?_
  simp only[Zoh,List.forall_mem_cons]
  exact⟨Zmn,fun p h=>by cases h⟩
theorem Zxt:Zq Tryz.prog 206 Zoz:=by
 refine Zm (C:=Zoh) mixed Ze Zsb (fn:=Tryz.f206) (c:=bd Tryz.f206) (by kernel_rfl) (by kernel_rfl) (by kernel_rfl) (by kernel_rfl) ?_
 intro args st k he
 unfold Zoz at he
 split at he
 rotate_left
 ·exact he.elim
 rename_i a
 have he:Ok (Zk0 a) (fun r=>k (.c (.own 900 false)) [(900,.sl 23 (.sl y0_) r (.deep true .no))]):=he
 refine⟨rfl,rfl,?_⟩
 refine Zc he fun he=>?_
 refine Zl mixed Ze Zsb (S:=Int×(List (List Int))) (I:=(fun (i,out)=>(Zo [(0,.c (.imm (.sl y0_) a)),(3,.c (.own 10000000 false)),(4,.c (.int .i64 i))],[(10000000,.sl 23 (.sl y0_) out (.deep true .no))]))) (f:=Zkg a) (K:=(fun r=>k (.c (.own 900 false)) [(900,.sl 23 (.sl y0_) r (.deep true .no))])) he (Za [(10000000,7)] rfl rfl Y3 ⟨.inl rfl,Y3,rfl,Y1⟩) ?_
 rintro⟨i,out⟩ J1 he
 refine Zh he (fun he=>?_) fun he=>?_
 ·refine Zc he fun he=>?_
  refine Zk he fun r2_ he=>?_
  refine Zc he fun he=>?_
  refine Zc he fun he=>?_
  have he:=Zb he
  exact⟨((i+(1:Int)),(out.set i.toNat r2_)),he,(Za [] rfl rfl Y3 ⟨.inl rfl,Y3,rfl,Y1⟩)⟩
 ·have he:=Zb he
  exact⟨rfl,_,_,(Za [(900,10000000)] (l:=[(2,.c (.own 900 false))]) (st':=[(900,.sl 23 (.sl y0_) out (.deep true .no))]) rfl rfl Y3 ⟨Y3,Y1⟩),he⟩
def Zpx:Con:=fun args st=>match args,st with
  |[.agg [.int .i64 a_0,.imm (.int .i64) a_1,.imm (.int .i64) a_2,.int .i64 a_3,.imm (.sl (.int .i64)) a_4]],[]=>.opt (Int×Int×(List Int)×(List Int)×(List (List Int))) (Zl5 (a_0,(a_1,(a_2,(a_3,a_4))))) (fun r=>.ret (.agg [.int .i64 r.1,.own 901 false,.own 902 false,.int .i64 r.2.1,.own 903 false]) [(900,.rc [.int .i64 r.1,.own 901 false,.own 902 false,.int .i64 r.2.1,.own 903 false]),(901,.sl 3 y0_ r.2.2.1 .shallow),(902,.sl 3 y0_ r.2.2.2.1 .shallow),(903,.sl 23 (.sl y0_) r.2.2.2.2 (.deep true .no))])
  |_,_=>.fail
def Zpo:Cfg:={ y:=tys,n:=23,h:=0,tab:=[(23,Zhe),(206,Zoz)],cut:=[],hand:=[],good:=[],deep:=[],sched:=[] }
theorem ZyY:Zs Tryz.prog Zpo:=by
  refine Zn ?_
  simp only[Zpo,List.forall_mem_cons]
  exact⟨Zmn,Zxt,fun p h=>by cases h⟩
theorem ZyE:Zq Tryz.prog 147 Zpx:=by
 refine Zm (C:=Zpo) mixed Ze ZyY (fn:=Tryz.f147) (c:=bd Tryz.f147) (by kernel_rfl) (by kernel_rfl) (by kernel_rfl) (by kernel_rfl) ?_
 intro args st k he
 unfold Zpx at he
 split at he
 rotate_left
 ·exact he.elim
 rename_i a_0 a_1 a_2 a_3 a_4
 have he:Ok (Zl5 (a_0,(a_1,(a_2,(a_3,a_4))))) (fun r=>k (.agg [.int .i64 r.1,.own 901 false,.own 902 false,.int .i64 r.2.1,.own 903 false]) [(900,.rc [.int .i64 r.1,.own 901 false,.own 902 false,.int .i64 r.2.1,.own 903 false]),(901,.sl 3 y0_ r.2.2.1 .shallow),(902,.sl 3 y0_ r.2.2.2.1 .shallow),(903,.sl 23 (.sl y0_) r.2.2.2.2 (.deep true .no))]):=he
 refine⟨rfl,rfl,?_⟩
 refine Zk he fun r1_ he=>?_
 refine Zk he fun r2_ he=>?_
 refine Zk he fun r3_ he=>?_
 have he:=Zb he
 exact⟨rfl,_,_,(Za [(900,2),(901,10900),(902,14900),(903,21900)] (l:=[(2,.c (.ptr 900 0))]) (st':=[(900,.rc [.int .i64 (a_0,(a_1,(a_2,(a_3,a_4)))).1,.own 901 false,.own 902 false,.int .i64 (a_0,(a_1,(a_2,(a_3,a_4)))).2.2.2.1,.own 903 false]),(901,.sl 3 y0_ r1_ .shallow),(902,.sl 3 y0_ r2_ .shallow),(903,.sl 23 (.sl y0_) r3_ (.deep true .no))]) rfl rfl ⟨⟨rfl,Y3,Y3,rfl,Y3,Y1⟩,Y2,Y2,Y2,Y1⟩ ⟨⟨Y2,rfl⟩,Y1⟩),he⟩
def ZoB:Con:=fun args st=>match args,st with
  |[.c (.imm (.pair (.int .i64) (.pair (.sl (.int .i64)) (.pair (.sl (.int .i64)) (.pair (.int .i64) (.sl (.sl (.int .i64))))))) a)],[]=>.opt ((List D4_)) (Zk1 a) (fun r=>.ret (.c (.own 900 false)) [(900,.sl 145 y4_ r (.deep true .no))])
  |_,_=>.fail
def Zoj:Cfg:={ y:=tys,n:=23,h:=0,tab:=[(147,Zpx)],cut:=[],hand:=[],good:=[],deep:=[7],sched:=[] }
theorem Zsc:Zs Tryz.prog Zoj:=by
  refine Zn ?_
  simp only[Zoj,List.forall_mem_cons]
  exact⟨ZyE,fun p h=>by cases h⟩
theorem Zxv:Zq Tryz.prog 83 ZoB:=by
 refine Zm (C:=Zoj) mixed Ze Zsc (fn:=Tryz.f83) (c:=bd Tryz.f83) (by kernel_rfl) (by kernel_rfl) (by kernel_rfl) (by kernel_rfl) ?_
 intro args st k he
 unfold ZoB at he
 split at he
 rotate_left
 ·exact he.elim
 rename_i a
 have he:Ok (Zk1 a) (fun r=>k (.c (.own 900 false)) [(900,.sl 145 y4_ r (.deep true .no))]):=he
 refine⟨rfl,rfl,?_⟩
 refine Zc he fun he=>?_
 refine Zl mixed Ze Zsc (S:=Int×(List D4_)) (I:=(fun (i,out)=>(Zo [(0,.c (.imm y4_ a)),(3,.c (.own 10000000 false)),(4,.c (.int .i64 i))],[(10000000,.sl 145 y4_ out (.deep true .no))]))) (f:=Zkh a) (K:=(fun r=>k (.c (.own 900 false)) [(900,.sl 145 y4_ r (.deep true .no))])) he (Za [(10000000,7)] rfl rfl Y3 ⟨.inl rfl,Y3,rfl,Y1⟩) ?_
 rintro⟨i,out⟩ J1 he
 refine Zh he (fun he=>?_) fun he=>?_
 ·refine Zc he fun he=>?_
  refine Zk he fun r2_ he=>?_
  refine Zc he fun he=>?_
  refine Zc he fun he=>?_
  have he:=Zb he
  exact⟨((i+(1:Int)),(out.set i.toNat (r2_.1,(r2_.2.2.1,(r2_.2.2.2.1,(r2_.2.1,r2_.2.2.2.2)))))),he,(Za [] rfl rfl Y3 ⟨.inl rfl,Y3,rfl,Y1⟩)⟩
 ·have he:=Zb he
  exact⟨rfl,_,_,(Za [(900,10000000)] (l:=[(2,.c (.own 900 false))]) (st':=[(900,.sl 145 y4_ out (.deep true .no))]) rfl rfl Y3 ⟨Y3,Y1⟩),he⟩
def ZoA:Con:=fun args st=>match args,st with
  |[.agg [.imm (.int .i64) a_0,.imm (.pair (.int .i64) (.pair (.sl (.int .i64)) (.pair (.sl (.int .i64)) (.pair (.int .i64) (.sl (.sl (.int .i64))))))) a_1]],[]=>.opt ((List Int)×(List D4_)) (Zff (a_0,a_1)) (fun r=>.ret (.agg [.own 901 false,.own 902 false]) [(900,.rc [.own 901 false,.own 902 false]),(901,.sl 3 y0_ r.1 .shallow),(902,.sl 145 y4_ r.2 (.deep true .no))])
  |_,_=>.fail
def Zoi:Cfg:={ y:=tys,n:=13,h:=0,tab:=[(23,Zhe),(83,ZoB)],cut:=[],hand:=[],good:=[],deep:=[],sched:=[] }
theorem ZxZ:Zs Tryz.prog Zoi:=by
  refine Zn ?_
  simp only[Zoi,List.forall_mem_cons]
  exact⟨Zmn,Zxv,fun p h=>by cases h⟩
theorem Zxu:Zq Tryz.prog 22 ZoA:=by
 refine Zm (C:=Zoi) mixed Ze ZxZ (fn:=Tryz.f22) (c:=bd Tryz.f22) (by kernel_rfl) (by kernel_rfl) (by kernel_rfl) (by kernel_rfl) ?_
 intro args st k he
 unfold ZoA at he
 split at he
 rotate_left
 ·exact he.elim
 rename_i a_0 a_1
 have he:Ok (Zff (a_0,a_1)) (fun r=>k (.agg [.own 901 false,.own 902 false]) [(900,.rc [.own 901 false,.own 902 false]),(901,.sl 3 y0_ r.1 .shallow),(902,.sl 145 y4_ r.2 (.deep true .no))]):=he
 refine⟨rfl,rfl,?_⟩
 refine Zk he fun r1_ he=>?_
 refine Zk he fun r2_ he=>?_
 have he:=Zb he
 exact⟨rfl,_,_,(Za [(900,2),(901,7900),(902,11900)] (l:=[(2,.c (.ptr 900 0))]) (st':=[(900,.rc [.own 901 false,.own 902 false]),(901,.sl 3 y0_ r1_ .shallow),(902,.sl 145 y4_ r2_ (.deep true .no))]) rfl rfl ⟨⟨Y3,Y3,Y1⟩,Y2,Y2,Y1⟩ ⟨⟨Y2,rfl⟩,Y1⟩),he⟩
def ZpC:Con:=fun args st=>match args,st with
  |[.agg [.imm (.int .i64) m_0,.imm (.pair (.int .i64) (.pair (.sl (.int .i64)) (.pair (.sl (.int .i64)) (.pair (.int .i64) (.sl (.sl (.int .i64))))))) m_1],.c (.imm (.int .i64) list_)],[]=>.opt (Bool) (Zl9 (m_0,m_1) list_) (fun r=>.ret (.c (.bool r)) [])
  |_,_=>.fail
def Zs9:Cfg:={ y:=tys,n:=45,h:=0,tab:=[],cut:=[],hand:=[],good:=[],deep:=[],sched:=[] }
theorem ZpO:Zs Tryz.prog Zs9:=Zn (fun p h=>by cases h)
theorem ZyJ:Zq Tryz.prog 243 ZpC:=by
 refine Zm (C:=Zs9) mixed Ze ZpO (fn:=Tryz.f243) (c:=bd Tryz.f243) (by kernel_rfl) (by kernel_rfl) (by kernel_rfl) (by kernel_rfl) ?_
 intro args st k he
 unfold ZpC at he
 split at he
 rotate_left
 ·exact he.elim
 rename_i m_0 m_1 list_
 have he:Ok (Zl9 (m_0,m_1) list_) (fun r=>k (.c (.bool r)) []):=he
 refine⟨rfl,rfl,?_⟩
 refine Zl mixed Ze ZpO (S:=Int) (I:=(fun i=>(Zo [(1,.c (.imm y0_ list_)),(2,.c (.ptr 10000000 0)),(5,.c (.int .i64 i))],[(10000000,.rc [.imm y0_ (m_0,m_1).1,.imm y4_ (m_0,m_1).2])]))) (f:=Zlz (m_0,m_1) list_) (K:=(fun r=>k (.c (.bool r)) [])) he (Za [(10000000,2)] rfl rfl ⟨⟨.inl rfl,.inl rfl,Y1⟩,Y1⟩ ⟨.inl rfl,⟨Y2,rfl⟩,rfl,Y1⟩) ?_
 rintro i J1 he
 refine Zh he (fun he=>?_) fun he=>?_
 ·refine And.intro (by kernel_rfl) ?_
  refine Zc he fun he=>?_
  refine ZK he (fun he=>?_) fun he=>?_
  ·refine Zc he fun he=>?_
   refine Zh he (fun he=>?_) fun he=>?_
   ·have he:=Zb he
    exact⟨rfl,_,_,(Za [] (l:=[(4,.c (.bool false))]) (st':=[]) rfl rfl trivial ⟨.inr rfl,Y1⟩),he⟩
   ·refine Zl mixed Ze ZpO (S:=Int) (I:=(fun k_=>(Zo [(1,.c (.imm y0_ list_)),(2,.c (.ptr 10001000 0)),(5,.c (.int .i64 i)),(6,.c (.int .i64 k_))],[(10001000,.rc [.imm y0_ (m_0,m_1).1,.imm y4_ (m_0,m_1).2])]))) (f:=Zit list_ i) (K:=(LK J1 (fun r=>k (.c (.bool r)) []))) he (Za [(10001000,10000000)] rfl rfl ⟨⟨.inl rfl,.inl rfl,Y1⟩,Y1⟩ ⟨.inl rfl,⟨Y2,rfl⟩,rfl,rfl,Y1⟩) ?_
    rintro k_ J2 he
    refine Zh he (fun he=>?_) fun he=>?_
    ·refine And.intro (by kernel_rfl) ?_
     refine Zc he fun he=>?_
     refine Zc he fun he=>?_
     refine Zh he (fun he=>?_) fun he=>?_
     ·have he:=Zb he
      exact⟨rfl,_,_,(Za [] (l:=[(4,.c (.bool false))]) (st':=[]) rfl rfl trivial ⟨.inr rfl,Y1⟩),he⟩
     ·refine Zc he fun he=>?_
      have he:=Zb he
      exact⟨(k_+(1:Int)),he,(Za [] rfl rfl ⟨⟨.inl rfl,.inl rfl,Y1⟩,Y1⟩ ⟨.inl rfl,⟨Y2,rfl⟩,rfl,rfl,Y1⟩)⟩
    ·refine Zc he fun he=>?_
     have he:=Zb he
     exact⟨(i+(1:Int)),he,(Za [(10000000,10001000)] rfl rfl ⟨⟨.inl rfl,.inl rfl,Y1⟩,Y1⟩ ⟨.inl rfl,⟨Y2,rfl⟩,rfl,Y1⟩)⟩
  ·have he:=Zb he
   exact⟨rfl,_,_,(Za [] (l:=[(4,.c (.bool false))]) (st':=[]) rfl rfl trivial ⟨.inr rfl,Y1⟩),he⟩
 ·have he:=Zb he
  exact⟨rfl,_,_,(Za [] (l:=[(4,.c (.bool (decide ((1:Int)≤(list_.length:Int)))))]) (st':=[]) rfl rfl trivial ⟨.inl rfl,Y1⟩),he⟩
def Znt:Con:=fun args st=>match args,st with
  |[.agg [.int .i64 r__0,.imm (.int .i64) r__1,.imm (.int .i64) r__2,.int .i64 r__3,.imm (.sl (.int .i64)) r__4]],[]=>.opt (Bool) (Zjq (r__0,(r__1,(r__2,(r__3,r__4))))) (fun r=>.ret (.c (.bool r)) [])
  |_,_=>.fail
def ZqW:Cfg:={ y:=tys,n:=50,h:=0,tab:=[],cut:=[],hand:=[],good:=[],deep:=[],sched:=[] }
theorem Zrp:Zs Tryz.prog ZqW:=Zn (fun p h=>by cases h)
theorem Zwx:Zq Tryz.prog 244 Znt:=by
 refine Zm (C:=ZqW) mixed Ze Zrp (fn:=Tryz.f244) (c:=bd Tryz.f244) (by kernel_rfl) (by kernel_rfl) (by kernel_rfl) (by kernel_rfl) ?_
 intro args st k he
 unfold Znt at he
 split at he
 rotate_left
 ·exact he.elim
 rename_i r__0 r__1 r__2 r__3 r__4
 have he:Ok (Zjq (r__0,(r__1,(r__2,(r__3,r__4))))) (fun r=>k (.c (.bool r)) []):=he
 refine⟨rfl,rfl,?_⟩
 refine Zl mixed Ze Zrp (S:=Int) (I:=(fun i=>(Zo [(1,.c (.ptr 10000000 0)),(3,.c (.int .i64 i))],[(10000000,.rc [.int .i64 (r__0,(r__1,(r__2,(r__3,r__4)))).1,.imm y0_ (r__0,(r__1,(r__2,(r__3,r__4)))).2.1,.imm y0_ (r__0,(r__1,(r__2,(r__3,r__4)))).2.2.1,.int .i64 (r__0,(r__1,(r__2,(r__3,r__4)))).2.2.2.1,.imm (.sl y0_) (r__0,(r__1,(r__2,(r__3,r__4)))).2.2.2.2])]))) (f:=Zi9 (r__0,(r__1,(r__2,(r__3,r__4))))) (K:=(fun r=>k (.c (.bool r)) [])) he (Za [(10000000,1)] rfl rfl ⟨⟨rfl,.inl rfl,.inl rfl,rfl,.inl rfl,Y1⟩,Y1⟩ ⟨⟨Y2,rfl⟩,rfl,Y1⟩) ?_
 rintro i J1 he
 refine Zh he (fun he=>?_) fun he=>?_
 ·refine Zc he fun he=>?_
  refine ZK he (fun he=>?_) fun he=>?_
  ·refine Zc he fun he=>?_
   refine ZK he (fun he=>?_) fun he=>?_
   ·refine Zc he fun he=>?_
    refine Zh he (fun he=>?_) fun he=>?_
    ·have he:=Zb he
     exact⟨rfl,_,_,(Za [] (l:=[(2,.c (.bool false))]) (st':=[]) rfl rfl trivial ⟨.inr rfl,Y1⟩),he⟩
    ·refine Zc he fun he=>?_
     have he:=Zb he
     exact⟨(i+(1:Int)),he,(Za [] rfl rfl ⟨⟨rfl,.inl rfl,.inl rfl,rfl,.inl rfl,Y1⟩,Y1⟩ ⟨⟨Y2,rfl⟩,rfl,Y1⟩)⟩
   ·have he:=Zb he
    exact⟨rfl,_,_,(Za [] (l:=[(2,.c (.bool false))]) (st':=[]) rfl rfl trivial ⟨.inr rfl,Y1⟩),he⟩
  ·have he:=Zb he
   exact⟨rfl,_,_,(Za [] (l:=[(2,.c (.bool false))]) (st':=[]) rfl rfl trivial ⟨.inr rfl,Y1⟩),he⟩
 ·refine Zh he (fun he=>?_) fun he=>?_
  ·refine Zh he (fun he=>?_) fun he=>?_
   ·have he:=Zb he
    exact⟨rfl,_,_,(Za [] (l:=[(2,.c (.bool (decide ((r__0,(r__1,(r__2,(r__3,r__4)))).2.2.2.1≤(1000:Int)))))]) (st':=[]) rfl rfl trivial ⟨.inl rfl,Y1⟩),he⟩
   ·have he:=Zb he
    exact⟨rfl,_,_,(Za [] (l:=[(2,.c (.bool false))]) (st':=[]) rfl rfl trivial ⟨.inr rfl,Y1⟩),he⟩
  ·have he:=Zb he
   exact⟨rfl,_,_,(Za [] (l:=[(2,.c (.bool false))]) (st':=[]) rfl rfl trivial ⟨.inr rfl,Y1⟩),he⟩
def ZoD:Con:=fun args st=>match args,st with
  |[.agg [.int .i64 r__0,.imm (.int .i64) r__1,.imm (.int .i64) r__2,.int .i64 r__3,.imm (.sl (.int .i64)) r__4]],[]=>.opt (Bool) (Zla (r__0,(r__1,(r__2,(r__3,r__4))))) (fun r=>.ret (.c (.bool r)) [])
  |_,_=>.fail
def ZrG:Cfg:={ y:=tys,n:=56,h:=0,tab:=[],cut:=[],hand:=[],good:=[],deep:=[],sched:=[] }
theorem ZoQ:Zs Tryz.prog ZrG:=Zn (fun p h=>by cases h)
theorem Zxx:Zq Tryz.prog 245 ZoD:=by
 refine Zm (C:=ZrG) mixed Ze ZoQ (fn:=Tryz.f245) (c:=bd Tryz.f245) (by kernel_rfl) (by kernel_rfl) (by kernel_rfl) (by kernel_rfl) ?_
 intro args st k he
 unfold ZoD at he
 split at he
 rotate_left
 ·exact he.elim
 rename_i r__0 r__1 r__2 r__3 r__4
 have he:Ok (Zla (r__0,(r__1,(r__2,(r__3,r__4))))) (fun r=>k (.c (.bool r)) []):=he
 refine⟨rfl,rfl,?_⟩
 refine Zl mixed Ze ZoQ (S:=Int) (I:=(fun i=>(Zo [(1,.c (.ptr 10000000 0)),(3,.c (.int .i64 i))],[(10000000,.rc [.int .i64 (r__0,(r__1,(r__2,(r__3,r__4)))).1,.imm y0_ (r__0,(r__1,(r__2,(r__3,r__4)))).2.1,.imm y0_ (r__0,(r__1,(r__2,(r__3,r__4)))).2.2.1,.int .i64 (r__0,(r__1,(r__2,(r__3,r__4)))).2.2.2.1,.imm (.sl y0_) (r__0,(r__1,(r__2,(r__3,r__4)))).2.2.2.2])]))) (f:=Zko (r__0,(r__1,(r__2,(r__3,r__4))))) (K:=(fun r=>k (.c (.bool r)) [])) he (Za [(10000000,1)] rfl rfl ⟨⟨rfl,.inl rfl,.inl rfl,rfl,.inl rfl,Y1⟩,Y1⟩ ⟨⟨Y2,rfl⟩,rfl,Y1⟩) ?_
 rintro i J1 he
 refine Zh he (fun he=>?_) fun he=>?_
 ·refine And.intro (by kernel_rfl) ?_
  refine Zc he fun he=>?_
  refine Zh he (fun he=>?_) fun he=>?_
  ·have he:=Zb he
   exact⟨rfl,_,_,(Za [] (l:=[(2,.c (.bool false))]) (st':=[]) rfl rfl trivial ⟨.inr rfl,Y1⟩),he⟩
  ·refine Zl mixed Ze ZoQ (S:=Int) (I:=(fun k_=>(Zo [(1,.c (.ptr 10001000 0)),(3,.c (.int .i64 i)),(4,.c (.int .i64 k_))],[(10001000,.rc [.int .i64 (r__0,(r__1,(r__2,(r__3,r__4)))).1,.imm y0_ (r__0,(r__1,(r__2,(r__3,r__4)))).2.1,.imm y0_ (r__0,(r__1,(r__2,(r__3,r__4)))).2.2.1,.int .i64 (r__0,(r__1,(r__2,(r__3,r__4)))).2.2.2.1,.imm (.sl y0_) (r__0,(r__1,(r__2,(r__3,r__4)))).2.2.2.2])]))) (f:=ZhH (r__0,(r__1,(r__2,(r__3,r__4)))) i) (K:=(LK J1 (fun r=>k (.c (.bool r)) []))) he (Za [(10001000,10000000)] rfl rfl ⟨⟨rfl,.inl rfl,.inl rfl,rfl,.inl rfl,Y1⟩,Y1⟩ ⟨⟨Y2,rfl⟩,rfl,rfl,Y1⟩) ?_
   rintro k_ J2 he
   refine Zc he fun he=>?_
   refine Zh he (fun he=>?_) fun he=>?_
   ·refine Zc he fun he=>?_
    refine Zc he fun he=>?_
    refine ZK he (fun he=>?_) fun he=>?_
    ·refine Zc he fun he=>?_
     refine Zc he fun he=>?_
     refine Zh he (fun he=>?_) fun he=>?_
     ·have he:=Zb he
      exact⟨rfl,_,_,(Za [] (l:=[(2,.c (.bool false))]) (st':=[]) rfl rfl trivial ⟨.inr rfl,Y1⟩),he⟩
     ·refine Zc he fun he=>?_
      have he:=Zb he
      exact⟨(k_+(1:Int)),he,(Za [] rfl rfl ⟨⟨rfl,.inl rfl,.inl rfl,rfl,.inl rfl,Y1⟩,Y1⟩ ⟨⟨Y2,rfl⟩,rfl,rfl,Y1⟩)⟩
    ·have he:=Zb he
     exact⟨rfl,_,_,(Za [] (l:=[(2,.c (.bool false))]) (st':=[]) rfl rfl trivial ⟨.inr rfl,Y1⟩),he⟩
   ·refine Zc he fun he=>?_
    have he:=Zb he
    exact⟨(i+(1:Int)),he,(Za [(10000000,10001000)] rfl rfl ⟨⟨rfl,.inl rfl,.inl rfl,rfl,.inl rfl,Y1⟩,Y1⟩ ⟨⟨Y2,rfl⟩,rfl,Y1⟩)⟩
 ·have he:=Zb he
  exact⟨rfl,_,_,(Za [] (l:=[(2,.c (.bool (decide (((r__0,(r__1,(r__2,(r__3,r__4)))).2.2.2.2.length:Int)≤(8:Int)))))]) (st':=[]) rfl rfl trivial ⟨.inl rfl,Y1⟩),he⟩
def ZpB:Con:=fun args st=>match args,st with
  |[.agg [.imm (.int .i64) m_0,.imm (.pair (.int .i64) (.pair (.sl (.int .i64)) (.pair (.sl (.int .i64)) (.pair (.int .i64) (.sl (.sl (.int .i64))))))) m_1],.agg [.int .i64 r__0,.imm (.int .i64) r__1,.imm (.int .i64) r__2,.int .i64 r__3,.imm (.sl (.int .i64)) r__4]],[]=>.opt (Bool) (Zl8 (m_0,m_1) (r__0,(r__1,(r__2,(r__3,r__4))))) (fun r=>.ret (.c (.bool r)) [])
  |_,_=>.fail
def Zpp:Cfg:={ y:=tys,n:=55,h:=0,tab:=[(243,ZpC),(244,Znt),(245,ZoD)],cut:=[3],hand:=[],good:=[],deep:=[],sched:=[] }
theorem Zto:Zs Tryz.prog Zpp:=by
  refine Zn ?_
  simp only[Zpp,List.forall_mem_cons]
  exact⟨ZyJ,Zwx,Zxx,fun p h=>by cases h⟩
theorem ZyI:Zq Tryz.prog 188 ZpB:=by
 refine Zm (C:=Zpp) mixed Ze Zto (fn:=Tryz.f188) (c:=bd Tryz.f188) (by kernel_rfl) (by kernel_rfl) (by kernel_rfl) (by kernel_rfl) ?_
 intro args st k he
 unfold ZpB at he
 split at he
 rotate_left
 ·exact he.elim
 rename_i m_0 m_1 r__0 r__1 r__2 r__3 r__4
 have he:Ok (Zl8 (m_0,m_1) (r__0,(r__1,(r__2,(r__3,r__4))))) (fun r=>k (.c (.bool r)) []):=he
 refine⟨rfl,rfl,?_⟩
 refine Zt mixed Ze Zto (S:=Unit) (I:=(fun _=>(Zo [(3,.c (.ptr 10000000 0))],[(10000000,.rc [.int .i64 (r__0,(r__1,(r__2,(r__3,r__4)))).1,.imm y0_ (r__0,(r__1,(r__2,(r__3,r__4)))).2.1,.imm y0_ (r__0,(r__1,(r__2,(r__3,r__4)))).2.2.1,.int .i64 (r__0,(r__1,(r__2,(r__3,r__4)))).2.2.2.1,.imm (.sl y0_) (r__0,(r__1,(r__2,(r__3,r__4)))).2.2.2.2])]))) (B:=fun s=>Ok (ZeV (r__0,(r__1,(r__2,(r__3,r__4)))) s) (fun r=>k (.c (.bool r)) [])) ?_ ?_
 ·rintro⟨⟩ he
  refine Zh he (fun he=>?_) fun he=>?_
  ·refine Zk he fun r2_ he=>?_
   have he:=Zb he
   exact⟨rfl,_,_,(Za [] (l:=[(4,.c (.bool r2_))]) (st':=[]) rfl rfl trivial ⟨.inl rfl,Y1⟩),he⟩
  ·refine Zh he (fun he=>?_) fun he=>?_
   ·have he:=Zb he
    exact⟨rfl,_,_,(Za [] (l:=[(4,.c (.bool true))]) (st':=[]) rfl rfl trivial ⟨.inr rfl,Y1⟩),he⟩
   ·refine Zh he (fun he=>?_) fun he=>?_
    ·refine Zk he fun r3_ he=>?_
     have he:=Zb he
     exact⟨rfl,_,_,(Za [] (l:=[(4,.c (.bool r3_))]) (st':=[]) rfl rfl trivial ⟨.inl rfl,Y1⟩),he⟩
    ·refine Zh he (fun he=>?_) fun he=>?_
     ·have he:=Zb he
      exact⟨rfl,_,_,(Za [] (l:=[(4,.c (.bool (((r__0,(r__1,(r__2,(r__3,r__4)))).2.1.length:Int)==(2:Int))))]) (st':=[]) rfl rfl trivial ⟨.inl rfl,Y1⟩),he⟩
     ·have he:=Zb he
      exact⟨rfl,_,_,(Za [] (l:=[(4,.c (.bool false))]) (st':=[]) rfl rfl trivial ⟨.inr rfl,Y1⟩),he⟩
 ·skip
  refine Zk he fun r1_ he=>?_
  refine ZK he (fun he=>?_) fun he=>?_
  ·refine Zh he (fun he=>?_) fun he=>?_
   ·refine ZK he (fun he=>?_) fun he=>?_
    ·refine ZK he (fun he=>?_) fun he=>?_
     ·refine Zh he (fun he=>?_) fun he=>?_
      ·refine Zh he (fun he=>?_) fun he=>?_
       ·have he:=Zb he
        exact⟨rfl,_,_,(Za [] (l:=[(4,.c (.bool false))]) (st':=[]) rfl rfl trivial ⟨.inr rfl,Y1⟩),he⟩
       ·exact⟨(),he,(Za [(10000000,3)] rfl rfl ⟨⟨rfl,.inl rfl,.inl rfl,rfl,.inl rfl,Y1⟩,Y1⟩ ⟨⟨Y2,rfl⟩,Y1⟩)⟩
      ·exact⟨(),he,(Za [(10000000,3)] rfl rfl ⟨⟨rfl,.inl rfl,.inl rfl,rfl,.inl rfl,Y1⟩,Y1⟩ ⟨⟨Y2,rfl⟩,Y1⟩)⟩
     ·have he:=Zb he
      exact⟨rfl,_,_,(Za [] (l:=[(4,.c (.bool false))]) (st':=[]) rfl rfl trivial ⟨.inr rfl,Y1⟩),he⟩
    ·have he:=Zb he
     exact⟨rfl,_,_,(Za [] (l:=[(4,.c (.bool false))]) (st':=[]) rfl rfl trivial ⟨.inr rfl,Y1⟩),he⟩
   ·refine Zh he (fun he=>?_) fun he=>?_
    ·refine Zh he (fun he=>?_) fun he=>?_
     ·have he:=Zb he
      exact⟨rfl,_,_,(Za [] (l:=[(4,.c (.bool false))]) (st':=[]) rfl rfl trivial ⟨.inr rfl,Y1⟩),he⟩
     ·exact⟨(),he,(Za [(10000000,3)] rfl rfl ⟨⟨rfl,.inl rfl,.inl rfl,rfl,.inl rfl,Y1⟩,Y1⟩ ⟨⟨Y2,rfl⟩,Y1⟩)⟩
    ·exact⟨(),he,(Za [(10000000,3)] rfl rfl ⟨⟨rfl,.inl rfl,.inl rfl,rfl,.inl rfl,Y1⟩,Y1⟩ ⟨⟨Y2,rfl⟩,Y1⟩)⟩
  ·have he:=Zb he
   exact⟨rfl,_,_,(Za [] (l:=[(4,.c (.bool false))]) (st':=[]) rfl rfl trivial ⟨.inr rfl,Y1⟩),he⟩
def ZfE:Con:=fun args st=>match args,st with
  |[.agg [.imm (.int .i64) a0_0,.imm (.pair (.int .i64) (.pair (.sl (.int .i64)) (.pair (.sl (.int .i64)) (.pair (.int .i64) (.sl (.sl (.int .i64))))))) a0_1]],[]=>.opt (Bool) (Zel (a0_0,a0_1)) (fun r=>.ret (.c (.bool r)) [])
  |_,_=>.fail
def ZlJ:Cfg:={ y:=tys,n:=74,h:=0,tab:=[(188,ZpB)],cut:=[8],hand:=[],good:=[],deep:=[],sched:=[(13,(.first 1 (.first 3 (.alt 0 (.alt 2 (.first 4 (.first 5 (.alt 6 (.first 7 .done) .stop))) .stop) (.alt 2 (.first 4 (.first 5 (.alt 0 (.alt 6 (.first 7 .done) .stop) .stop))) .stop)))))] }
theorem Zh4:Zs Tryz.prog ZlJ:=by
  refine Zn ?_
  simp only[ZlJ,List.forall_mem_cons]
  exact⟨ZyI,fun p h=>by cases h⟩
theorem ZlP:Zq Tryz.prog 130 ZfE:=by
 refine Zm (C:=ZlJ) mixed Ze Zh4 (fn:=Tryz.f130) (c:=bd Tryz.f130) (by kernel_rfl) (by kernel_rfl) (by kernel_rfl) (by kernel_rfl) ?_
 intro args st k he
 unfold ZfE at he
 split at he
 rotate_left
 ·exact he.elim
 rename_i a0_0 a0_1
 have he:Ok (Zel (a0_0,a0_1)) (fun r=>k (.c (.bool r)) []):=he
 refine⟨rfl,rfl,?_⟩
 refine Zt mixed Ze Zh4 (S:=Int) (I:=(fun i2=>(Zo [(1,.c (.ptr 10001000 0)),(3,.c (.int .i64 i2))],[(10001000,.rc [.imm y0_ (a0_0,a0_1).1,.imm y4_ (a0_0,a0_1).2])]))) (B:=fun s=>Ok (Zfk (a0_0,a0_1) s) (fun r=>k (.c (.bool r)) [])) ?_ ?_
 ·rintro i2 he
  refine ZK he (fun he=>?_) fun he=>?_
  ·refine ZK he (fun he=>?_) fun he=>?_
   ·refine ZK he (fun he=>?_) fun he=>?_
    ·refine Zh he (fun he=>?_) fun he=>?_
     ·have he:=Zb he
      exact⟨rfl,_,_,(Za [] (l:=[(2,.c (.bool false))]) (st':=[]) rfl rfl trivial ⟨.inr rfl,Y1⟩),he⟩
     ·refine Zl mixed Ze Zh4 (S:=Int) (I:=(fun i3=>(Zo [(1,.c (.ptr 10002000 0)),(5,.c (.int .i64 i3))],[(10002000,.rc [.imm y0_ (a0_0,a0_1).1,.imm y4_ (a0_0,a0_1).2])]))) (f:=ZhE (a0_0,a0_1)) (K:=(fun r=>k (.c (.bool r)) [])) he (Za [(10002000,10001000)] rfl rfl ⟨⟨.inl rfl,.inl rfl,Y1⟩,Y1⟩ ⟨⟨Y2,rfl⟩,rfl,Y1⟩) ?_
      rintro i3 J1 he
      refine Zh he (fun he=>?_) fun he=>?_
      ·refine And.intro (by kernel_rfl) ?_
       have he:=ZU he
       have hq1:=he.1
       have he:=he.2
       obtain⟨r2_,hq2,he⟩:=Zb1 he
       refine Y5 ?_ ?_
       ·skip
        refine Y4 ?_
        refine And.intro hq1 ?_
        refine Y4 ?_
        refine⟨r2_,hq2,?_⟩
        refine Zh he (fun he=>?_) fun he=>?_
        ·have he:=Zb he
         exact⟨rfl,_,_,(Za [] (l:=[(2,.c (.bool false))]) (st':=[]) rfl rfl trivial ⟨.inr rfl,Y1⟩),he⟩
        ·refine Zc he fun he=>?_
         have he:=Zb he
         exact⟨(i3+(1:Int)),he,(Za [] rfl rfl ⟨⟨.inl rfl,.inl rfl,Y1⟩,Y1⟩ ⟨⟨Y2,rfl⟩,rfl,Y1⟩)⟩
       ·skip
        refine And.intro hq1 ?_
        refine Y4 ?_
        refine Y4 ?_
        refine⟨r2_,hq2,?_⟩
        refine Zh he (fun he=>?_) fun he=>?_
        ·have he:=Zb he
         exact⟨rfl,_,_,(Za [] (l:=[(2,.c (.bool false))]) (st':=[]) rfl rfl trivial ⟨.inr rfl,Y1⟩),he⟩
        ·refine Zc he fun he=>?_
         have he:=Zb he
         exact⟨(i3+(1:Int)),he,(Za [] rfl rfl ⟨⟨.inl rfl,.inl rfl,Y1⟩,Y1⟩ ⟨⟨Y2,rfl⟩,rfl,Y1⟩)⟩
      ·have he:=Zb he
       exact⟨rfl,_,_,(Za [] (l:=[(2,.c (.bool true))]) (st':=[]) rfl rfl trivial ⟨.inr rfl,Y1⟩),he⟩
    ·have he:=Zb he
     exact⟨rfl,_,_,(Za [] (l:=[(2,.c (.bool false))]) (st':=[]) rfl rfl trivial ⟨.inr rfl,Y1⟩),he⟩
   ·have he:=Zb he
    exact⟨rfl,_,_,(Za [] (l:=[(2,.c (.bool false))]) (st':=[]) rfl rfl trivial ⟨.inr rfl,Y1⟩),he⟩
  ·have he:=Zb he
   exact⟨rfl,_,_,(Za [] (l:=[(2,.c (.bool false))]) (st':=[]) rfl rfl trivial ⟨.inr rfl,Y1⟩),he⟩
 ·skip
  refine Zl mixed Ze Zh4 (S:=Int×Int) (I:=(fun (i,i1)=>(Zo [(1,.c (.ptr 10000000 0)),(3,.c (.int .i64 i)),(4,.c (.int .i64 i1))],[(10000000,.rc [.imm y0_ (a0_0,a0_1).1,.imm y4_ (a0_0,a0_1).2])]))) (f:=Zk8 (a0_0,a0_1)) (K:=(fun r=>k (.c (.bool r)) [])) he (Za [(10000000,1)] rfl rfl ⟨⟨.inl rfl,.inl rfl,Y1⟩,Y1⟩ ⟨⟨Y2,rfl⟩,rfl,rfl,Y1⟩) ?_
  rintro⟨i,i1⟩ J1 he
  refine Zh he (fun he=>?_) fun he=>?_
  ·refine Zh he (fun he=>?_) fun he=>?_
   ·refine Zc he fun he=>?_
    refine ZK he (fun he=>?_) fun he=>?_
    ·refine Zc he fun he=>?_
     refine Zh he (fun he=>?_) fun he=>?_
     ·have he:=Zb he
      exact⟨rfl,_,_,(Za [] (l:=[(2,.c (.bool false))]) (st':=[]) rfl rfl trivial ⟨.inr rfl,Y1⟩),he⟩
     ·refine Zc he fun he=>?_
      refine Zc he fun he=>?_
      refine Zc he fun he=>?_
      refine Zc he fun he=>?_
      have he:=Zb he
      exact⟨(((i+((a0_0,a0_1).1.getD i1.toNat 0))+(1:Int)),(i1+(1:Int))),he,(Za [] rfl rfl ⟨⟨.inl rfl,.inl rfl,Y1⟩,Y1⟩ ⟨⟨Y2,rfl⟩,rfl,rfl,Y1⟩)⟩
    ·have he:=Zb he
     exact⟨rfl,_,_,(Za [] (l:=[(2,.c (.bool false))]) (st':=[]) rfl rfl trivial ⟨.inr rfl,Y1⟩),he⟩
   ·exact⟨i,ZbH he,(Za [(10001000,10000000)] rfl rfl ⟨⟨.inl rfl,.inl rfl,Y1⟩,Y1⟩ ⟨⟨Y2,rfl⟩,rfl,Y1⟩)⟩
  ·exact⟨i,ZbH he,(Za [(10001000,10000000)] rfl rfl ⟨⟨.inl rfl,.inl rfl,Y1⟩,Y1⟩ ⟨⟨Y2,rfl⟩,rfl,Y1⟩)⟩
def Ze7:Con:=fun args st=>match args,st with
  |[.agg [.imm (.int .i64) m_0,.imm (.pair (.int .i64) (.pair (.sl (.int .i64)) (.pair (.sl (.int .i64)) (.pair (.int .i64) (.sl (.sl (.int .i64))))))) m_1],.c (.int .i64 cell),.c (.int .i64 value)],[]=>.opt (Int) (Ze0 (m_0,m_1) cell value) (fun r=>.ret (.c (.int .i64 r)) [])
  |_,_=>.fail
def ZtO:Cfg:={ y:=tys,n:=25,h:=0,tab:=[],cut:=[],hand:=[],good:=[],deep:=[],sched:=[] }
theorem ZuQ:Zs Tryz.prog ZtO:=Zn (fun p h=>by cases h)
theorem Zij:Zq Tryz.prog 133 Ze7:=by
 refine Zm (C:=ZtO) mixed Ze ZuQ (fn:=Tryz.f133) (c:=bd Tryz.f133) (by kernel_rfl) (by kernel_rfl) (by kernel_rfl) (by kernel_rfl) ?_
 intro args st k he
 unfold Ze7 at he
 split at he
 rotate_left
 ·exact he.elim
 rename_i m_0 m_1 cell value
 have he:Ok (Ze0 (m_0,m_1) cell value) (fun r=>k (.c (.int .i64 r)) []):=he
 refine⟨rfl,rfl,?_⟩
 refine Zc he fun he=>?_
 refine Zl mixed Ze ZuQ (S:=Int×Int) (I:=(fun (n,i)=>(Zo [(1,.c (.int .i64 cell)),(3,.c (.ptr 10000000 0)),(7,.c (.int .i64 n)),(8,.c (.int .i64 i))],[(10000000,.rc [.imm y0_ (m_0,m_1).1,.imm y4_ (m_0,m_1).2])]))) (f:=ZpL (m_0,m_1) cell) (K:=(fun r=>k (.c (.int .i64 r)) [])) he (Za [(10000000,3)] rfl rfl ⟨⟨.inl rfl,.inl rfl,Y1⟩,Y1⟩ ⟨rfl,⟨Y2,rfl⟩,rfl,rfl,Y1⟩) ?_
 rintro⟨n,i⟩ J1 he
 refine Zh he (fun he=>?_) fun he=>?_
 ·refine Zc he fun he=>?_
  refine Zc he fun he=>?_
  refine Zc he fun he=>?_
  refine Zc he fun he=>?_
  have he:=Zb he
  exact⟨(((n+((m_0,m_1).1.getD i.toNat 0))+(1:Int)),(i+(1:Int))),he,(Za [] rfl rfl ⟨⟨.inl rfl,.inl rfl,Y1⟩,Y1⟩ ⟨rfl,⟨Y2,rfl⟩,rfl,rfl,Y1⟩)⟩
 ·have he:=Zb he
  exact⟨rfl,_,_,(Za [] (l:=[(6,.c (.int .i64 n))]) (st':=[]) rfl rfl trivial ⟨rfl,Y1⟩),he⟩
def Zns:Con:=fun args st=>match args,st with
  |[.c (.int .i64 n)],[]=>.opt (Bool) (Zlw n) (fun r=>.ret (.c (.bool r)) [])
  |_,_=>.fail
def ZtN:Cfg:={ y:=tys,n:=13,h:=0,tab:=[],cut:=[],hand:=[],good:=[],deep:=[],sched:=[] }
theorem ZAH:Zs Tryz.prog ZtN:=Zn (fun p h=>by cases h)
theorem Zud:Zq Tryz.prog 228 Zns:=by
 refine Zm (C:=ZtN) mixed Ze ZAH (fn:=Tryz.f228) (c:=bd Tryz.f228) (by kernel_rfl) (by kernel_rfl) (by kernel_rfl) (by kernel_rfl) ?_
 intro args st k he
 unfold Zns at he
 split at he
 rotate_left
 ·exact he.elim
 rename_i n
 have he:Ok (Zlw n) (fun r=>k (.c (.bool r)) []):=he
 refine⟨rfl,rfl,?_⟩
 refine Zh he (fun he=>?_) fun he=>?_
 ·refine Zh he (fun he=>?_) fun he=>?_
  ·have he:=Zb he
   exact⟨rfl,_,_,Leads.refl _ _,he⟩
  ·have he:=Zb he
   exact⟨rfl,_,_,Leads.refl _ _,he⟩
 ·have he:=Zb he
  exact⟨rfl,_,_,Leads.refl _ _,he⟩
def Znr:Con:=fun args st=>match args,st with
  |[.c (.int .i64 n)],[]=>.opt (Int) (Zi5 n) (fun r=>.ret (.c (.int .i64 r)) [])
  |_,_=>.fail
def ZtM:Cfg:={ y:=tys,n:=8,h:=0,tab:=[],cut:=[],hand:=[],good:=[],deep:=[],sched:=[] }
theorem ZAG:Zs Tryz.prog ZtM:=Zn (fun p h=>by cases h)
theorem Zuc:Zq Tryz.prog 229 Znr:=by
 refine Zm (C:=ZtM) mixed Ze ZAG (fn:=Tryz.f229) (c:=bd Tryz.f229) (by kernel_rfl) (by kernel_rfl) (by kernel_rfl) (by kernel_rfl) ?_
 intro args st k he
 unfold Znr at he
 split at he
 rotate_left
 ·exact he.elim
 rename_i n
 have he:Ok (Zi5 n) (fun r=>k (.c (.int .i64 r)) []):=he
 refine⟨rfl,rfl,?_⟩
 refine Zh he (fun he=>?_) fun he=>?_
 ·refine Zc he fun he=>?_
  have he:=Zb he
  exact⟨rfl,_,_,Leads.refl _ _,he⟩
 ·have he:=Zb he
  exact⟨rfl,_,_,Leads.refl _ _,he⟩
def Zhq:Con:=fun args st=>match args,st with
  |[.c (.imm (.int .i64) a0)],[]=>.opt (Bool×Int×(List D5_)) (ZfB a0) (fun r=>.ret (.tup [.agg [.own 901 false,.int .i64 r.2.1],.c (.bool r.1)]) [(900,.rc [.own 901 false,.int .i64 r.2.1]),(901,.sl 155 y5_ r.2.2 .shallow)])
  |_,_=>.fail
def Zng:Cfg:={ y:=tys,n:=71,h:=0,tab:=[(228,Zns),(229,Znr)],cut:=[13],hand:=[],good:=[],deep:=[],sched:=[(18,(.first 0 (.first 2 (.first 3 (.first 4 (.alt 1 (.alt 5 (.alt 6 (.alt 7 (.alt 8 (.first 9 (.alt 10 .done .stop)) .stop) .stop) .stop) .stop) (.alt 5 (.alt 1 (.alt 6 (.alt 7 (.alt 8 (.first 9 (.alt 10 .done .stop)) .stop) .stop) .stop) (.alt 6 (.alt 1 (.alt 7 (.alt 8 (.first 9 (.alt 10 .done .stop)) .stop) .stop) (.alt 7 (.alt 1 (.alt 8 (.first 9 (.alt 10 .done .stop)) .stop) .stop) .stop)) .stop)) .stop)))))))] }
theorem Zkr:Zs Tryz.prog Zng:=by
  refine Zn ?_
  simp only[Zng,List.forall_mem_cons]
  exact⟨Zud,Zuc,fun p h=>by cases h⟩
theorem ZnG:Zq Tryz.prog 189 Zhq:=by
 refine Zm (C:=Zng) mixed Ze Zkr (fn:=Tryz.f189) (c:=bd Tryz.f189) (by kernel_rfl) (by kernel_rfl) (by kernel_rfl) (by kernel_rfl) ?_
 intro args st k he
 unfold Zhq at he
 split at he
 rotate_left
 ·exact he.elim
 rename_i a0
 have he:Ok (ZfB a0) (fun r=>k (.tup [.agg [.own 901 false,.int .i64 r.2.1],.c (.bool r.1)]) [(900,.rc [.own 901 false,.int .i64 r.2.1]),(901,.sl 155 y5_ r.2.2 .shallow)]):=he
 refine⟨rfl,rfl,?_⟩
 refine Zc he fun he=>?_
 refine Zh he (fun he=>?_) fun he=>?_
 ·have he:=Zb he
  exact⟨rfl,_,_,(Za [(900,2)] (l:=[(2,.c (.ptr 900 0)),(3,.c (.bool false))]) (st':=[(900,.rc [.own 901 false,.int .i64 (0:Int)]),(901,.sl 155 y5_ ([]:List D5_) .shallow)]) rfl rfl ⟨⟨⟨rfl,Y1⟩,rfl,Y1⟩,Y1,Y1⟩ ⟨⟨Y2,rfl⟩,.inr rfl,Y1⟩),he⟩
 ·refine Zt mixed Ze Zkr (S:=(List Int)) (I:=(fun i2=>(Zo [(2,.c (.ptr 10001000 0)),(4,.c (.own 10001001 false))],[(10001000,.rc [.nil,.int .i64 (0:Int)]),(10001001,.sl 3 y0_ i2 .shallow)]))) (B:=fun s=>Ok (ZmS s) (fun r=>k (.tup [.agg [.own 901 false,.int .i64 r.2.1],.c (.bool r.1)]) [(900,.rc [.own 901 false,.int .i64 r.2.1]),(901,.sl 155 y5_ r.2.2 .shallow)])) ?_ ?_
  ·rintro i2 he
   refine Zl mixed Ze Zkr (S:=Int×(List D5_)) (I:=(fun (i3,i_0)=>(Zo [(2,.c (.ptr 10002000 0)),(4,.c (.own 10002001 false)),(7,.c (.ptr 10002002 0)),(8,.c (.int .i64 i3))],[(10002000,.rc [.nil,.int .i64 (0:Int)]),(10002001,.sl 3 y0_ i2 .shallow),(10002002,.rc [.own 10002003 false,.int .i64 (1:Int)]),(10002003,.sl 155 y5_ i_0 .shallow)]))) (f:=ZgB i2) (K:=(fun r=>k (.tup [.agg [.own 901 false,.int .i64 r.2.1],.c (.bool r.1)]) [(900,.rc [.own 901 false,.int .i64 r.2.1]),(901,.sl 155 y5_ r.2.2 .shallow)])) he (Za [(10002000,10001000),(10002001,10001001),(10002002,7)] rfl rfl ⟨⟨rfl,rfl,Y1⟩,Y2,⟨⟨rfl,Y1⟩,rfl,Y1⟩,Y1,Y1⟩ ⟨⟨Y2,rfl⟩,Y3,⟨Y2,rfl⟩,rfl,Y1⟩) ?_
   rintro⟨i3,i_0⟩ J1 he
   refine Zh he (fun he=>?_) fun he=>?_
   ·refine Zc he fun he=>?_
    refine Zh he (fun he=>?_) fun he=>?_
    ·refine And.intro (by kernel_rfl) ?_
     refine Zc he fun he=>?_
     have he:=ZU he
     have hq1:=he.1
     have he:=he.2
     refine Y5 ?_ ?_
     ·skip
      refine Y4 ?_
      refine Y4 ?_
      refine Y4 ?_
      refine Y4 ?_
      refine And.intro hq1 ?_
      refine Y4 ?_
      refine Zc he fun he=>?_
      have he:=Zb he
      exact⟨((i3+(1:Int)),(i_0++[((1:Int),(i2.getD i3.toNat 0))])),he,(Za [(10002003,68)] rfl rfl ⟨⟨rfl,rfl,Y1⟩,Y2,⟨Y3,rfl,Y1⟩,Y2,Y1⟩ ⟨⟨Y2,rfl⟩,Y3,⟨Y2,rfl⟩,rfl,Y1⟩)⟩
     ·skip
      refine Y5 ?_ ?_
      ·skip
       refine Y4 ?_
       refine Y4 ?_
       refine Y4 ?_
       refine And.intro hq1 ?_
       refine Y4 ?_
       refine Zc he fun he=>?_
       have he:=Zb he
       exact⟨((i3+(1:Int)),(i_0++[((1:Int),(i2.getD i3.toNat 0))])),he,(Za [(10002003,68)] rfl rfl ⟨⟨rfl,rfl,Y1⟩,Y2,⟨Y3,rfl,Y1⟩,Y2,Y1⟩ ⟨⟨Y2,rfl⟩,Y3,⟨Y2,rfl⟩,rfl,Y1⟩)⟩
      ·skip
       refine Y5 ?_ ?_
       ·skip
        refine Y4 ?_
        refine Y4 ?_
        refine And.intro hq1 ?_
        refine Y4 ?_
        refine Zc he fun he=>?_
        have he:=Zb he
        exact⟨((i3+(1:Int)),(i_0++[((1:Int),(i2.getD i3.toNat 0))])),he,(Za [(10002003,68)] rfl rfl ⟨⟨rfl,rfl,Y1⟩,Y2,⟨Y3,rfl,Y1⟩,Y2,Y1⟩ ⟨⟨Y2,rfl⟩,Y3,⟨Y2,rfl⟩,rfl,Y1⟩)⟩
       ·skip
        refine Y4 ?_
        refine Y4 ?_
        refine And.intro hq1 ?_
        refine Y4 ?_
        refine Zc he fun he=>?_
        have he:=Zb he
        exact⟨((i3+(1:Int)),(i_0++[((1:Int),(i2.getD i3.toNat 0))])),he,(Za [(10002003,68)] rfl rfl ⟨⟨rfl,rfl,Y1⟩,Y2,⟨Y3,rfl,Y1⟩,Y2,Y1⟩ ⟨⟨Y2,rfl⟩,Y3,⟨Y2,rfl⟩,rfl,Y1⟩)⟩
    ·refine Zc he fun he=>?_
     have he:=Zb he
     exact⟨((i3+(1:Int)),i_0),he,(Za [] rfl rfl ⟨⟨rfl,rfl,Y1⟩,Y2,⟨Y3,rfl,Y1⟩,Y2,Y1⟩ ⟨⟨Y2,rfl⟩,Y3,⟨Y2,rfl⟩,rfl,Y1⟩)⟩
   ·have he:=Zb he
    exact⟨rfl,_,_,(Za [(900,10002000),(901,10002003)] (l:=[(2,.c (.ptr 900 0)),(3,.c (.bool true))]) (st':=[(900,.rc [.own 901 false,.int .i64 (1:Int)]),(901,.sl 155 y5_ i_0 .shallow)]) rfl rfl ⟨⟨Y3,rfl,Y1⟩,Y2,Y1⟩ ⟨⟨Y2,rfl⟩,.inr rfl,Y1⟩),he⟩
  ·skip
   refine Zl mixed Ze Zkr (S:=Int×(List Int)) (I:=(fun (i,i1)=>(Zo [(0,.c (.imm y0_ a0)),(2,.c (.ptr 10000000 0)),(4,.c (.own 10000001 false)),(5,.c (.int .i64 i))],[(10000000,.rc [.nil,.int .i64 (0:Int)]),(10000001,.sl 3 y0_ i1 .shallow)]))) (f:=Zi2 a0) (K:=(fun r=>k (.tup [.agg [.own 901 false,.int .i64 r.2.1],.c (.bool r.1)]) [(900,.rc [.own 901 false,.int .i64 r.2.1]),(901,.sl 155 y5_ r.2.2 .shallow)])) he (Za [(10000000,2),(10000001,9)] rfl rfl ⟨⟨rfl,rfl,Y1⟩,Y2,Y1⟩ ⟨.inl rfl,⟨Y2,rfl⟩,Y3,rfl,Y1⟩) ?_
   rintro⟨i,i1⟩ J1 he
   refine Zh he (fun he=>?_) fun he=>?_
   ·refine Zc he fun he=>?_
    refine Zk he fun r3_ he=>?_
    refine Zh he (fun he=>?_) fun he=>?_
    ·have he:=Zb he
     exact⟨rfl,_,_,(Za [(900,10000000)] (l:=[(2,.c (.ptr 900 0)),(3,.c (.bool false))]) (st':=[(900,.rc [.own 901 false,.int .i64 (0:Int)]),(901,.sl 155 y5_ ([]:List D5_) .shallow)]) rfl rfl ⟨⟨⟨rfl,Y1⟩,rfl,Y1⟩,Y1,Y1⟩ ⟨⟨Y2,rfl⟩,.inr rfl,Y1⟩),he⟩
    ·refine Zc he fun he=>?_
     refine Zk he fun r4_ he=>?_
     refine And.intro (by kernel_rfl) ?_
     refine Zc he fun he=>?_
     refine Zc he fun he=>?_
     refine Zc he fun he=>?_
     refine Zh he (fun he=>?_) fun he=>?_
     ·have he:=Zb he
      exact⟨rfl,_,_,(Za [(900,10000000)] (l:=[(2,.c (.ptr 900 0)),(3,.c (.bool false))]) (st':=[(900,.rc [.own 901 false,.int .i64 (0:Int)]),(901,.sl 155 y5_ ([]:List D5_) .shallow)]) rfl rfl ⟨⟨⟨rfl,Y1⟩,rfl,Y1⟩,Y1,Y1⟩ ⟨⟨Y2,rfl⟩,.inr rfl,Y1⟩),he⟩
     ·refine Zc he fun he=>?_
      refine Zc he fun he=>?_
      refine Zc he fun he=>?_
      have he:=Zb he
      exact⟨((i+(1:Int)),(i1.set r4_.toNat (a0.getD i.toNat 0))),he,(Za [] rfl rfl ⟨⟨rfl,rfl,Y1⟩,Y2,Y1⟩ ⟨.inl rfl,⟨Y2,rfl⟩,Y3,rfl,Y1⟩)⟩
   ·exact⟨i1,ZbH he,(Za [(10001000,10000000),(10001001,10000001)] rfl rfl ⟨⟨rfl,rfl,Y1⟩,Y2,Y1⟩ ⟨⟨Y2,rfl⟩,Y3,Y1⟩)⟩
def Zmj:Con:=fun args st=>match args,st with
  |[.c (.imm (.int .i64) vars)],[]=>.opt (Int×(List D5_)) (Zjy vars) (fun r=>.ret (.agg [.own 901 false,.int .i64 r.1]) [(900,.rc [.own 901 false,.int .i64 r.1]),(901,.sl 155 y5_ r.2 .shallow)])
  |_,_=>.fail
def Zta:Cfg:={ y:=tys,n:=27,h:=0,tab:=[],cut:=[],hand:=[],good:=[],deep:=[],sched:=[(5,(.first 0 (.first 2 (.first 3 (.first 4 (.first 5 (.first 6 (.alt 1 (.alt 7 (.alt 8 (.alt 9 (.first 10 (.alt 11 .done .stop)) .stop) .stop) .stop) (.alt 7 (.alt 1 (.alt 8 (.alt 9 (.first 10 (.alt 11 .done .stop)) .stop) .stop) (.alt 8 (.alt 1 (.alt 9 (.first 10 (.alt 11 .done .stop)) .stop) .stop) .stop)) .stop)))))))))] }
theorem Ztp:Zs Tryz.prog Zta:=Zn (fun p h=>by cases h)
theorem Ztf:Zq Tryz.prog 190 Zmj:=by
 refine Zm (C:=Zta) mixed Ze Ztp (fn:=Tryz.f190) (c:=bd Tryz.f190) (by kernel_rfl) (by kernel_rfl) (by kernel_rfl) (by kernel_rfl) ?_
 intro args st k he
 unfold Zmj at he
 split at he
 rotate_left
 ·exact he.elim
 rename_i vars
 have he:Ok (Zjy vars) (fun r=>k (.agg [.own 901 false,.int .i64 r.1]) [(900,.rc [.own 901 false,.int .i64 r.1]),(901,.sl 155 y5_ r.2 .shallow)]):=he
 refine⟨rfl,rfl,?_⟩
 refine Zc he fun he=>?_
 refine Zl mixed Ze Ztp (S:=Int×(List D5_)) (I:=(fun (i,c_0)=>(Zo [(0,.c (.imm y0_ vars)),(2,.c (.ptr 10000000 0)),(3,.c (.ptr 10000001 0)),(4,.c (.int .i64 i))],[(10000000,.rc [.nil,.int .i64 (0:Int)]),(10000001,.rc [.own 10000002 false,.int .i64 ((vars.length:Int) - (1:Int))]),(10000002,.sl 155 y5_ c_0 .shallow)]))) (f:=Ziw vars) (K:=(fun r=>k (.agg [.own 901 false,.int .i64 r.1]) [(900,.rc [.own 901 false,.int .i64 r.1]),(901,.sl 155 y5_ r.2 .shallow)])) he (Za [(10000000,2),(10000001,3)] rfl rfl ⟨⟨rfl,rfl,Y1⟩,⟨⟨rfl,Y1⟩,rfl,Y1⟩,Y1,Y1⟩ ⟨.inl rfl,⟨Y2,rfl⟩,⟨Y2,rfl⟩,rfl,Y1⟩) ?_
 rintro⟨i,c_0⟩ J1 he
 refine Zh he (fun he=>?_) fun he=>?_
 ·refine And.intro (by kernel_rfl) ?_
  refine Zc he fun he=>?_
  refine Zc he fun he=>?_
  have he:=ZU he
  have hq1:=he.1
  have he:=he.2
  refine Y5 ?_ ?_
  ·skip
   refine Y4 ?_
   refine Y4 ?_
   refine Y4 ?_
   refine And.intro hq1 ?_
   refine Y4 ?_
   refine Zc he fun he=>?_
   have he:=Zb he
   exact⟨((i+(1:Int)),(c_0++[((1:Int),(0 - (vars.getD i.toNat 0)))])),he,(Za [(10000002,24)] rfl rfl ⟨⟨rfl,rfl,Y1⟩,⟨Y3,rfl,Y1⟩,Y2,Y1⟩ ⟨.inl rfl,⟨Y2,rfl⟩,⟨Y2,rfl⟩,rfl,Y1⟩)⟩
  ·skip
   refine Y5 ?_ ?_
   ·skip
    refine Y4 ?_
    refine Y4 ?_
    refine And.intro hq1 ?_
    refine Y4 ?_
    refine Zc he fun he=>?_
    have he:=Zb he
    exact⟨((i+(1:Int)),(c_0++[((1:Int),(0 - (vars.getD i.toNat 0)))])),he,(Za [(10000002,24)] rfl rfl ⟨⟨rfl,rfl,Y1⟩,⟨Y3,rfl,Y1⟩,Y2,Y1⟩ ⟨.inl rfl,⟨Y2,rfl⟩,⟨Y2,rfl⟩,rfl,Y1⟩)⟩
   ·skip
    refine Y4 ?_
    refine Y4 ?_
    refine And.intro hq1 ?_
    refine Y4 ?_
    refine Zc he fun he=>?_
    have he:=Zb he
    exact⟨((i+(1:Int)),(c_0++[((1:Int),(0 - (vars.getD i.toNat 0)))])),he,(Za [(10000002,24)] rfl rfl ⟨⟨rfl,rfl,Y1⟩,⟨Y3,rfl,Y1⟩,Y2,Y1⟩ ⟨.inl rfl,⟨Y2,rfl⟩,⟨Y2,rfl⟩,rfl,Y1⟩)⟩
 ·have he:=Zb he
  exact⟨rfl,_,_,(Za [(900,10000000),(901,10000002)] (l:=[(2,.c (.ptr 900 0))]) (st':=[(900,.rc [.own 901 false,.int .i64 ((vars.length:Int) - (1:Int))]),(901,.sl 155 y5_ c_0 .shallow)]) rfl rfl ⟨⟨Y3,rfl,Y1⟩,Y2,Y1⟩ ⟨⟨Y2,rfl⟩,Y1⟩),he⟩
end
end Go.AE.Y
