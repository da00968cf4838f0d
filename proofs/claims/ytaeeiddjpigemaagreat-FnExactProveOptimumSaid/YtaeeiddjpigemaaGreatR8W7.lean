/-
  Walks: each function keeps the contract that its model gives. No conditions.
-/
import Derived.Test.YtaeeiddjpigemaaGreatR8Tab
import Derived.Test.YtaeeiddjpigemaaGreatR8W6
import Derived.Test.YtaeeiddjpigemaaGreatR8S
namespace Go.AE.Y
open Go Go.AE Go.Proofs
set_option linter.unusedVariables false
set_option maxHeartbeats 2000000
set_option maxRecDepth 100000
noncomputable section
def Zpu:Con:=fun args st=>match args,st with
  |[.agg [.int .i64 a_0,.int .i64 a_1,.int .i64 a_2,.imm (.pair (.int .i64) (.int .i64)) a_3,.int .i64 a_4],.agg [.int .i64 b_0,.int .i64 b_1,.int .i64 b_2,.imm (.pair (.int .i64) (.int .i64)) b_3,.int .i64 b_4]],[]=>.opt (Bool) (Zl3 (a_0,(a_1,(a_2,(a_3,a_4)))) (b_0,(b_1,(b_2,(b_3,b_4))))) (fun r=>.ret (.c (.bool r)) [])
  |_,_=>.fail
def Zpm:Cfg:={ y:=tys,n:=26,h:=0,tab:=[(95,ZjU)],cut:=[],hand:=[],good:=[],deep:=[],sched:=[] }
theorem ZyU:Zs Tryz.prog Zpm:=by
  refine Zn ?_
  simp only[Zpm,List.forall_mem_cons]
  exact⟨Ztz,fun p h=>by cases h⟩
theorem ZyB:Zq Tryz.prog 86 Zpu:=by
 refine Zm (C:=Zpm) mixed Ze ZyU (fn:=Tryz.f86) (c:=bd Tryz.f86) (by kernel_rfl) (by kernel_rfl) (by kernel_rfl) (by kernel_rfl) ?_
 intro args st k he
 unfold Zpu at he
 split at he
 rotate_left
 ·exact he.elim
 rename_i a_0 a_1 a_2 a_3 a_4 b_0 b_1 b_2 b_3 b_4
 have he:Ok (Zl3 (a_0,(a_1,(a_2,(a_3,a_4)))) (b_0,(b_1,(b_2,(b_3,b_4))))) (fun r=>k (.c (.bool r)) []):=he
 refine⟨rfl,rfl,?_⟩
 refine Zh he (fun he=>?_) fun he=>?_
 ·have he:=Zb he
  exact⟨rfl,_,_,(Za [] (l:=[(4,.c (.bool false))]) (st':=[]) rfl rfl trivial ⟨.inr rfl,Y1⟩),he⟩
 ·refine Zh he (fun he=>?_) fun he=>?_
  ·have he:=Zb he
   exact⟨rfl,_,_,(Za [] (l:=[(4,.c (.bool false))]) (st':=[]) rfl rfl trivial ⟨.inr rfl,Y1⟩),he⟩
  ·refine Zh he (fun he=>?_) fun he=>?_
   ·have he:=Zb he
    exact⟨rfl,_,_,(Za [] (l:=[(4,.c (.bool false))]) (st':=[]) rfl rfl trivial ⟨.inr rfl,Y1⟩),he⟩
   ·refine Zk he fun r1_ he=>?_
    refine Zh he (fun he=>?_) fun he=>?_
    ·have he:=Zb he
     exact⟨rfl,_,_,(Za [] (l:=[(4,.c (.bool false))]) (st':=[]) rfl rfl trivial ⟨.inr rfl,Y1⟩),he⟩
    ·have he:=Zb he
     exact⟨rfl,_,_,(Za [] (l:=[(4,.c (.bool true))]) (st':=[]) rfl rfl trivial ⟨.inr rfl,Y1⟩),he⟩
def Zou:Con:=fun args st=>match args,st with
  |[.c (.imm (.pair (.int .i64) (.pair (.int .i64) (.pair (.int .i64) (.pair (.sl (.pair (.int .i64) (.int .i64))) (.int .i64))))) a),.c (.imm (.pair (.int .i64) (.pair (.int .i64) (.pair (.int .i64) (.pair (.sl (.pair (.int .i64) (.int .i64))) (.int .i64))))) b)],[]=>.opt (Bool) (Zgv a b) (fun r=>.ret (.c (.bool r)) [])
  |_,_=>.fail
def Zoc:Cfg:={ y:=tys,n:=27,h:=0,tab:=[(86,Zpu)],cut:=[],hand:=[],good:=[],deep:=[],sched:=[(6,(.first 0 (.first 1 (.first 2 (.first 3 (.first 4 (.first 5 (.first 6 (.first 7 (.alt 8 (.first 9 .done) .stop))))))))))] }
theorem Zr7:Zs Tryz.prog Zoc:=by
  refine Zn ?_
  simp only[Zoc,List.forall_mem_cons]
  exact⟨ZyB,fun p h=>by cases h⟩
theorem Zxo:Zq Tryz.prog 27 Zou:=by
 refine Zm (C:=Zoc) mixed Ze Zr7 (fn:=Tryz.f27) (c:=bd Tryz.f27) (by kernel_rfl) (by kernel_rfl) (by kernel_rfl) (by kernel_rfl) ?_
 intro args st k he
 unfold Zou at he
 split at he
 rotate_left
 ·exact he.elim
 rename_i a b
 have he:Ok (Zgv a b) (fun r=>k (.c (.bool r)) []):=he
 refine⟨rfl,rfl,?_⟩
 refine Zh he (fun he=>?_) fun he=>?_
 ·have he:=Zb he
  exact⟨rfl,_,_,Leads.refl _ _,he⟩
 ·refine Zl mixed Ze Zr7 (S:=Int) (I:=(fun i=>(Zo [(0,.c (.imm y9_ a)),(1,.c (.imm y9_ b)),(5,.c (.int .i64 i))],[]))) (f:=Zke a b) (K:=(fun r=>k (.c (.bool r)) [])) he (Za [] rfl rfl trivial ⟨.inl rfl,.inl rfl,rfl,Y1⟩) ?_
  rintro i J1 he
  refine Zh he (fun he=>?_) fun he=>?_
  ·refine And.intro (by kernel_rfl) ?_
   refine Zc he fun he=>?_
   refine Zc he fun he=>?_
   refine Y4 ?_
   refine Zk he fun r2_ he=>?_
   refine Zh he (fun he=>?_) fun he=>?_
   ·have he:=Zb he
    exact⟨rfl,_,_,Leads.refl _ _,he⟩
   ·refine Zc he fun he=>?_
    have he:=Zb he
    exact⟨(i+(1:Int)),he,(Za [] rfl rfl trivial ⟨.inl rfl,.inl rfl,rfl,Y1⟩)⟩
  ·have he:=Zb he
   exact⟨rfl,_,_,Leads.refl _ _,he⟩
def Zor:Con:=fun args st=>match args,st with
  |[.c (.imm (.sl (.int .i64)) a),.c (.imm (.sl (.int .i64)) b)],[]=>.opt (Bool) (ZkT a b) (fun r=>.ret (.c (.bool r)) [])
  |_,_=>.fail
def Zn9:Cfg:={ y:=tys,n:=27,h:=0,tab:=[(26,Zhd)],cut:=[],hand:=[],good:=[],deep:=[],sched:=[(6,(.first 0 (.first 1 (.first 2 (.first 3 (.first 4 (.first 5 (.first 6 (.first 7 (.alt 8 (.first 9 .done) .stop))))))))))] }
theorem Zr5:Zs Tryz.prog Zn9:=by
  refine Zn ?_
  simp only[Zn9,List.forall_mem_cons]
  exact⟨Zmm,fun p h=>by cases h⟩
theorem Zxl:Zq Tryz.prog 207 Zor:=by
 refine Zm (C:=Zn9) mixed Ze Zr5 (fn:=Tryz.f207) (c:=bd Tryz.f207) (by kernel_rfl) (by kernel_rfl) (by kernel_rfl) (by kernel_rfl) ?_
 intro args st k he
 unfold Zor at he
 split at he
 rotate_left
 ·exact he.elim
 rename_i a b
 have he:Ok (ZkT a b) (fun r=>k (.c (.bool r)) []):=he
 refine⟨rfl,rfl,?_⟩
 refine Zh he (fun he=>?_) fun he=>?_
 ·have he:=Zb he
  exact⟨rfl,_,_,Leads.refl _ _,he⟩
 ·refine Zl mixed Ze Zr5 (S:=Int) (I:=(fun i=>(Zo [(0,.c (.imm (.sl y0_) a)),(1,.c (.imm (.sl y0_) b)),(5,.c (.int .i64 i))],[]))) (f:=Zkc a b) (K:=(fun r=>k (.c (.bool r)) [])) he (Za [] rfl rfl trivial ⟨.inl rfl,.inl rfl,rfl,Y1⟩) ?_
  rintro i J1 he
  refine Zh he (fun he=>?_) fun he=>?_
  ·refine And.intro (by kernel_rfl) ?_
   refine Zc he fun he=>?_
   refine Zc he fun he=>?_
   refine Y4 ?_
   refine Zk he fun r2_ he=>?_
   refine Zh he (fun he=>?_) fun he=>?_
   ·have he:=Zb he
    exact⟨rfl,_,_,Leads.refl _ _,he⟩
   ·refine Zc he fun he=>?_
    have he:=Zb he
    exact⟨(i+(1:Int)),he,(Za [] rfl rfl trivial ⟨.inl rfl,.inl rfl,rfl,Y1⟩)⟩
  ·have he:=Zb he
   exact⟨rfl,_,_,Leads.refl _ _,he⟩
def Zpt:Con:=fun args st=>match args,st with
  |[.agg [.int .i64 a_0,.imm (.int .i64) a_1,.imm (.int .i64) a_2,.int .i64 a_3,.imm (.sl (.int .i64)) a_4],.agg [.int .i64 b_0,.imm (.int .i64) b_1,.imm (.int .i64) b_2,.int .i64 b_3,.imm (.sl (.int .i64)) b_4]],[]=>.opt (Bool) (Zl2 (a_0,(a_1,(a_2,(a_3,a_4)))) (b_0,(b_1,(b_2,(b_3,b_4))))) (fun r=>.ret (.c (.bool r)) [])
  |_,_=>.fail
def Zpl:Cfg:={ y:=tys,n:=33,h:=0,tab:=[(26,Zhd),(207,Zor)],cut:=[],hand:=[],good:=[],deep:=[],sched:=[] }
theorem ZyT:Zs Tryz.prog Zpl:=by
  refine Zn ?_
  simp only[Zpl,List.forall_mem_cons]
  exact⟨Zmm,Zxl,fun p h=>by cases h⟩
theorem ZyA:Zq Tryz.prog 148 Zpt:=by
 refine Zm (C:=Zpl) mixed Ze ZyT (fn:=Tryz.f148) (c:=bd Tryz.f148) (by kernel_rfl) (by kernel_rfl) (by kernel_rfl) (by kernel_rfl) ?_
 intro args st k he
 unfold Zpt at he
 split at he
 rotate_left
 ·exact he.elim
 rename_i a_0 a_1 a_2 a_3 a_4 b_0 b_1 b_2 b_3 b_4
 have he:Ok (Zl2 (a_0,(a_1,(a_2,(a_3,a_4)))) (b_0,(b_1,(b_2,(b_3,b_4))))) (fun r=>k (.c (.bool r)) []):=he
 refine⟨rfl,rfl,?_⟩
 refine Zh he (fun he=>?_) fun he=>?_
 ·have he:=Zb he
  exact⟨rfl,_,_,(Za [] (l:=[(4,.c (.bool false))]) (st':=[]) rfl rfl trivial ⟨.inr rfl,Y1⟩),he⟩
 ·refine Zk he fun r1_ he=>?_
  refine Zh he (fun he=>?_) fun he=>?_
  ·have he:=Zb he
   exact⟨rfl,_,_,(Za [] (l:=[(4,.c (.bool false))]) (st':=[]) rfl rfl trivial ⟨.inr rfl,Y1⟩),he⟩
  ·refine Zk he fun r2_ he=>?_
   refine Zh he (fun he=>?_) fun he=>?_
   ·have he:=Zb he
    exact⟨rfl,_,_,(Za [] (l:=[(4,.c (.bool false))]) (st':=[]) rfl rfl trivial ⟨.inr rfl,Y1⟩),he⟩
   ·refine Zh he (fun he=>?_) fun he=>?_
    ·have he:=Zb he
     exact⟨rfl,_,_,(Za [] (l:=[(4,.c (.bool false))]) (st':=[]) rfl rfl trivial ⟨.inr rfl,Y1⟩),he⟩
    ·refine Zk he fun r3_ he=>?_
     refine Zh he (fun he=>?_) fun he=>?_
     ·have he:=Zb he
      exact⟨rfl,_,_,(Za [] (l:=[(4,.c (.bool false))]) (st':=[]) rfl rfl trivial ⟨.inr rfl,Y1⟩),he⟩
     ·have he:=Zb he
      exact⟨rfl,_,_,(Za [] (l:=[(4,.c (.bool true))]) (st':=[]) rfl rfl trivial ⟨.inr rfl,Y1⟩),he⟩
def Zot:Con:=fun args st=>match args,st with
  |[.c (.imm (.pair (.int .i64) (.pair (.sl (.int .i64)) (.pair (.sl (.int .i64)) (.pair (.int .i64) (.sl (.sl (.int .i64))))))) a),.c (.imm (.pair (.int .i64) (.pair (.sl (.int .i64)) (.pair (.sl (.int .i64)) (.pair (.int .i64) (.sl (.sl (.int .i64))))))) b)],[]=>.opt (Bool) (ZkV a b) (fun r=>.ret (.c (.bool r)) [])
  |_,_=>.fail
def Zob:Cfg:={ y:=tys,n:=27,h:=0,tab:=[(148,Zpt)],cut:=[],hand:=[],good:=[],deep:=[],sched:=[(6,(.first 0 (.first 1 (.first 2 (.first 3 (.first 4 (.first 5 (.first 6 (.first 7 (.alt 8 (.first 9 .done) .stop))))))))))] }
theorem Zr6:Zs Tryz.prog Zob:=by
  refine Zn ?_
  simp only[Zob,List.forall_mem_cons]
  exact⟨ZyA,fun p h=>by cases h⟩
theorem Zxn:Zq Tryz.prog 85 Zot:=by
 refine Zm (C:=Zob) mixed Ze Zr6 (fn:=Tryz.f85) (c:=bd Tryz.f85) (by kernel_rfl) (by kernel_rfl) (by kernel_rfl) (by kernel_rfl) ?_
 intro args st k he
 unfold Zot at he
 split at he
 rotate_left
 ·exact he.elim
 rename_i a b
 have he:Ok (ZkV a b) (fun r=>k (.c (.bool r)) []):=he
 refine⟨rfl,rfl,?_⟩
 refine Zh he (fun he=>?_) fun he=>?_
 ·have he:=Zb he
  exact⟨rfl,_,_,Leads.refl _ _,he⟩
 ·refine Zl mixed Ze Zr6 (S:=Int) (I:=(fun i=>(Zo [(0,.c (.imm y4_ a)),(1,.c (.imm y4_ b)),(5,.c (.int .i64 i))],[]))) (f:=Zkd a b) (K:=(fun r=>k (.c (.bool r)) [])) he (Za [] rfl rfl trivial ⟨.inl rfl,.inl rfl,rfl,Y1⟩) ?_
  rintro i J1 he
  refine Zh he (fun he=>?_) fun he=>?_
  ·refine And.intro (by kernel_rfl) ?_
   refine Zc he fun he=>?_
   refine Zc he fun he=>?_
   refine Y4 ?_
   refine Zk he fun r2_ he=>?_
   refine Zh he (fun he=>?_) fun he=>?_
   ·have he:=Zb he
    exact⟨rfl,_,_,Leads.refl _ _,he⟩
   ·refine Zc he fun he=>?_
    have he:=Zb he
    exact⟨(i+(1:Int)),he,(Za [] rfl rfl trivial ⟨.inl rfl,.inl rfl,rfl,Y1⟩)⟩
  ·have he:=Zb he
   exact⟨rfl,_,_,Leads.refl _ _,he⟩
def Zos:Con:=fun args st=>match args,st with
  |[.agg [.imm (.int .i64) a_0,.imm (.pair (.int .i64) (.pair (.sl (.int .i64)) (.pair (.sl (.int .i64)) (.pair (.int .i64) (.sl (.sl (.int .i64))))))) a_1],.agg [.imm (.int .i64) b_0,.imm (.pair (.int .i64) (.pair (.sl (.int .i64)) (.pair (.sl (.int .i64)) (.pair (.int .i64) (.sl (.sl (.int .i64))))))) b_1]],[]=>.opt (Bool) (ZkU (a_0,a_1) (b_0,b_1)) (fun r=>.ret (.c (.bool r)) [])
  |_,_=>.fail
def Zoa:Cfg:={ y:=tys,n:=17,h:=0,tab:=[(26,Zhd),(85,Zot)],cut:=[],hand:=[],good:=[],deep:=[],sched:=[] }
theorem ZxX:Zs Tryz.prog Zoa:=by
  refine Zn ?_
  simp only[Zoa,List.forall_mem_cons]
  exact⟨Zmm,Zxn,fun p h=>by cases h⟩
theorem Zxm:Zq Tryz.prog 25 Zos:=by
 refine Zm (C:=Zoa) mixed Ze ZxX (fn:=Tryz.f25) (c:=bd Tryz.f25) (by kernel_rfl) (by kernel_rfl) (by kernel_rfl) (by kernel_rfl) ?_
 intro args st k he
 unfold Zos at he
 split at he
 rotate_left
 ·exact he.elim
 rename_i a_0 a_1 b_0 b_1
 have he:Ok (ZkU (a_0,a_1) (b_0,b_1)) (fun r=>k (.c (.bool r)) []):=he
 refine⟨rfl,rfl,?_⟩
 refine Zk he fun r1_ he=>?_
 refine Zh he (fun he=>?_) fun he=>?_
 ·have he:=Zb he
  exact⟨rfl,_,_,(Za [] (l:=[(4,.c (.bool false))]) (st':=[]) rfl rfl trivial ⟨.inr rfl,Y1⟩),he⟩
 ·refine Zk he fun r2_ he=>?_
  refine Zh he (fun he=>?_) fun he=>?_
  ·have he:=Zb he
   exact⟨rfl,_,_,(Za [] (l:=[(4,.c (.bool false))]) (st':=[]) rfl rfl trivial ⟨.inr rfl,Y1⟩),he⟩
  ·have he:=Zb he
   exact⟨rfl,_,_,(Za [] (l:=[(4,.c (.bool true))]) (st':=[]) rfl rfl trivial ⟨.inr rfl,Y1⟩),he⟩
def Zj9:Con:=fun args st=>match args,st with
  |[.c (.own 0 false),.c (.int .i64 k_)],[(0,.sl 3 (.int .i64) a .shallow)]=>.opt (Int×(List Int)) (ZdQ k_ a) (fun r=>.ret (.c (.int .i64 r.1)) [(0,.sl 3 y0_ r.2 .shallow)])
  |_,_=>.fail
def ZqU:Cfg:={ y:=tys,n:=19,h:=1,tab:=[],cut:=[],hand:=[],good:=[],deep:=[],sched:=[] }
theorem Zro:Zs Tryz.prog ZqU:=Zn (fun p h=>by cases h)
theorem Zrd:Zq Tryz.prog 36 Zj9:=by
 refine Zm (C:=ZqU) mixed Ze Zro (fn:=Tryz.f36) (c:=bd Tryz.f36) (by kernel_rfl) (by kernel_rfl) (by kernel_rfl) (by kernel_rfl) ?_
 intro args st k he
 unfold Zj9 at he
 split at he
 rotate_left
 ·exact he.elim
 rename_i k_ a
 have he:Ok (ZdQ k_ a) (fun r=>k (.c (.int .i64 r.1)) [(0,.sl 3 y0_ r.2 .shallow)]):=he
 refine⟨rfl,rfl,?_⟩
 refine Zl mixed Ze Zro (S:=Int×Int×(List Int)) (I:=(fun (k_1,i,a1)=>(Zo [(0,.c (.own 0 false)),(1,.c (.int .i64 k_1)),(5,.c (.int .i64 i))],[(0,.sl 3 y0_ a1 .shallow)]))) (f:=ZeR) (K:=(fun r=>k (.c (.int .i64 r.1)) [(0,.sl 3 y0_ r.2 .shallow)])) he (Za [] rfl rfl Y3 ⟨Y3,rfl,rfl,Y1⟩) ?_
 rintro⟨k_1,i,a1⟩ J1 he
 refine Zh he (fun he=>?_) fun he=>?_
 ·refine Zc he fun he=>?_
  refine Zc he fun he=>?_
  refine Zc he fun he=>?_
  have he:=Zb he
  exact⟨((k_1+(1:Int)),(i+(1:Int)),(a1.set i.toNat k_1)),he,(Za [] rfl rfl Y3 ⟨Y3,rfl,rfl,Y1⟩)⟩
 ·have he:=Zb he
  exact⟨rfl,_,_,(Za [] (l:=[(4,.c (.int .i64 k_1))]) (st':=[(0,.sl 3 y0_ a1 .shallow)]) rfl rfl Y3 ⟨rfl,Y1⟩),he⟩
def Zhp:Con:=fun args st=>match args,st with
  |[.c (.own 0 false),.c (.int .i64 k_)],[(0,.sl 0 (.int .i64) a (.deep false .no))]=>.opt (Int×(List Int)) (ZdZ k_ a) (fun r=>.ret (.c (.int .i64 r.1)) [(0,.sl 0 y0_ r.2 (.deep false .no))])
  |_,_=>.fail
def Zo1:Cfg:={ y:=tys,n:=19,h:=1,tab:=[],cut:=[],hand:=[],good:=[],deep:=[],sched:=[] }
theorem Zpg:Zs Tryz.prog Zo1:=Zn (fun p h=>by cases h)
theorem Zo7:Zq Tryz.prog 36 Zhp:=by
 refine Zm (C:=Zo1) mixed Ze Zpg (fn:=Tryz.f36) (c:=bd Tryz.f36) (by kernel_rfl) (by kernel_rfl) (by kernel_rfl) (by kernel_rfl) ?_
 intro args st k he
 unfold Zhp at he
 split at he
 rotate_left
 ·exact he.elim
 rename_i k_ a
 have he:Ok (ZdZ k_ a) (fun r=>k (.c (.int .i64 r.1)) [(0,.sl 0 y0_ r.2 (.deep false .no))]):=he
 refine⟨rfl,rfl,?_⟩
 refine Zl mixed Ze Zpg (S:=Int×Int×(List Int)) (I:=(fun (k_1,i,a1)=>(Zo [(0,.c (.own 0 false)),(1,.c (.int .i64 k_1)),(5,.c (.int .i64 i))],[(0,.sl 0 y0_ a1 (.deep false .no))]))) (f:=ZeE) (K:=(fun r=>k (.c (.int .i64 r.1)) [(0,.sl 0 y0_ r.2 (.deep false .no))])) he (Za [] rfl rfl Y3 ⟨Y3,rfl,rfl,Y1⟩) ?_
 rintro⟨k_1,i,a1⟩ J1 he
 refine Zh he (fun he=>?_) fun he=>?_
 ·refine Zc he fun he=>?_
  refine Zc he fun he=>?_
  refine Zc he fun he=>?_
  have he:=Zb he
  exact⟨((k_1+(1:Int)),(i+(1:Int)),(a1.set i.toNat k_1)),he,(Za [] rfl rfl Y3 ⟨Y3,rfl,rfl,Y1⟩)⟩
 ·have he:=Zb he
  exact⟨rfl,_,_,(Za [] (l:=[(4,.c (.int .i64 k_1))]) (st':=[(0,.sl 0 y0_ a1 (.deep false .no))]) rfl rfl Y3 ⟨rfl,Y1⟩),he⟩
def ZmF:Con:=fun args st=>match args,st with
  |[.c (.own 0 false),.c (.int .i64 k_)],[(0,.sl 0 (.sl (.int .i64)) a (.deep false .no))]=>.opt (Int×(List (List Int))) (Zil k_ a) (fun r=>.ret (.c (.int .i64 r.1)) [(0,.sl 0 (.sl y0_) r.2 (.deep false .no))])
  |_,_=>.fail
def Zmw:Cfg:={ y:=tys,n:=19,h:=1,tab:=[(36,Zhp)],cut:=[],hand:=[(36,[0])],good:=[],deep:=[],sched:=[] }
theorem ZqL:Zs Tryz.prog Zmw:=by
  refine Zn ?_
  simp only[Zmw,List.forall_mem_cons]
  exact⟨Zo7,fun p h=>by cases h⟩
theorem ZvK:Zq Tryz.prog 176 ZmF:=by
 refine Zm (C:=Zmw) mixed Ze ZqL (fn:=Tryz.f176) (c:=bd Tryz.f176) (by kernel_rfl) (by kernel_rfl) (by kernel_rfl) (by kernel_rfl) ?_
 intro args st k he
 unfold ZmF at he
 split at he
 rotate_left
 ·exact he.elim
 rename_i k_ a
 have he:Ok (Zil k_ a) (fun r=>k (.c (.int .i64 r.1)) [(0,.sl 0 (.sl y0_) r.2 (.deep false .no))]):=he
 refine⟨rfl,rfl,?_⟩
 refine Zl mixed Ze ZqL (S:=Int×Int×(List (List Int))) (I:=(fun (k_1,i,a1)=>(Zo [(0,.c (.own 0 false)),(1,.c (.int .i64 k_1)),(5,.c (.int .i64 i))],[(0,.sl 0 (.sl y0_) a1 (.deep false .no))]))) (f:=ZfI) (K:=(fun r=>k (.c (.int .i64 r.1)) [(0,.sl 0 (.sl y0_) r.2 (.deep false .no))])) he (Za [] rfl rfl Y3 ⟨Y3,rfl,rfl,Y1⟩) ?_
 rintro⟨k_1,i,a1⟩ J1 he
 refine Zh he (fun he=>?_) fun he=>?_
 ·refine Zc he fun he=>?_
  refine Zk he fun r2_ he=>?_
  refine Zc he fun he=>?_
  have he:=Zb he
  exact⟨(r2_.1,(i+(1:Int)),(a1.set i.toNat r2_.2)),he,((ZoV [0] rfl).trans (Za [] (l:=[(0,.c (.own 0 false)),(1,.c (.int .i64 r2_.1)),(5,.c (.int .i64 (i+(1:Int))))]) (st':=[(0,.sl 0 (.sl y0_) (a1.set i.toNat r2_.2) (.deep false .no))]) rfl rfl (by exact Y3) (by exact⟨Y3,rfl,rfl,Y1⟩)))⟩
 ·have he:=Zb he
  exact⟨rfl,_,_,(Za [] (l:=[(4,.c (.int .i64 k_1))]) (st':=[(0,.sl 0 (.sl y0_) a1 (.deep false .no))]) rfl rfl Y3 ⟨rfl,Y1⟩),he⟩
def ZmH:Con:=fun args st=>match args,st with
  |[.c (.own 0 false),.c (.int .i64 k_)],[(0,.sl 145 (.pair (.int .i64) (.pair (.sl (.int .i64)) (.pair (.sl (.int .i64)) (.pair (.int .i64) (.sl (.sl (.int .i64))))))) a (.deep true .no))]=>.opt (Int×(List D4_)) (Zgl k_ a) (fun r=>.ret (.c (.int .i64 r.1)) [(0,.sl 145 y4_ r.2 (.deep true .no))])
  |_,_=>.fail
def Zmy:Cfg:={ y:=tys,n:=48,h:=1,tab:=[(36,Zhp),(176,ZmF)],cut:=[8,9],hand:=[(36,[0]),(176,[0])],good:=[],deep:=[],sched:=[] }
theorem Zjh:Zs Tryz.prog Zmy:=by
  refine Zn ?_
  simp only[Zmy,List.forall_mem_cons]
  exact⟨Zo7,ZvK,fun p h=>by cases h⟩
theorem ZvM:Zq Tryz.prog 116 ZmH:=by
 refine Zm (C:=Zmy) mixed Ze Zjh (fn:=Tryz.f116) (c:=bd Tryz.f116) (by kernel_rfl) (by kernel_rfl) (by kernel_rfl) (by kernel_rfl) ?_
 intro args st k he
 unfold ZmH at he
 split at he
 rotate_left
 ·exact he.elim
 rename_i k_ a
 have he:Ok (Zgl k_ a) (fun r=>k (.c (.int .i64 r.1)) [(0,.sl 145 y4_ r.2 (.deep true .no))]):=he
 refine⟨rfl,rfl,?_⟩
 refine Zl mixed Ze Zjh (S:=Int×Int×(List D4_)) (I:=(fun (k_1,i,a3)=>(Zo [(0,.c (.own 0 false)),(1,.c (.int .i64 k_1)),(5,.c (.int .i64 i))],[(0,.sl 145 y4_ a3 (.deep true .no))]))) (f:=ZfJ) (K:=(fun r=>k (.c (.int .i64 r.1)) [(0,.sl 145 y4_ r.2 (.deep true .no))])) he (Za [] rfl rfl Y3 ⟨Y3,rfl,rfl,Y1⟩) ?_
 rintro⟨k_1,i,a3⟩ J1 he
 refine Zh he (fun he=>?_) fun he=>?_
 ·refine Zc he fun he=>?_
  refine Zc he fun he=>?_
  refine Zc he fun he=>?_
  refine Zk he fun r4_ he=>?_
  refine Zt mixed Ze Zjh (S:=Int×(List D4_)) (I:=(fun (k_3,a4)=>(Zo [(0,.c (.own 0 false)),(1,.c (.int .i64 k_3)),(5,.c (.int .i64 i))],[(0,.sl 145 y4_ a4 (.deep true .no))]))) (B:=fun s=>Ok (ZlQ i s) (LK J1 (fun r=>k (.c (.int .i64 r.1)) [(0,.sl 145 y4_ r.2 (.deep true .no))]))) ?_ ?_
  ·rintro⟨k_3,a4⟩ he
   refine Zt mixed Ze Zjh (S:=(List D4_)) (I:=(fun a5=>(Zo [(0,.c (.own 0 false)),(1,.c (.int .i64 k_3)),(5,.c (.int .i64 i))],[(0,.sl 145 y4_ a5 (.deep true .no))]))) (B:=fun s=>Ok (ZlR i k_3 s) (LK J1 (fun r=>k (.c (.int .i64 r.1)) [(0,.sl 145 y4_ r.2 (.deep true .no))]))) ?_ ?_
   ·rintro a5 he
    refine Zc he fun he=>?_
    refine Zc he fun he=>?_
    refine Zk he fun r6_ he=>?_
    refine Zc he fun he=>?_
    have he:=Zb he
    exact⟨(r6_.1,(i+(1:Int)),(a5.set i.toNat ((a5.getD i.toNat (0,([],([],(0,[]))))).1,((a5.getD i.toNat (0,([],([],(0,[]))))).2.1,((a5.getD i.toNat (0,([],([],(0,[]))))).2.2.1,((a5.getD i.toNat (0,([],([],(0,[]))))).2.2.2.1,r6_.2)))))),he,((ZoV [0] rfl).trans (Za [] (l:=[(0,.c (.own 0 false)),(1,.c (.int .i64 r6_.1)),(5,.c (.int .i64 (i+(1:Int))))]) (st':=[(0,.sl 145 y4_ (a5.set i.toNat ((a5.getD i.toNat (0,([],([],(0,[]))))).1,((a5.getD i.toNat (0,([],([],(0,[]))))).2.1,((a5.getD i.toNat (0,([],([],(0,[]))))).2.2.1,((a5.getD i.toNat (0,([],([],(0,[]))))).2.2.2.1,r6_.2))))) (.deep true .no))]) rfl rfl (by exact Y3) (by exact⟨Y3,rfl,rfl,Y1⟩)))⟩
   ·skip
    refine Zc he fun he=>?_
    exact⟨(a4.set i.toNat ((a4.getD i.toNat (0,([],([],(0,[]))))).1,((a4.getD i.toNat (0,([],([],(0,[]))))).2.1,((a4.getD i.toNat (0,([],([],(0,[]))))).2.2.1,(k_3,(a4.getD i.toNat (0,([],([],(0,[]))))).2.2.2.2))))),he,(Za [] rfl rfl Y3 ⟨Y3,rfl,rfl,Y1⟩)⟩
  ·skip
   refine Zc he fun he=>?_
   refine Zk he fun r5_ he=>?_
   exact⟨(r5_.1,(((a3.set i.toNat (k_1,(a3.getD i.toNat (0,([],([],(0,[]))))).2)).set i.toNat (((a3.set i.toNat (k_1,(a3.getD i.toNat (0,([],([],(0,[]))))).2)).getD i.toNat (0,([],([],(0,[]))))).1,(r4_.2,((a3.set i.toNat (k_1,(a3.getD i.toNat (0,([],([],(0,[]))))).2)).getD i.toNat (0,([],([],(0,[]))))).2.2))).set i.toNat ((((a3.set i.toNat (k_1,(a3.getD i.toNat (0,([],([],(0,[]))))).2)).set i.toNat (((a3.set i.toNat (k_1,(a3.getD i.toNat (0,([],([],(0,[]))))).2)).getD i.toNat (0,([],([],(0,[]))))).1,(r4_.2,((a3.set i.toNat (k_1,(a3.getD i.toNat (0,([],([],(0,[]))))).2)).getD i.toNat (0,([],([],(0,[]))))).2.2))).getD i.toNat (0,([],([],(0,[]))))).1,((((a3.set i.toNat (k_1,(a3.getD i.toNat (0,([],([],(0,[]))))).2)).set i.toNat (((a3.set i.toNat (k_1,(a3.getD i.toNat (0,([],([],(0,[]))))).2)).getD i.toNat (0,([],([],(0,[]))))).1,(r4_.2,((a3.set i.toNat (k_1,(a3.getD i.toNat (0,([],([],(0,[]))))).2)).getD i.toNat (0,([],([],(0,[]))))).2.2))).getD i.toNat (0,([],([],(0,[]))))).2.1,(r5_.2,(((a3.set i.toNat (k_1,(a3.getD i.toNat (0,([],([],(0,[]))))).2)).set i.toNat (((a3.set i.toNat (k_1,(a3.getD i.toNat (0,([],([],(0,[]))))).2)).getD i.toNat (0,([],([],(0,[]))))).1,(r4_.2,((a3.set i.toNat (k_1,(a3.getD i.toNat (0,([],([],(0,[]))))).2)).getD i.toNat (0,([],([],(0,[]))))).2.2))).getD i.toNat (0,([],([],(0,[]))))).2.2.2))))),he,((ZoV [0] rfl).trans (Za [] (l:=[(0,.c (.own 0 false)),(1,.c (.int .i64 r5_.1)),(5,.c (.int .i64 i))]) (st':=[(0,.sl 145 y4_ (((a3.set i.toNat (k_1,(a3.getD i.toNat (0,([],([],(0,[]))))).2)).set i.toNat (((a3.set i.toNat (k_1,(a3.getD i.toNat (0,([],([],(0,[]))))).2)).getD i.toNat (0,([],([],(0,[]))))).1,(r4_.2,((a3.set i.toNat (k_1,(a3.getD i.toNat (0,([],([],(0,[]))))).2)).getD i.toNat (0,([],([],(0,[]))))).2.2))).set i.toNat ((((a3.set i.toNat (k_1,(a3.getD i.toNat (0,([],([],(0,[]))))).2)).set i.toNat (((a3.set i.toNat (k_1,(a3.getD i.toNat (0,([],([],(0,[]))))).2)).getD i.toNat (0,([],([],(0,[]))))).1,(r4_.2,((a3.set i.toNat (k_1,(a3.getD i.toNat (0,([],([],(0,[]))))).2)).getD i.toNat (0,([],([],(0,[]))))).2.2))).getD i.toNat (0,([],([],(0,[]))))).1,((((a3.set i.toNat (k_1,(a3.getD i.toNat (0,([],([],(0,[]))))).2)).set i.toNat (((a3.set i.toNat (k_1,(a3.getD i.toNat (0,([],([],(0,[]))))).2)).getD i.toNat (0,([],([],(0,[]))))).1,(r4_.2,((a3.set i.toNat (k_1,(a3.getD i.toNat (0,([],([],(0,[]))))).2)).getD i.toNat (0,([],([],(0,[]))))).2.2))).getD i.toNat (0,([],([],(0,[]))))).2.1,(r5_.2,(((a3.set i.toNat (k_1,(a3.getD i.toNat (0,([],([],(0,[]))))).2)).set i.toNat (((a3.set i.toNat (k_1,(a3.getD i.toNat (0,([],([],(0,[]))))).2)).getD i.toNat (0,([],([],(0,[]))))).1,(r4_.2,((a3.set i.toNat (k_1,(a3.getD i.toNat (0,([],([],(0,[]))))).2)).getD i.toNat (0,([],([],(0,[]))))).2.2))).getD i.toNat (0,([],([],(0,[]))))).2.2.2)))) (.deep true .no))]) rfl rfl (by exact Y3) (by exact⟨Y3,rfl,rfl,Y1⟩)))⟩
 ·have he:=Zb he
  exact⟨rfl,_,_,(Za [] (l:=[(4,.c (.int .i64 k_1))]) (st':=[(0,.sl 145 y4_ a3 (.deep true .no))]) rfl rfl Y3 ⟨rfl,Y1⟩),he⟩
def ZmG:Con:=fun args st=>match args,st with
  |[.agg [.own 0 false,.own 1 false],.c (.int .i64 k_)],[(0,.sl 3 (.int .i64) o0 .shallow),(1,.sl 145 (.pair (.int .i64) (.pair (.sl (.int .i64)) (.pair (.sl (.int .i64)) (.pair (.int .i64) (.sl (.sl (.int .i64))))))) o1 (.deep true .no))]=>.opt (Int×(List Int)×(List D4_)) (Zim k_ o0 o1) (fun r=>.ret (.c (.int .i64 r.1)) [(0,.sl 3 y0_ r.2.1 .shallow),(1,.sl 145 y4_ r.2.2 (.deep true .no))])
  |_,_=>.fail
def Zmx:Cfg:={ y:=tys,n:=14,h:=2,tab:=[(36,Zj9),(116,ZmH)],cut:=[],hand:=[(36,[0]),(116,[0])],good:=[],deep:=[],sched:=[] }
theorem Zwa:Zs Tryz.prog Zmx:=by
  refine Zn ?_
  simp only[Zmx,List.forall_mem_cons]
  exact⟨Zrd,ZvM,fun p h=>by cases h⟩
theorem ZvL:Zq Tryz.prog 46 ZmG:=by
 refine Zm (C:=Zmx) mixed Ze Zwa (fn:=Tryz.f46) (c:=bd Tryz.f46) (by kernel_rfl) (by kernel_rfl) (by kernel_rfl) (by kernel_rfl) ?_
 intro args st k he
 unfold ZmG at he
 split at he
 rotate_left
 ·exact he.elim
 rename_i k_ o0 o1
 have he:Ok (Zim k_ o0 o1) (fun r=>k (.c (.int .i64 r.1)) [(0,.sl 3 y0_ r.2.1 .shallow),(1,.sl 145 y4_ r.2.2 (.deep true .no))]):=he
 refine⟨rfl,rfl,?_⟩
 refine Zk he fun r1_ he=>?_
 refine Zk he fun r2_ he=>?_
 have he:=Zb he
 exact⟨rfl,_,_,(Za [] (l:=[(4,.c (.int .i64 r2_.1))]) (st':=[(0,.sl 3 y0_ r1_.2 .shallow),(1,.sl 145 y4_ r2_.2 (.deep true .no))]) rfl rfl ⟨Y2,Y2,Y1⟩ ⟨rfl,Y1⟩),he⟩
def ZjV:Con:=fun args st=>match args,st with
  |[.c (.own 0 false),.c (.int .i64 k_)],[(0,.sl 0 (.pair (.int .i64) (.int .i64)) a (.deep false .no))]=>.opt (Int×(List D5_)) (ZfL k_ a) (fun r=>.ret (.c (.int .i64 r.1)) [(0,.sl 0 y5_ r.2 (.deep false .no))])
  |_,_=>.fail
def ZnY:Cfg:={ y:=tys,n:=27,h:=1,tab:=[],cut:=[7],hand:=[],good:=[],deep:=[],sched:=[] }
theorem Zj4:Zs Tryz.prog ZnY:=Zn (fun p h=>by cases h)
theorem ZtA:Zq Tryz.prog 96 ZjV:=by
 refine Zm (C:=ZnY) mixed Ze Zj4 (fn:=Tryz.f96) (c:=bd Tryz.f96) (by kernel_rfl) (by kernel_rfl) (by kernel_rfl) (by kernel_rfl) ?_
 intro args st k he
 unfold ZjV at he
 split at he
 rotate_left
 ·exact he.elim
 rename_i k_ a
 have he:Ok (ZfL k_ a) (fun r=>k (.c (.int .i64 r.1)) [(0,.sl 0 y5_ r.2 (.deep false .no))]):=he
 refine⟨rfl,rfl,?_⟩
 refine Zl mixed Ze Zj4 (S:=Int×Int×(List D5_)) (I:=(fun (k_1,i,a2)=>(Zo [(0,.c (.own 0 false)),(1,.c (.int .i64 k_1)),(5,.c (.int .i64 i))],[(0,.sl 0 y5_ a2 (.deep false .no))]))) (f:=Zei) (K:=(fun r=>k (.c (.int .i64 r.1)) [(0,.sl 0 y5_ r.2 (.deep false .no))])) he (Za [] rfl rfl Y3 ⟨Y3,rfl,rfl,Y1⟩) ?_
 rintro⟨k_1,i,a2⟩ J1 he
 refine Zh he (fun he=>?_) fun he=>?_
 ·refine Zc he fun he=>?_
  refine Zc he fun he=>?_
  refine Zt mixed Ze Zj4 (S:=(List D5_)) (I:=(fun a3=>(Zo [(0,.c (.own 0 false)),(1,.c (.int .i64 (k_1+(1:Int)))),(5,.c (.int .i64 i))],[(0,.sl 0 y5_ a3 (.deep false .no))]))) (B:=fun s=>Ok (ZiW k_1 i s) (LK J1 (fun r=>k (.c (.int .i64 r.1)) [(0,.sl 0 y5_ r.2 (.deep false .no))]))) ?_ ?_
  ·rintro a3 he
   refine Zc he fun he=>?_
   refine Zc he fun he=>?_
   have he:=Zb he
   exact⟨(((k_1+(1:Int))+(1:Int)),(i+(1:Int)),a3),he,(Za [] rfl rfl Y3 ⟨Y3,rfl,rfl,Y1⟩)⟩
  ·skip
   refine Zc he fun he=>?_
   exact⟨((a2.set i.toNat (k_1,(a2.getD i.toNat (0,0)).2)).set i.toNat (((a2.set i.toNat (k_1,(a2.getD i.toNat (0,0)).2)).getD i.toNat (0,0)).1,(k_1+(1:Int)))),he,(Za [] rfl rfl Y3 ⟨Y3,rfl,rfl,Y1⟩)⟩
 ·have he:=Zb he
  exact⟨rfl,_,_,(Za [] (l:=[(4,.c (.int .i64 k_1))]) (st':=[(0,.sl 0 y5_ a2 (.deep false .no))]) rfl rfl Y3 ⟨rfl,Y1⟩),he⟩
def ZmI:Con:=fun args st=>match args,st with
  |[.c (.own 0 false),.c (.int .i64 k_)],[(0,.sl 96 (.pair (.int .i64) (.pair (.int .i64) (.pair (.int .i64) (.pair (.sl (.pair (.int .i64) (.int .i64))) (.int .i64))))) a (.deep true .no))]=>.opt (Int×(List D9_)) (Zin k_ a) (fun r=>.ret (.c (.int .i64 r.1)) [(0,.sl 96 y9_ r.2 (.deep true .no))])
  |_,_=>.fail
def Zmz:Cfg:={ y:=tys,n:=50,h:=1,tab:=[(96,ZjV)],cut:=[7,9,12],hand:=[(96,[0])],good:=[],deep:=[],sched:=[] }
theorem ZgK:Zs Tryz.prog Zmz:=by
  refine Zn ?_
  simp only[Zmz,List.forall_mem_cons]
  exact⟨ZtA,fun p h=>by cases h⟩
theorem ZvN:Zq Tryz.prog 35 ZmI:=by
 refine Zm (C:=Zmz) mixed Ze ZgK (fn:=Tryz.f35) (c:=bd Tryz.f35) (by kernel_rfl) (by kernel_rfl) (by kernel_rfl) (by kernel_rfl) ?_
 intro args st k he
 unfold ZmI at he
 split at he
 rotate_left
 ·exact he.elim
 rename_i k_ a
 have he:Ok (Zin k_ a) (fun r=>k (.c (.int .i64 r.1)) [(0,.sl 96 y9_ r.2 (.deep true .no))]):=he
 refine⟨rfl,rfl,?_⟩
 refine Zl mixed Ze ZgK (S:=Int×Int×(List D9_)) (I:=(fun (k_1,i,a4)=>(Zo [(0,.c (.own 0 false)),(1,.c (.int .i64 k_1)),(5,.c (.int .i64 i))],[(0,.sl 96 y9_ a4 (.deep true .no))]))) (f:=ZfK) (K:=(fun r=>k (.c (.int .i64 r.1)) [(0,.sl 96 y9_ r.2 (.deep true .no))])) he (Za [] rfl rfl Y3 ⟨Y3,rfl,rfl,Y1⟩) ?_
 rintro⟨k_1,i,a4⟩ J1 he
 refine Zh he (fun he=>?_) fun he=>?_
 ·refine Zc he fun he=>?_
  refine Zc he fun he=>?_
  refine Zt mixed Ze ZgK (S:=(List D9_)) (I:=(fun a5=>(Zo [(0,.c (.own 0 false)),(1,.c (.int .i64 (k_1+(1:Int)))),(5,.c (.int .i64 i))],[(0,.sl 96 y9_ a5 (.deep true .no))]))) (B:=fun s=>Ok (ZlS k_1 i s) (LK J1 (fun r=>k (.c (.int .i64 r.1)) [(0,.sl 96 y9_ r.2 (.deep true .no))]))) ?_ ?_
  ·rintro a5 he
   refine Zc he fun he=>?_
   refine Zt mixed Ze ZgK (S:=(List D9_)) (I:=(fun a6=>(Zo [(0,.c (.own 0 false)),(1,.c (.int .i64 ((k_1+(1:Int))+(1:Int)))),(5,.c (.int .i64 i))],[(0,.sl 96 y9_ a6 (.deep true .no))]))) (B:=fun s=>Ok (ZlT k_1 i s) (LK J1 (fun r=>k (.c (.int .i64 r.1)) [(0,.sl 96 y9_ r.2 (.deep true .no))]))) ?_ ?_
   ·rintro a6 he
    refine Zc he fun he=>?_
    refine Zc he fun he=>?_
    refine Zk he fun r2_ he=>?_
    refine Zt mixed Ze ZgK (S:=(List D9_)) (I:=(fun a7=>(Zo [(0,.c (.own 0 false)),(1,.c (.int .i64 r2_.1)),(5,.c (.int .i64 i))],[(0,.sl 96 y9_ a7 (.deep true .no))]))) (B:=fun s=>Ok (ZlU i r2_ s) (LK J1 (fun r=>k (.c (.int .i64 r.1)) [(0,.sl 96 y9_ r.2 (.deep true .no))]))) ?_ ?_
    ·rintro a7 he
     refine Zc he fun he=>?_
     refine Zc he fun he=>?_
     have he:=Zb he
     exact⟨((r2_.1+(1:Int)),(i+(1:Int)),a7),he,(Za [] rfl rfl Y3 ⟨Y3,rfl,rfl,Y1⟩)⟩
    ·skip
     refine Zc he fun he=>?_
     exact⟨((a6.set i.toNat ((a6.getD i.toNat (0,(0,(0,([],0))))).1,((a6.getD i.toNat (0,(0,(0,([],0))))).2.1,((a6.getD i.toNat (0,(0,(0,([],0))))).2.2.1,((a6.getD i.toNat (0,(0,(0,([],0))))).2.2.2.1,r2_.1))))).set i.toNat (((a6.set i.toNat ((a6.getD i.toNat (0,(0,(0,([],0))))).1,((a6.getD i.toNat (0,(0,(0,([],0))))).2.1,((a6.getD i.toNat (0,(0,(0,([],0))))).2.2.1,((a6.getD i.toNat (0,(0,(0,([],0))))).2.2.2.1,r2_.1))))).getD i.toNat (0,(0,(0,([],0))))).1,(((a6.set i.toNat ((a6.getD i.toNat (0,(0,(0,([],0))))).1,((a6.getD i.toNat (0,(0,(0,([],0))))).2.1,((a6.getD i.toNat (0,(0,(0,([],0))))).2.2.1,((a6.getD i.toNat (0,(0,(0,([],0))))).2.2.2.1,r2_.1))))).getD i.toNat (0,(0,(0,([],0))))).2.1,(((a6.set i.toNat ((a6.getD i.toNat (0,(0,(0,([],0))))).1,((a6.getD i.toNat (0,(0,(0,([],0))))).2.1,((a6.getD i.toNat (0,(0,(0,([],0))))).2.2.1,((a6.getD i.toNat (0,(0,(0,([],0))))).2.2.2.1,r2_.1))))).getD i.toNat (0,(0,(0,([],0))))).2.2.1,(r2_.2,((a6.set i.toNat ((a6.getD i.toNat (0,(0,(0,([],0))))).1,((a6.getD i.toNat (0,(0,(0,([],0))))).2.1,((a6.getD i.toNat (0,(0,(0,([],0))))).2.2.1,((a6.getD i.toNat (0,(0,(0,([],0))))).2.2.2.1,r2_.1))))).getD i.toNat (0,(0,(0,([],0))))).2.2.2.2))))),he,((ZoV [0] rfl).trans (Za [] (l:=[(0,.c (.own 0 false)),(1,.c (.int .i64 r2_.1)),(5,.c (.int .i64 i))]) (st':=[(0,.sl 96 y9_ ((a6.set i.toNat ((a6.getD i.toNat (0,(0,(0,([],0))))).1,((a6.getD i.toNat (0,(0,(0,([],0))))).2.1,((a6.getD i.toNat (0,(0,(0,([],0))))).2.2.1,((a6.getD i.toNat (0,(0,(0,([],0))))).2.2.2.1,r2_.1))))).set i.toNat (((a6.set i.toNat ((a6.getD i.toNat (0,(0,(0,([],0))))).1,((a6.getD i.toNat (0,(0,(0,([],0))))).2.1,((a6.getD i.toNat (0,(0,(0,([],0))))).2.2.1,((a6.getD i.toNat (0,(0,(0,([],0))))).2.2.2.1,r2_.1))))).getD i.toNat (0,(0,(0,([],0))))).1,(((a6.set i.toNat ((a6.getD i.toNat (0,(0,(0,([],0))))).1,((a6.getD i.toNat (0,(0,(0,([],0))))).2.1,((a6.getD i.toNat (0,(0,(0,([],0))))).2.2.1,((a6.getD i.toNat (0,(0,(0,([],0))))).2.2.2.1,r2_.1))))).getD i.toNat (0,(0,(0,([],0))))).2.1,(((a6.set i.toNat ((a6.getD i.toNat (0,(0,(0,([],0))))).1,((a6.getD i.toNat (0,(0,(0,([],0))))).2.1,((a6.getD i.toNat (0,(0,(0,([],0))))).2.2.1,((a6.getD i.toNat (0,(0,(0,([],0))))).2.2.2.1,r2_.1))))).getD i.toNat (0,(0,(0,([],0))))).2.2.1,(r2_.2,((a6.set i.toNat ((a6.getD i.toNat (0,(0,(0,([],0))))).1,((a6.getD i.toNat (0,(0,(0,([],0))))).2.1,((a6.getD i.toNat (0,(0,(0,([],0))))).2.2.1,((a6.getD i.toNat (0,(0,(0,([],0))))).2.2.2.1,r2_.1))))).getD i.toNat (0,(0,(0,([],0))))).2.2.2.2))))) (.deep true .no))]) rfl rfl (by exact Y3) (by exact⟨Y3,rfl,rfl,Y1⟩)))⟩
   ·skip
    refine Zc he fun he=>?_
    exact⟨(a5.set i.toNat ((a5.getD i.toNat (0,(0,(0,([],0))))).1,((a5.getD i.toNat (0,(0,(0,([],0))))).2.1,(((k_1+(1:Int))+(1:Int)),(a5.getD i.toNat (0,(0,(0,([],0))))).2.2.2)))),he,(Za [] rfl rfl Y3 ⟨Y3,rfl,rfl,Y1⟩)⟩
  ·skip
   refine Zc he fun he=>?_
   exact⟨((a4.set i.toNat (k_1,(a4.getD i.toNat (0,(0,(0,([],0))))).2)).set i.toNat (((a4.set i.toNat (k_1,(a4.getD i.toNat (0,(0,(0,([],0))))).2)).getD i.toNat (0,(0,(0,([],0))))).1,((k_1+(1:Int)),((a4.set i.toNat (k_1,(a4.getD i.toNat (0,(0,(0,([],0))))).2)).getD i.toNat (0,(0,(0,([],0))))).2.2))),he,(Za [] rfl rfl Y3 ⟨Y3,rfl,rfl,Y1⟩)⟩
 ·have he:=Zb he
  exact⟨rfl,_,_,(Za [] (l:=[(4,.c (.int .i64 k_1))]) (st':=[(0,.sl 96 y9_ a4 (.deep true .no))]) rfl rfl Y3 ⟨rfl,Y1⟩),he⟩
def Znq:Con:=fun args st=>match args,st with
  |[.c (.imm (.int .i64) a),.c (.int .i64 k_)],[]=>.opt (Int) (ZfA a k_) (fun r=>.ret (.c (.int .i64 r)) [])
  |_,_=>.fail
def ZqT:Cfg:={ y:=tys,n:=21,h:=0,tab:=[],cut:=[],hand:=[],good:=[],deep:=[],sched:=[] }
theorem Zrn:Zs Tryz.prog ZqT:=Zn (fun p h=>by cases h)
theorem Zww:Zq Tryz.prog 37 Znq:=by
 refine Zm (C:=ZqT) mixed Ze Zrn (fn:=Tryz.f37) (c:=bd Tryz.f37) (by kernel_rfl) (by kernel_rfl) (by kernel_rfl) (by kernel_rfl) ?_
 intro args st k he
 unfold Znq at he
 split at he
 rotate_left
 ·exact he.elim
 rename_i a k_
 have he:Ok (ZfA a k_) (fun r=>k (.c (.int .i64 r)) []):=he
 refine⟨rfl,rfl,?_⟩
 refine Zl mixed Ze Zrn (S:=Int×Int) (I:=(fun (k_1,i)=>(Zo [(0,.c (.imm y0_ a)),(1,.c (.int .i64 k_1)),(5,.c (.int .i64 i))],[]))) (f:=ZiV a) (K:=(fun r=>k (.c (.int .i64 r)) [])) he (Za [] rfl rfl trivial ⟨.inl rfl,rfl,rfl,Y1⟩) ?_
 rintro⟨k_1,i⟩ J1 he
 refine Zh he (fun he=>?_) fun he=>?_
 ·refine Zc he fun he=>?_
  refine Zh he (fun he=>?_) fun he=>?_
  ·have he:=Zb he
   exact⟨rfl,_,_,Leads.refl _ _,he⟩
  ·refine Zc he fun he=>?_
   refine Zc he fun he=>?_
   have he:=Zb he
   exact⟨((k_1+(1:Int)),(i+(1:Int))),he,(Za [] rfl rfl trivial ⟨.inl rfl,rfl,rfl,Y1⟩)⟩
 ·have he:=Zb he
  exact⟨rfl,_,_,Leads.refl _ _,he⟩
def ZmE:Con:=fun args st=>match args,st with
  |[.c (.imm (.pair (.int .i64) (.int .i64)) a),.c (.int .i64 k_)],[]=>.opt (Int) (Zik a k_) (fun r=>.ret (.c (.int .i64 r)) [])
  |_,_=>.fail
def Zqh:Cfg:={ y:=tys,n:=31,h:=0,tab:=[],cut:=[],hand:=[],good:=[],deep:=[],sched:=[] }
theorem ZqK:Zs Tryz.prog Zqh:=Zn (fun p h=>by cases h)
theorem ZvJ:Zq Tryz.prog 117 ZmE:=by
 refine Zm (C:=Zqh) mixed Ze ZqK (fn:=Tryz.f117) (c:=bd Tryz.f117) (by kernel_rfl) (by kernel_rfl) (by kernel_rfl) (by kernel_rfl) ?_
 intro args st k he
 unfold ZmE at he
 split at he
 rotate_left
 ·exact he.elim
 rename_i a k_
 have he:Ok (Zik a k_) (fun r=>k (.c (.int .i64 r)) []):=he
 refine⟨rfl,rfl,?_⟩
 refine Zl mixed Ze ZqK (S:=Int×Int) (I:=(fun (k_1,i)=>(Zo [(0,.c (.imm y5_ a)),(1,.c (.int .i64 k_1)),(5,.c (.int .i64 i))],[]))) (f:=Zh2 a) (K:=(fun r=>k (.c (.int .i64 r)) [])) he (Za [] rfl rfl trivial ⟨.inl rfl,rfl,rfl,Y1⟩) ?_
 rintro⟨k_1,i⟩ J1 he
 refine Zh he (fun he=>?_) fun he=>?_
 ·refine Zc he fun he=>?_
  refine Zh he (fun he=>?_) fun he=>?_
  ·have he:=Zb he
   exact⟨rfl,_,_,Leads.refl _ _,he⟩
  ·refine Zc he fun he=>?_
   refine Zc he fun he=>?_
   refine Zh he (fun he=>?_) fun he=>?_
   ·have he:=Zb he
    exact⟨rfl,_,_,Leads.refl _ _,he⟩
   ·refine Zc he fun he=>?_
    refine Zc he fun he=>?_
    have he:=Zb he
    exact⟨(((k_1+(1:Int))+(1:Int)),(i+(1:Int))),he,(Za [] rfl rfl trivial ⟨.inl rfl,rfl,rfl,Y1⟩)⟩
 ·have he:=Zb he
  exact⟨rfl,_,_,Leads.refl _ _,he⟩
def ZmD:Con:=fun args st=>match args,st with
  |[.c (.imm (.pair (.int .i64) (.pair (.int .i64) (.pair (.int .i64) (.pair (.sl (.pair (.int .i64) (.int .i64))) (.int .i64))))) a),.c (.int .i64 k_)],[]=>.opt (Int) (ZeQ a k_) (fun r=>.ret (.c (.int .i64 r)) [])
  |_,_=>.fail
def Zmv:Cfg:={ y:=tys,n:=60,h:=0,tab:=[(117,ZmE)],cut:=[],hand:=[],good:=[],deep:=[],sched:=[] }
theorem ZqJ:Zs Tryz.prog Zmv:=by
  refine Zn ?_
  simp only[Zmv,List.forall_mem_cons]
  exact⟨ZvJ,fun p h=>by cases h⟩
theorem ZvI:Zq Tryz.prog 47 ZmD:=by
 refine Zm (C:=Zmv) mixed Ze ZqJ (fn:=Tryz.f47) (c:=bd Tryz.f47) (by kernel_rfl) (by kernel_rfl) (by kernel_rfl) (by kernel_rfl) ?_
 intro args st k he
 unfold ZmD at he
 split at he
 rotate_left
 ·exact he.elim
 rename_i a k_
 have he:Ok (ZeQ a k_) (fun r=>k (.c (.int .i64 r)) []):=he
 refine⟨rfl,rfl,?_⟩
 refine Zl mixed Ze ZqJ (S:=Int×Int) (I:=(fun (k_1,i)=>(Zo [(0,.c (.imm y9_ a)),(1,.c (.int .i64 k_1)),(5,.c (.int .i64 i))],[]))) (f:=Zh1 a) (K:=(fun r=>k (.c (.int .i64 r)) [])) he (Za [] rfl rfl trivial ⟨.inl rfl,rfl,rfl,Y1⟩) ?_
 rintro⟨k_1,i⟩ J1 he
 refine Zh he (fun he=>?_) fun he=>?_
 ·refine Zc he fun he=>?_
  refine Zh he (fun he=>?_) fun he=>?_
  ·have he:=Zb he
   exact⟨rfl,_,_,Leads.refl _ _,he⟩
  ·refine Zc he fun he=>?_
   refine Zc he fun he=>?_
   refine Zh he (fun he=>?_) fun he=>?_
   ·have he:=Zb he
    exact⟨rfl,_,_,Leads.refl _ _,he⟩
   ·refine Zc he fun he=>?_
    refine Zc he fun he=>?_
    refine Zh he (fun he=>?_) fun he=>?_
    ·have he:=Zb he
     exact⟨rfl,_,_,Leads.refl _ _,he⟩
    ·refine Zc he fun he=>?_
     refine Zc he fun he=>?_
     refine Zk he fun r1_ he=>?_
     refine Zh he (fun he=>?_) fun he=>?_
     ·have he:=Zb he
      exact⟨rfl,_,_,Leads.refl _ _,he⟩
     ·refine Zc he fun he=>?_
      refine Zh he (fun he=>?_) fun he=>?_
      ·have he:=Zb he
       exact⟨rfl,_,_,Leads.refl _ _,he⟩
      ·refine Zc he fun he=>?_
       refine Zc he fun he=>?_
       have he:=Zb he
       exact⟨((r1_+(1:Int)),(i+(1:Int))),he,(Za [] rfl rfl trivial ⟨.inl rfl,rfl,rfl,Y1⟩)⟩
 ·have he:=Zb he
  exact⟨rfl,_,_,Leads.refl _ _,he⟩
def Zfy:Con:=fun args st=>match args,st with
  |[.agg [.imm (.int .i64) a0_0,.imm (.pair (.int .i64) (.pair (.sl (.int .i64)) (.pair (.sl (.int .i64)) (.pair (.int .i64) (.sl (.sl (.int .i64))))))) a0_1],.c (.imm (.int .i64) a1),.c (.int .i64 a2)],[]=>.opt (Bool) (Zeh (a0_0,a0_1) a1 a2) (fun r=>.ret (.c (.bool r)) [])
  |_,_=>.fail
def Zfw:Cfg:={ y:=tys,n:=159,h:=0,tab:=[(12,ZjR),(13,ZjY),(19,Zox),(22,ZoA),(23,Zhe),(25,Zos),(26,Zhd),(27,Zou),(35,ZmI),(36,Zj9),(37,Znq),(46,ZmG),(47,ZmD)],cut:=[15],hand:=[(35,[0]),(36,[0]),(46,[0])],good:=[],deep:=[],sched:=[(13,(.alt 0 (.alt 1 (.alt 2 (.alt 3 (.first 4 .done) .stop) .stop) .stop) (.alt 1 (.alt 0 (.alt 2 (.alt 3 (.first 4 .done) .stop) .stop) (.alt 2 (.alt 0 (.alt 3 (.first 4 .done) .stop) .stop) .stop)) .stop)))] }
theorem Zju:Zs Tryz.prog Zfw:=by
  refine Zn ?_
  simp only[Zfw,List.forall_mem_cons]
  exact⟨Ztw,ZtD,Zxr,Zxu,Zmn,Zxm,Zmm,Zxo,ZvN,Zrd,Zww,ZvL,ZvI,fun p h=>by cases h⟩
theorem ZpI:Zq Tryz.prog 9 Zfy:=by
 refine Zm (C:=Zfw) mixed Ze Zju (fn:=Tryz.f9) (c:=bd Tryz.f9) (by kernel_rfl) (by kernel_rfl) (by kernel_rfl) (by kernel_rfl) ?_
 intro args st k he
 unfold Zfy at he
 split at he
 rotate_left
 ·exact he.elim
 rename_i a0_0 a0_1 a1 a2
 have he:Ok (Zeh (a0_0,a0_1) a1 a2) (fun r=>k (.c (.bool r)) []):=he
 refine⟨rfl,rfl,?_⟩
 refine Zh he (fun he=>?_) fun he=>?_
 ·have he:=Zb he
  exact⟨rfl,_,_,(Za [] (l:=[(6,.c (.bool true))]) (st':=[]) rfl rfl trivial ⟨.inr rfl,Y1⟩),he⟩
 ·refine Zk he fun r1_ he=>?_
  refine Zh he (fun he=>?_) fun he=>?_
  ·have he:=Zb he
   exact⟨rfl,_,_,(Za [] (l:=[(6,.c (.bool true))]) (st':=[]) rfl rfl trivial ⟨.inr rfl,Y1⟩),he⟩
  ·refine Zk he fun r2_ he=>?_
   refine Zk he fun r3_ he=>?_
   refine Zk he fun r4_ he=>?_
   refine Zk he fun r5_ he=>?_
   refine Zk he fun r6_ he=>?_
   refine Zk he fun r7_ he=>?_
   refine ZK he (fun he=>?_) fun he=>?_
   ·refine Zk he fun r8_ he=>?_
    refine ZK he (fun he=>?_) fun he=>?_
    ·refine Zk he fun r9_ he=>?_
     refine Zh he (fun he=>?_) fun he=>?_
     ·have he:=Zb he
      exact⟨rfl,_,_,(Za [] (l:=[(6,.c (.bool false))]) (st':=[]) rfl rfl trivial ⟨.inr rfl,Y1⟩),he⟩
     ·refine Zt mixed Ze Zju (S:=Unit) (I:=(fun _=>(Zo [(1,.c (.imm y0_ a1)),(2,.c (.int .i64 a2)),(3,.c (.ptr 10000000 0)),(8,.c (.int .i64 r4_.1)),(9,.c (.own 10000001 false)),(10,.c (.own 10000002 false)),(11,.c (.ptr 10000003 0)),(12,.c (.own 10000004 false)),(13,.c (.int .i64 r7_.1)),(14,.c (.own 10000005 false)),(15,.c (.own 10000006 false))],[(10000000,.rc [.imm y0_ (a0_0,a0_1).1,.imm y4_ (a0_0,a0_1).2]),(10000001,.sl 3 y0_ r4_.2.1 .shallow),(10000002,.sl 96 y9_ r4_.2.2 (.deep true .no)),(10000003,.rc [.own 10000007 false,.own 10000008 false]),(10000004,.sl 3 y0_ r6_ .shallow),(10000005,.sl 3 y0_ r7_.2.1 .shallow),(10000006,.sl 96 y9_ r7_.2.2 (.deep true .no)),(10000007,.sl 3 y0_ r5_.1 .shallow),(10000008,.sl 145 y4_ r5_.2 (.deep true .no))]))) (B:=fun s=>Ok (Zfe (a0_0,a0_1) a1 a2 r4_ r5_ r6_ r7_ s) (fun r=>k (.c (.bool r)) [])) ?_ ?_
      ·rintro⟨⟩ he
       refine Zk he fun r14_ he=>?_
       refine Zk he fun r15_ he=>?_
       refine Zh he (fun he=>?_) fun he=>?_
       ·have he:=Zb he
        exact⟨rfl,_,_,(Za [] (l:=[(6,.c (.bool false))]) (st':=[]) rfl rfl trivial ⟨.inr rfl,Y1⟩),he⟩
       ·refine Zk he fun r16_ he=>?_
        refine Zk he fun r17_ he=>?_
        refine ZK he (fun he=>?_) fun he=>?_
        ·refine ZK he (fun he=>?_) fun he=>?_
         ·refine Zk he fun r18_ he=>?_
          refine ZK he (fun he=>?_) fun he=>?_
          ·refine Zk he fun r19_ he=>?_
           refine Zh he (fun he=>?_) fun he=>?_
           ·have he:=Zb he
            exact⟨rfl,_,_,(Za [] (l:=[(6,.c (.bool false))]) (st':=[]) rfl rfl trivial ⟨.inr rfl,Y1⟩),he⟩
           ·refine Zk he fun r20_ he=>?_
            refine Zk he fun r21_ he=>?_
            refine Zk he fun r22_ he=>?_
            refine Zh he (fun he=>?_) fun he=>?_
            ·have he:=Zb he
             exact⟨rfl,_,_,(Za [] (l:=[(6,.c (.bool false))]) (st':=[]) rfl rfl trivial ⟨.inr rfl,Y1⟩),he⟩
            ·refine Zk he fun r23_ he=>?_
             refine Zh he (fun he=>?_) fun he=>?_
             ·have he:=Zb he
              exact⟨rfl,_,_,(Za [] (l:=[(6,.c (.bool false))]) (st':=[]) rfl rfl trivial ⟨.inr rfl,Y1⟩),he⟩
             ·refine Zh he (fun he=>?_) fun he=>?_
              ·have he:=Zb he
               exact⟨rfl,_,_,(Za [] (l:=[(6,.c (.bool false))]) (st':=[]) rfl rfl trivial ⟨.inr rfl,Y1⟩),he⟩
              ·refine Zk he fun r24_ he=>?_
               refine Zk he fun r25_ he=>?_
               refine Zk he fun r26_ he=>?_
               refine ZK he (fun he=>?_) fun he=>?_
               ·refine Zk he fun r27_ he=>?_
                refine ZK he (fun he=>?_) fun he=>?_
                ·refine Zk he fun r28_ he=>?_
                 refine Zh he (fun he=>?_) fun he=>?_
                 ·have he:=Zb he
                  exact⟨rfl,_,_,(Za [] (l:=[(6,.c (.bool false))]) (st':=[]) rfl rfl trivial ⟨.inr rfl,Y1⟩),he⟩
                 ·refine Zk he fun r29_ he=>?_
                  refine Zh he (fun he=>?_) fun he=>?_
                  ·have he:=Zb he
                   exact⟨rfl,_,_,(Za [] (l:=[(6,.c (.bool false))]) (st':=[]) rfl rfl trivial ⟨.inr rfl,Y1⟩),he⟩
                  ·refine Zk he fun r30_ he=>?_
                   refine Zh he (fun he=>?_) fun he=>?_
                   ·have he:=Zb he
                    exact⟨rfl,_,_,(Za [] (l:=[(6,.c (.bool false))]) (st':=[]) rfl rfl trivial ⟨.inr rfl,Y1⟩),he⟩
                   ·refine Zh he (fun he=>?_) fun he=>?_
                    ·have he:=Zb he
                     exact⟨rfl,_,_,(Za [] (l:=[(6,.c (.bool false))]) (st':=[]) rfl rfl trivial ⟨.inr rfl,Y1⟩),he⟩
                    ·have he:=Zb he
                     exact⟨rfl,_,_,(Za [] (l:=[(6,.c (.bool true))]) (st':=[]) rfl rfl trivial ⟨.inr rfl,Y1⟩),he⟩
                ·have he:=Zb he
                 exact⟨rfl,_,_,(Za [] (l:=[(6,.c (.bool false))]) (st':=[]) rfl rfl trivial ⟨.inr rfl,Y1⟩),he⟩
               ·have he:=Zb he
                exact⟨rfl,_,_,(Za [] (l:=[(6,.c (.bool false))]) (st':=[]) rfl rfl trivial ⟨.inr rfl,Y1⟩),he⟩
          ·have he:=Zb he
           exact⟨rfl,_,_,(Za [] (l:=[(6,.c (.bool false))]) (st':=[]) rfl rfl trivial ⟨.inr rfl,Y1⟩),he⟩
         ·have he:=Zb he
          exact⟨rfl,_,_,(Za [] (l:=[(6,.c (.bool false))]) (st':=[]) rfl rfl trivial ⟨.inr rfl,Y1⟩),he⟩
        ·have he:=Zb he
         exact⟨rfl,_,_,(Za [] (l:=[(6,.c (.bool false))]) (st':=[]) rfl rfl trivial ⟨.inr rfl,Y1⟩),he⟩
      ·skip
       refine And.intro (by kernel_rfl) ?_
       obtain⟨r12_,hq1,he⟩:=Zb1 he
       obtain⟨r13_,hq2,he⟩:=Zb1 he
       refine Y5 ?_ ?_
       ·skip
        refine Y4 ?_
        refine Y4 ?_
        refine⟨r12_,hq1,?_⟩
        refine Y4 ?_
        refine⟨r13_,hq2,?_⟩
        refine Zh he (fun he=>?_) fun he=>?_
        ·have he:=Zb he
         exact⟨rfl,_,_,(Za [] (l:=[(6,.c (.bool false))]) (st':=[]) rfl rfl trivial ⟨.inr rfl,Y1⟩),he⟩
        ·exact⟨(),he,(Za [(10000000,3),(10000001,37900),(10000002,37901),(10000003,11),(10000004,44900),(10000005,49900),(10000006,49901),(10000007,42901),(10000008,42902)] rfl rfl ⟨⟨.inl rfl,.inl rfl,Y1⟩,Y2,Y2,⟨Y3,Y3,Y1⟩,Y2,Y2,Y2,Y2,Y2,Y1⟩ ⟨.inl rfl,rfl,⟨Y2,rfl⟩,rfl,Y3,Y3,⟨Y2,rfl⟩,Y3,rfl,Y3,Y3,Y1⟩)⟩
       ·skip
        refine Y5 ?_ ?_
        ·skip
         refine Y4 ?_
         refine⟨r12_,hq1,?_⟩
         refine Y4 ?_
         refine⟨r13_,hq2,?_⟩
         refine Zh he (fun he=>?_) fun he=>?_
         ·have he:=Zb he
          exact⟨rfl,_,_,(Za [] (l:=[(6,.c (.bool false))]) (st':=[]) rfl rfl trivial ⟨.inr rfl,Y1⟩),he⟩
         ·exact⟨(),he,(Za [(10000000,3),(10000001,37900),(10000002,37901),(10000003,11),(10000004,44900),(10000005,49900),(10000006,49901),(10000007,42901),(10000008,42902)] rfl rfl ⟨⟨.inl rfl,.inl rfl,Y1⟩,Y2,Y2,⟨Y3,Y3,Y1⟩,Y2,Y2,Y2,Y2,Y2,Y1⟩ ⟨.inl rfl,rfl,⟨Y2,rfl⟩,rfl,Y3,Y3,⟨Y2,rfl⟩,Y3,rfl,Y3,Y3,Y1⟩)⟩
        ·skip
         refine⟨r12_,hq1,?_⟩
         refine Y4 ?_
         refine Y4 ?_
         refine⟨r13_,hq2,?_⟩
         refine Zh he (fun he=>?_) fun he=>?_
         ·have he:=Zb he
          exact⟨rfl,_,_,(Za [] (l:=[(6,.c (.bool false))]) (st':=[]) rfl rfl trivial ⟨.inr rfl,Y1⟩),he⟩
         ·exact⟨(),he,(Za [(10000000,3),(10000001,37900),(10000002,37901),(10000003,11),(10000004,44900),(10000005,49900),(10000006,49901),(10000007,42901),(10000008,42902)] rfl rfl ⟨⟨.inl rfl,.inl rfl,Y1⟩,Y2,Y2,⟨Y3,Y3,Y1⟩,Y2,Y2,Y2,Y2,Y2,Y1⟩ ⟨.inl rfl,rfl,⟨Y2,rfl⟩,rfl,Y3,Y3,⟨Y2,rfl⟩,Y3,rfl,Y3,Y3,Y1⟩)⟩
    ·have he:=Zb he
     exact⟨rfl,_,_,(Za [] (l:=[(6,.c (.bool false))]) (st':=[]) rfl rfl trivial ⟨.inr rfl,Y1⟩),he⟩
   ·have he:=Zb he
    exact⟨rfl,_,_,(Za [] (l:=[(6,.c (.bool false))]) (st':=[]) rfl rfl trivial ⟨.inr rfl,Y1⟩),he⟩
end
end Go.AE.Y
