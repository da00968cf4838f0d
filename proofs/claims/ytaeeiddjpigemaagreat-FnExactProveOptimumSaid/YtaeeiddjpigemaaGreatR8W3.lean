/-
  Walks: each function keeps the contract that its model gives. No conditions.
-/
import Derived.Test.YtaeeiddjpigemaaGreatR8Tab
import Derived.Test.YtaeeiddjpigemaaGreatR8W2
import Derived.Test.YtaeeiddjpigemaaGreatR8S
namespace Go.AE.Y
open Go Go.AE Go.Proofs
set_option linter.unusedVariables false
set_option maxHeartbeats 2000000
set_option maxRecDepth 100000
noncomputable section
def Zhs:Con:=fun args st=>match args,st with
  |[.c (.imm (.pair (.sl (.pair (.int .i64) (.int .i64))) (.int .i64)) list_),.c (.own 0 false)],[(0,.sl 3 (.int .i64) p .shallow)]=>.opt (Int×(List Int)) (Zdl list_ p) (fun r=>.ret (.c (.int .i64 r.1)) [(0,.sl 3 y0_ r.2 .shallow)])
  |_,_=>.fail
def ZkA:Cfg:={ y:=tys,n:=42,h:=1,tab:=[(194,Zhr),(248,Zlf),(249,ZmJ)],cut:=[],hand:=[(194,[0])],good:=[],deep:=[],sched:=[] }
theorem ZhL:Zs Tryz.prog ZkA:=by
  refine Zn ?_
  simp only[ZkA,List.forall_mem_cons]
  exact⟨ZnH,ZrP,ZvO,fun p h=>by cases h⟩
theorem Zo8:Zq Tryz.prog 195 Zhs:=by
 refine Zm (C:=ZkA) mixed Ze ZhL (fn:=Tryz.f195) (c:=bd Tryz.f195) (by kernel_rfl) (by kernel_rfl) (by kernel_rfl) (by kernel_rfl) ?_
 intro args st k he
 unfold Zhs at he
 split at he
 rotate_left
 ·exact he.elim
 rename_i list_ p
 have he:Ok (Zdl list_ p) (fun r=>k (.c (.int .i64 r.1)) [(0,.sl 3 y0_ r.2 .shallow)]):=he
 refine⟨rfl,rfl,?_⟩
 refine Zl mixed Ze ZhL (S:=Bool×(List Int)) (I:=(fun (changed,p4)=>(Zo [(0,.c (.imm y6_ list_)),(1,.c (.own 0 false)),(5,.c (.bool changed))],[(0,.sl 3 y0_ p4 .shallow)]))) (f:=ZeI list_) (K:=(fun r=>k (.c (.int .i64 r.1)) [(0,.sl 3 y0_ r.2 .shallow)])) he (Za [] rfl rfl Y3 ⟨.inl rfl,Y3,.inr rfl,Y1⟩) ?_
 rintro⟨changed,p4⟩ J1 he
 refine Zh he (fun he=>?_) fun he=>?_
 ·refine Zl mixed Ze ZhL (S:=Bool×Int×(List Int)) (I:=(fun (changed4,i1,p6)=>(Zo [(0,.c (.imm y6_ list_)),(1,.c (.own 0 false)),(5,.c (.bool changed4)),(6,.c (.int .i64 i1))],[(0,.sl 3 y0_ p6 .shallow)]))) (f:=Zc6 list_) (K:=(LK J1 (fun r=>k (.c (.int .i64 r.1)) [(0,.sl 3 y0_ r.2 .shallow)]))) he (Za [] rfl rfl Y3 ⟨.inl rfl,Y3,.inr rfl,rfl,Y1⟩) ?_
  rintro⟨changed4,i1,p6⟩ J2 he
  refine Zh he (fun he=>?_) fun he=>?_
  ·refine Zc he fun he=>?_
   refine Zk he fun r13_ he=>?_
   refine Zh he (fun he=>?_) fun he=>?_
   ·have he:=Zb he
    exact⟨rfl,_,_,(Za [] (l:=[(4,.c (.int .i64 i1))]) (st':=[(0,.sl 3 y0_ p6 .shallow)]) rfl rfl Y3 ⟨rfl,Y1⟩),he⟩
   ·refine Zc he fun he=>?_
    refine Zk he fun r14_ he=>?_
    refine Zl mixed Ze ZhL (S:=Bool×Int×(List Int)) (I:=(fun (changed6,k_3,p7)=>(Zo [(0,.c (.imm y6_ list_)),(1,.c (.own 0 false)),(5,.c (.bool changed6)),(6,.c (.int .i64 i1)),(7,.c (.own 10006000 false)),(8,.c (.int .i64 k_3))],[(0,.sl 3 y0_ p7 .shallow),(10006000,.sl 3 y0_ r14_ .shallow)]))) (f:=Zc7 i1 r14_) (K:=(LK J2 (LK J1 (fun r=>k (.c (.int .i64 r.1)) [(0,.sl 3 y0_ r.2 .shallow)])))) he (Za [(10006000,30900)] rfl rfl ⟨Y2,Y2,Y1⟩ ⟨.inl rfl,Y3,.inl rfl,rfl,Y3,rfl,Y1⟩) ?_
    rintro⟨changed6,k_3,p7⟩ J3 he
    refine Zh he (fun he=>?_) fun he=>?_
    ·refine Zc he fun he=>?_
     refine Zk he fun r16_ he=>?_
     refine Zc he fun he=>?_
     have he:=Zb he
     exact⟨(true,(k_3+(1:Int)),r16_),he,(Za [] rfl rfl ⟨Y2,Y2,Y1⟩ ⟨.inl rfl,Y3,.inr rfl,rfl,Y3,rfl,Y1⟩)⟩
    ·refine Zc he fun he=>?_
     have he:=Zb he
     exact⟨(changed6,(i1+(1:Int)),p7),he,(Za [] rfl rfl Y3 ⟨.inl rfl,Y3,.inl rfl,rfl,Y1⟩)⟩
  ·have he:=Zb he
   exact⟨(changed4,p6),he,(Za [] rfl rfl Y3 ⟨.inl rfl,Y3,.inl rfl,Y1⟩)⟩
 ·have he:=Zb he
  exact⟨rfl,_,_,(Za [] (l:=[(4,.c (.int .i64 (-1:Int)))]) (st':=[(0,.sl 3 y0_ p4 .shallow)]) rfl rfl Y3 ⟨rfl,Y1⟩),he⟩
def Zht:Con:=fun args st=>match args,st with
  |[.agg [.own 0 false,.own 1 false,.int .i64 s_2],.c (.imm (.int .i64) decisions)],[(0,.sl 89 (.pair (.sl (.pair (.int .i64) (.int .i64))) (.int .i64)) o0 .shallow),(1,.sl 96 (.pair (.int .i64) (.pair (.int .i64) (.pair (.int .i64) (.pair (.sl (.pair (.int .i64) (.int .i64))) (.int .i64))))) o1 .shallow)]=>.opt (Int×(List D6_)×(List D9_)) (Zcm s_2 decisions o0 o1) (fun r=>.ret (.agg [.own 901 false,.own 902 false,.int .i64 r.1]) [(0,.dead),(1,.dead),(900,.rc [.own 901 false,.own 902 false,.int .i64 r.1]),(901,.sl 89 y6_ r.2.1 .shallow),(902,.sl 96 y9_ r.2.2 .shallow)])
  |_,_=>.fail
def ZkB:Cfg:={ y:=tys,n:=43,h:=2,tab:=[(189,Zhq)],cut:=[6],hand:=[],good:=[],deep:=[],sched:=[] }
theorem Zld:Zs Tryz.prog ZkB:=by
  refine Zn ?_
  simp only[ZkB,List.forall_mem_cons]
  exact⟨ZnG,fun p h=>by cases h⟩
theorem Zo9:Zq Tryz.prog 196 Zht:=by
 refine Zm (C:=ZkB) mixed Ze Zld (fn:=Tryz.f196) (c:=bd Tryz.f196) (by kernel_rfl) (by kernel_rfl) (by kernel_rfl) (by kernel_rfl) ?_
 intro args st k he
 unfold Zht at he
 split at he
 rotate_left
 ·exact he.elim
 rename_i s_2 decisions o0 o1
 have he:Ok (Zcm s_2 decisions o0 o1) (fun r=>k (.agg [.own 901 false,.own 902 false,.int .i64 r.1]) [(0,.dead),(1,.dead),(900,.rc [.own 901 false,.own 902 false,.int .i64 r.1]),(901,.sl 89 y6_ r.2.1 .shallow),(902,.sl 96 y9_ r.2.2 .shallow)]):=he
 refine⟨rfl,rfl,?_⟩
 refine Zt mixed Ze Zld (S:=(List Int)) (I:=(fun lits1=>(Zo [(2,.c (.ptr 10001000 0)),(4,.c (.ptr 10001001 0)),(5,.c (.own 10001002 false))],[(0,.sl 89 y6_ o0 .shallow),(1,.sl 96 y9_ o1 .shallow),(10001000,.rc [.own 0 false,.own 1 false,.int .i64 s_2]),(10001001,.rc [.nil,.nil,.int .i64 (0:Int)]),(10001002,.sl 3 y0_ lits1 .shallow)]))) (B:=fun s=>Ok (ZgX s_2 o0 o1 s) (fun r=>k (.agg [.own 901 false,.own 902 false,.int .i64 r.1]) [(0,.dead),(1,.dead),(900,.rc [.own 901 false,.own 902 false,.int .i64 r.1]),(901,.sl 89 y6_ r.2.1 .shallow),(902,.sl 96 y9_ r.2.2 .shallow)])) ?_ ?_
 ·rintro lits1 he
  refine Zk he fun r1_ he=>?_
  refine Zc he fun he=>?_
  refine Zc he fun he=>?_
  have he:=Zb he
  exact⟨rfl,_,_,(Za [(900,10001001),(901,33),(902,40)] (l:=[(4,.c (.ptr 900 0))]) (st':=[(0,.dead),(1,.dead),(900,.rc [.own 901 false,.own 902 false,.int .i64 s_2]),(901,.sl 89 y6_ (o0++[(r1_.2.2,r1_.2.1)]) .shallow),(902,.sl 96 y9_ (o1++[((7:Int),((0:Int),((0:Int),(r1_.2.2,r1_.2.1))))]) .shallow)]) rfl rfl ⟨Y1,Y1,⟨Y3,Y3,rfl,Y1⟩,Y2,Y2,Y1⟩ ⟨⟨Y2,rfl⟩,Y1⟩),he⟩
 ·skip
  refine Zl mixed Ze Zld (S:=Int×(List Int)) (I:=(fun (i,lits)=>(Zo [(1,.c (.imm y0_ decisions)),(2,.c (.ptr 10000000 0)),(4,.c (.ptr 10000001 0)),(5,.c (.own 10000002 false)),(6,.c (.int .i64 i))],[(0,.sl 89 y6_ o0 .shallow),(1,.sl 96 y9_ o1 .shallow),(10000000,.rc [.own 0 false,.own 1 false,.int .i64 s_2]),(10000001,.rc [.nil,.nil,.int .i64 (0:Int)]),(10000002,.sl 3 y0_ lits .shallow)]))) (f:=Zcw s_2 decisions o0 o1) (K:=(fun r=>k (.agg [.own 901 false,.own 902 false,.int .i64 r.1]) [(0,.dead),(1,.dead),(900,.rc [.own 901 false,.own 902 false,.int .i64 r.1]),(901,.sl 89 y6_ r.2.1 .shallow),(902,.sl 96 y9_ r.2.2 .shallow)])) he (Za [(10000000,2),(10000001,4),(10000002,9)] rfl rfl ⟨Y2,Y2,⟨Y3,Y3,rfl,Y1⟩,⟨rfl,rfl,rfl,Y1⟩,Y2,Y1⟩ ⟨.inl rfl,⟨Y2,rfl⟩,⟨Y2,rfl⟩,Y3,rfl,Y1⟩) ?_
  rintro⟨i,lits⟩ J1 he
  refine Zh he (fun he=>?_) fun he=>?_
  ·refine Zc he fun he=>?_
   refine Zc he fun he=>?_
   refine Zc he fun he=>?_
   refine Zc he fun he=>?_
   have he:=Zb he
   exact⟨((i+(1:Int)),(lits++[(0 - (decisions.getD i.toNat 0))])),he,(Za [(10000002,23)] rfl rfl ⟨Y2,Y2,⟨Y3,Y3,rfl,Y1⟩,⟨rfl,rfl,rfl,Y1⟩,Y2,Y1⟩ ⟨.inl rfl,⟨Y2,rfl⟩,⟨Y2,rfl⟩,Y3,rfl,Y1⟩)⟩
  ·exact⟨lits,ZbH he,(Za [(10001000,10000000),(10001001,10000001),(10001002,10000002)] rfl rfl ⟨Y2,Y2,⟨Y3,Y3,rfl,Y1⟩,⟨rfl,rfl,rfl,Y1⟩,Y2,Y1⟩ ⟨⟨Y2,rfl⟩,⟨Y2,rfl⟩,Y3,Y1⟩)⟩
def Zmi:Con:=fun args st=>match args,st with
  |[.c (.imm (.int .i64) p)],[]=>.opt (Int) (Zgh p) (fun r=>.ret (.c (.int .i64 r)) [])
  |_,_=>.fail
def Zs6:Cfg:={ y:=tys,n:=17,h:=0,tab:=[],cut:=[],hand:=[],good:=[],deep:=[],sched:=[] }
theorem Ztl:Zs Tryz.prog Zs6:=Zn (fun p h=>by cases h)
theorem Zte:Zq Tryz.prog 197 Zmi:=by
 refine Zm (C:=Zs6) mixed Ze Ztl (fn:=Tryz.f197) (c:=bd Tryz.f197) (by kernel_rfl) (by kernel_rfl) (by kernel_rfl) (by kernel_rfl) ?_
 intro args st k he
 unfold Zmi at he
 split at he
 rotate_left
 ·exact he.elim
 rename_i p
 have he:Ok (Zgh p) (fun r=>k (.c (.int .i64 r)) []):=he
 refine⟨rfl,rfl,?_⟩
 refine Zl mixed Ze Ztl (S:=Int) (I:=(fun i=>(Zo [(0,.c (.imm y0_ p)),(3,.c (.int .i64 i))],[]))) (f:=Zis p) (K:=(fun r=>k (.c (.int .i64 r)) [])) he (Za [] rfl rfl trivial ⟨.inl rfl,rfl,Y1⟩) ?_
 rintro i J1 he
 refine Zh he (fun he=>?_) fun he=>?_
 ·refine Zc he fun he=>?_
  refine Zh he (fun he=>?_) fun he=>?_
  ·refine Zc he fun he=>?_
   have he:=Zb he
   exact⟨rfl,_,_,Leads.refl _ _,he⟩
  ·refine Zc he fun he=>?_
   have he:=Zb he
   exact⟨(i+(1:Int)),he,(Za [] rfl rfl trivial ⟨.inl rfl,rfl,Y1⟩)⟩
 ·have he:=Zb he
  exact⟨rfl,_,_,Leads.refl _ _,he⟩
def Zcu (n_:Nat):Con:=fun args st=>match args,st with
  |[.agg [.own 0 false,.own 1 false,.int .i64 a0_2],.c (.imm (.int .i64) a1)],[(0,.sl 89 (.pair (.sl (.pair (.int .i64) (.int .i64))) (.int .i64)) o0 .shallow),(1,.sl 96 (.pair (.int .i64) (.pair (.int .i64) (.pair (.int .i64) (.pair (.sl (.pair (.int .i64) (.int .i64))) (.int .i64))))) o1 .shallow)]=>.opt (Int×Int×(List Bool)×(List D6_)×(List D9_)) (ZR n_ a0_2 a1 o0 o1) (fun r=>.ret (.tup [.agg [.own 902 false,.own 903 false,.int .i64 r.2.1],.c (.int .i64 r.1),.c (.own 901 false)]) [(0,.dead),(1,.dead),(900,.rc [.own 902 false,.own 903 false,.int .i64 r.2.1]),(901,.sl 4 .bool r.2.2.1 .shallow),(902,.sl 89 y6_ r.2.2.2.1 .shallow),(903,.sl 96 y9_ r.2.2.2.2 .shallow)])
  |_,_=>.fail
def ZjM (n_:Nat):Cfg:={ y:=tys,n:=112,h:=2,tab:=[(135,Zcu n_),(194,Zhr),(195,Zhs),(196,Zht),(197,Zmi)],cut:=[9,18,25,28],hand:=[(135,[0]),(194,[0]),(195,[1]),(196,[0])],good:=[],deep:=[],sched:=[(24,(.first 2 (.first 4 (.alt 0 (.alt 1 (.alt 3 (.alt 5 (.alt 6 (.alt 7 (.first 8 (.first 9 (.first 10 (.first 11 (.alt 12 (.first 13 (.first 14 .done)) .stop))))) .stop) .stop) .stop) (.alt 5 (.alt 3 (.alt 6 (.alt 7 (.first 8 (.first 9 (.first 10 (.first 11 (.alt 12 (.first 13 (.first 14 .done)) .stop))))) .stop) .stop) .stop) .stop)) (.alt 5 (.alt 1 (.alt 3 (.alt 6 (.alt 7 (.first 8 (.first 9 (.first 10 (.first 11 (.alt 12 (.first 13 (.first 14 .done)) .stop))))) .stop) .stop) .stop) .stop) .stop)) (.alt 1 (.alt 0 (.alt 3 (.alt 5 (.alt 6 (.alt 7 (.first 8 (.first 9 (.first 10 (.first 11 (.alt 12 (.first 13 (.first 14 .done)) .stop))))) .stop) .stop) .stop) (.alt 5 (.alt 3 (.alt 6 (.alt 7 (.first 8 (.first 9 (.first 10 (.first 11 (.alt 12 (.first 13 (.first 14 .done)) .stop))))) .stop) .stop) .stop) .stop)) (.alt 3 (.alt 0 (.alt 5 (.alt 6 (.alt 7 (.first 8 (.first 9 (.first 10 (.first 11 (.alt 12 (.first 13 (.first 14 .done)) .stop))))) .stop) .stop) .stop) (.alt 5 (.alt 0 (.alt 6 (.alt 7 (.first 8 (.first 9 (.first 10 (.first 11 (.alt 12 (.first 13 (.first 14 .done)) .stop))))) .stop) .stop) (.alt 6 (.alt 0 (.alt 7 (.first 8 (.first 9 (.first 10 (.first 11 (.alt 12 (.first 13 (.first 14 .done)) .stop))))) .stop) .stop) .stop)) .stop)) (.alt 5 (.alt 0 (.alt 3 (.alt 6 (.alt 7 (.first 8 (.first 9 (.first 10 (.first 11 (.alt 12 (.first 13 (.first 14 .done)) .stop))))) .stop) .stop) .stop) (.alt 3 (.alt 0 (.alt 6 (.alt 7 (.first 8 (.first 9 (.first 10 (.first 11 (.alt 12 (.first 13 (.first 14 .done)) .stop))))) .stop) .stop) (.alt 6 (.alt 0 (.alt 7 (.first 8 (.first 9 (.first 10 (.first 11 (.alt 12 (.first 13 (.first 14 .done)) .stop))))) .stop) .stop) .stop)) .stop)) .stop))) (.alt 5 (.alt 0 (.alt 1 (.alt 3 (.alt 6 (.alt 7 (.first 8 (.first 9 (.first 10 (.first 11 (.alt 12 (.first 13 (.first 14 .done)) .stop))))) .stop) .stop) .stop) .stop) (.alt 1 (.alt 0 (.alt 3 (.alt 6 (.alt 7 (.first 8 (.first 9 (.first 10 (.first 11 (.alt 12 (.first 13 (.first 14 .done)) .stop))))) .stop) .stop) .stop) (.alt 3 (.alt 0 (.alt 6 (.alt 7 (.first 8 (.first 9 (.first 10 (.first 11 (.alt 12 (.first 13 (.first 14 .done)) .stop))))) .stop) .stop) (.alt 6 (.alt 0 (.alt 7 (.first 8 (.first 9 (.first 10 (.first 11 (.alt 12 (.first 13 (.first 14 .done)) .stop))))) .stop) .stop) .stop)) .stop)) .stop)) .stop))))))],nils:=[135,196] }
theorem Zcx (n_:Nat) (ih:Zq Tryz.prog 135 (Zcu n_)):Zs Tryz.prog (ZjM n_):=by
  refine Zn ?_
  simp only[ZjM,List.forall_mem_cons]
  exact⟨ih,ZnH,Zo8,Zo9,Zte,fun p h=>by cases h⟩
theorem Zqt (n_:Nat) (ih:Zq Tryz.prog 135 (Zcu n_)):Zq Tryz.prog 135 (Zcu (n_+1)):=by
 refine Zm (C:=(ZjM n_)) mixed Ze (Zcx n_ ih) (fn:=Tryz.f135) (c:=bd Tryz.f135) (by kernel_rfl) (by kernel_rfl) (by kernel_rfl) (by kernel_rfl) ?_
 intro args st k he
 unfold Zcu at he
 split at he
 rotate_left
 ·exact he.elim
 rename_i a0_2 a1 o0 o1
 have he:Ok (Z7 (ZR n_) a0_2 a1 o0 o1) (fun r=>k (.tup [.agg [.own 902 false,.own 903 false,.int .i64 r.2.1],.c (.int .i64 r.1),.c (.own 901 false)]) [(0,.dead),(1,.dead),(900,.rc [.own 902 false,.own 903 false,.int .i64 r.2.1]),(901,.sl 4 .bool r.2.2.1 .shallow),(902,.sl 89 y6_ r.2.2.2.1 .shallow),(903,.sl 96 y9_ r.2.2.2.2 .shallow)]):=he
 refine⟨rfl,rfl,?_⟩
 refine ZK he (fun he=>?_) fun he=>?_
 ·refine Zh he (fun he=>?_) fun he=>?_
  ·have he:=Zb he
   exact⟨rfl,_,_,(Za [(900,4),(901,26),(902,0),(903,1)] (l:=[(4,.c (.ptr 900 0)),(5,.c (.int .i64 (0:Int))),(6,.c (.own 901 false))]) (st':=[(0,.dead),(1,.dead),(900,.rc [.own 902 false,.own 903 false,.int .i64 a0_2]),(901,.sl 4 .bool ([]:List Bool) .shallow),(902,.sl 89 y6_ o0 .shallow),(903,.sl 96 y9_ o1 .shallow)]) rfl rfl ⟨Y1,Y1,⟨Y3,Y3,rfl,Y1⟩,Y2,Y2,Y2,Y1⟩ ⟨⟨Y2,rfl⟩,rfl,Y3,Y1⟩),he⟩
  ·refine Zc he fun he=>?_
   refine Zc he fun he=>?_
   refine Zt mixed Ze (Zcx n_ ih) (S:=(List Int)) (I:=(fun i2=>(Zo [(1,.c (.imm y0_ a1)),(2,.c (.ptr 10001000 0)),(4,.c (.ptr 10001001 0)),(7,.c (.own 10001002 false))],[(0,.sl 89 y6_ o0 .shallow),(1,.sl 96 y9_ o1 .shallow),(10001000,.rc [.own 0 false,.own 1 false,.int .i64 (a0_2 - (1:Int))]),(10001001,.rc [.nil,.nil,.int .i64 (0:Int)]),(10001002,.sl 3 y0_ i2 .shallow)]))) (B:=fun s=>Ok (ZbT a0_2 a1 o0 o1 (ZR n_) s) (fun r=>k (.tup [.agg [.own 902 false,.own 903 false,.int .i64 r.2.1],.c (.int .i64 r.1),.c (.own 901 false)]) [(0,.dead),(1,.dead),(900,.rc [.own 902 false,.own 903 false,.int .i64 r.2.1]),(901,.sl 4 .bool r.2.2.1 .shallow),(902,.sl 89 y6_ r.2.2.2.1 .shallow),(903,.sl 96 y9_ r.2.2.2.2 .shallow)])) ?_ ?_
   ·rintro i2 he
    refine Zk he fun r3_ he=>?_
    refine Zh he (fun he=>?_) fun he=>?_
    ·refine Zk he fun r4_ he=>?_
     have he:=Zb he
     exact⟨rfl,_,_,(Za [(900,10001001),(901,52),(902,52901),(903,52902)] (l:=[(4,.c (.ptr 900 0)),(5,.c (.int .i64 (2:Int))),(6,.c (.own 901 false))]) (st':=[(0,.dead),(1,.dead),(900,.rc [.own 902 false,.own 903 false,.int .i64 r4_.1]),(901,.sl 4 .bool ([]:List Bool) .shallow),(902,.sl 89 y6_ r4_.2.1 .shallow),(903,.sl 96 y9_ r4_.2.2 .shallow)]) rfl rfl ⟨Y1,Y1,⟨Y3,Y3,rfl,Y1⟩,Y2,Y2,Y2,Y1⟩ ⟨⟨Y2,rfl⟩,rfl,Y3,Y1⟩),he⟩
    ·refine Zk he fun r5_ he=>?_
     refine Zh he (fun he=>?_) fun he=>?_
     ·refine Zt mixed Ze (Zcx n_ ih) (S:=(List Bool)) (I:=(fun i5=>(Zo [(2,.c (.ptr 10003000 0)),(4,.c (.ptr 10003001 0)),(10,.c (.own 10003002 false))],[(0,.sl 89 y6_ o0 .shallow),(1,.sl 96 y9_ o1 .shallow),(10003000,.rc [.own 0 false,.own 1 false,.int .i64 (a0_2 - (1:Int))]),(10003001,.rc [.nil,.nil,.int .i64 (0:Int)]),(10003002,.sl 4 .bool i5 .shallow)]))) (B:=fun s=>Ok (Zi8 a0_2 o0 o1 s) (fun r=>k (.tup [.agg [.own 902 false,.own 903 false,.int .i64 r.2.1],.c (.int .i64 r.1),.c (.own 901 false)]) [(0,.dead),(1,.dead),(900,.rc [.own 902 false,.own 903 false,.int .i64 r.2.1]),(901,.sl 4 .bool r.2.2.1 .shallow),(902,.sl 89 y6_ r.2.2.2.1 .shallow),(903,.sl 96 y9_ r.2.2.2.2 .shallow)])) ?_ ?_
      ·rintro i5 he
       have he:=Zb he
       exact⟨rfl,_,_,(Za [(900,10003001),(901,10003002),(902,0),(903,1)] (l:=[(4,.c (.ptr 900 0)),(5,.c (.int .i64 (1:Int))),(6,.c (.own 901 false))]) (st':=[(0,.dead),(1,.dead),(900,.rc [.own 902 false,.own 903 false,.int .i64 (a0_2 - (1:Int))]),(901,.sl 4 .bool i5 .shallow),(902,.sl 89 y6_ o0 .shallow),(903,.sl 96 y9_ o1 .shallow)]) rfl rfl ⟨Y1,Y1,⟨Y3,Y3,rfl,Y1⟩,Y2,Y2,Y2,Y1⟩ ⟨⟨Y2,rfl⟩,rfl,Y3,Y1⟩),he⟩
      ·skip
       refine Zl mixed Ze (Zcx n_ ih) (S:=Int×(List Bool)) (I:=(fun (i3,i4)=>(Zo [(2,.c (.ptr 10002000 0)),(4,.c (.ptr 10002001 0)),(7,.c (.own 10002002 false)),(10,.c (.own 10002003 false)),(11,.c (.int .i64 i3))],[(0,.sl 89 y6_ o0 .shallow),(1,.sl 96 y9_ o1 .shallow),(10002000,.rc [.own 0 false,.own 1 false,.int .i64 (a0_2 - (1:Int))]),(10002001,.rc [.nil,.nil,.int .i64 (0:Int)]),(10002002,.sl 3 y0_ r3_.2 .shallow),(10002003,.sl 4 .bool i4 .shallow)]))) (f:=Zck a0_2 o0 o1 r3_) (K:=(fun r=>k (.tup [.agg [.own 902 false,.own 903 false,.int .i64 r.2.1],.c (.int .i64 r.1),.c (.own 901 false)]) [(0,.dead),(1,.dead),(900,.rc [.own 902 false,.own 903 false,.int .i64 r.2.1]),(901,.sl 4 .bool r.2.2.1 .shallow),(902,.sl 89 y6_ r.2.2.2.1 .shallow),(903,.sl 96 y9_ r.2.2.2.2 .shallow)])) he (Za [(10002000,10001000),(10002001,10001001),(10002002,10001002),(10002003,57)] rfl rfl ⟨Y2,Y2,⟨Y3,Y3,rfl,Y1⟩,⟨rfl,rfl,rfl,Y1⟩,Y2,Y2,Y1⟩ ⟨⟨Y2,rfl⟩,⟨Y2,rfl⟩,Y3,Y3,rfl,Y1⟩) ?_
       rintro⟨i3,i4⟩ J1 he
       refine Zh he (fun he=>?_) fun he=>?_
       ·refine Zc he fun he=>?_
        refine Zc he fun he=>?_
        refine Zc he fun he=>?_
        have he:=Zb he
        exact⟨((i3+(1:Int)),(i4++[(decide ((0:Int)<(r3_.2.getD i3.toNat 0)))])),he,(Za [(10002003,71)] rfl rfl ⟨Y2,Y2,⟨Y3,Y3,rfl,Y1⟩,⟨rfl,rfl,rfl,Y1⟩,Y2,Y2,Y1⟩ ⟨⟨Y2,rfl⟩,⟨Y2,rfl⟩,Y3,Y3,rfl,Y1⟩)⟩
       ·exact⟨i4,ZbH he,(Za [(10003000,10002000),(10003001,10002001),(10003002,10002003)] rfl rfl ⟨Y2,Y2,⟨Y3,Y3,rfl,Y1⟩,⟨rfl,rfl,rfl,Y1⟩,Y2,Y1⟩ ⟨⟨Y2,rfl⟩,⟨Y2,rfl⟩,Y3,Y1⟩)⟩
     ·refine Zt mixed Ze (Zcx n_ ih) (S:=Int×(List D6_)×(List D9_)) (I:=(fun (i_23,i_03,i_13)=>(Zo [(1,.c (.imm y0_ a1)),(2,.c (.ptr 10007000 0)),(4,.c (.ptr 10007001 0))],[(0,.dead),(1,.dead),(10007000,.rc [.own 10007002 false,.own 10007003 false,.int .i64 i_23]),(10007001,.rc [.nil,.nil,.int .i64 (0:Int)]),(10007002,.sl 89 y6_ i_03 .shallow),(10007003,.sl 96 y9_ i_13 .shallow)]))) (B:=fun s=>Ok (Zf8 a1 s) (fun r=>k (.tup [.agg [.own 902 false,.own 903 false,.int .i64 r.2.1],.c (.int .i64 r.1),.c (.own 901 false)]) [(0,.dead),(1,.dead),(900,.rc [.own 902 false,.own 903 false,.int .i64 r.2.1]),(901,.sl 4 .bool r.2.2.1 .shallow),(902,.sl 89 y6_ r.2.2.2.1 .shallow),(903,.sl 96 y9_ r.2.2.2.2 .shallow)])) ?_ ?_
      ·rintro⟨i_23,i_03,i_13⟩ he
       refine Zh he (fun he=>?_) fun he=>?_
       ·have he:=Zb he
        exact⟨rfl,_,_,(Za [(900,10007001),(901,107),(902,10007002),(903,10007003)] (l:=[(4,.c (.ptr 900 0)),(5,.c (.int .i64 (0:Int))),(6,.c (.own 901 false))]) (st':=[(0,.dead),(1,.dead),(900,.rc [.own 902 false,.own 903 false,.int .i64 i_23]),(901,.sl 4 .bool ([]:List Bool) .shallow),(902,.sl 89 y6_ i_03 .shallow),(903,.sl 96 y9_ i_13 .shallow)]) rfl rfl ⟨Y1,Y1,⟨Y3,Y3,rfl,Y1⟩,Y2,Y2,Y2,Y1⟩ ⟨⟨Y2,rfl⟩,rfl,Y3,Y1⟩),he⟩
       ·refine Zk he fun r9_ he=>?_
        have he:=Zb he
        exact⟨rfl,_,_,(Za [(900,10007001),(901,111),(902,111901),(903,111902)] (l:=[(4,.c (.ptr 900 0)),(5,.c (.int .i64 (2:Int))),(6,.c (.own 901 false))]) (st':=[(0,.dead),(1,.dead),(900,.rc [.own 902 false,.own 903 false,.int .i64 r9_.1]),(901,.sl 4 .bool ([]:List Bool) .shallow),(902,.sl 89 y6_ r9_.2.1 .shallow),(903,.sl 96 y9_ r9_.2.2 .shallow)]) rfl rfl ⟨Y1,Y1,⟨Y3,Y3,rfl,Y1⟩,Y2,Y2,Y2,Y1⟩ ⟨⟨Y2,rfl⟩,rfl,Y3,Y1⟩),he⟩
      ·skip
       refine Zc he fun he=>?_
       refine Zl mixed Ze (Zcx n_ ih) (S:=Int×Int×(List D6_)×(List D9_)) (I:=(fun (i6,i_21,i_01,i_11)=>(Zo [(1,.c (.imm y0_ a1)),(2,.c (.ptr 10004000 0)),(4,.c (.ptr 10004001 0)),(77,.c (.own 10004002 false)),(78,.c (.int .i64 ([r5_,(0 - r5_)].length:Int))),(79,.c (.int .i64 i6))],[(0,.dead),(1,.dead),(10004000,.rc [.own 10004003 false,.own 10004004 false,.int .i64 i_21]),(10004001,.rc [.nil,.nil,.int .i64 (0:Int)]),(10004002,.sl 3 y0_ [r5_,(0 - r5_)] .shallow),(10004003,.sl 89 y6_ i_01 .shallow),(10004004,.sl 96 y9_ i_11 .shallow)]))) (f:=ZdA a1 r5_ (ZR n_)) (K:=(fun r=>k (.tup [.agg [.own 902 false,.own 903 false,.int .i64 r.2.1],.c (.int .i64 r.1),.c (.own 901 false)]) [(0,.dead),(1,.dead),(900,.rc [.own 902 false,.own 903 false,.int .i64 r.2.1]),(901,.sl 4 .bool r.2.2.1 .shallow),(902,.sl 89 y6_ r.2.2.2.1 .shallow),(903,.sl 96 y9_ r.2.2.2.2 .shallow)])) he (Za [(10004000,10001000),(10004001,10001001),(10004002,77),(10004003,0),(10004004,1)] rfl rfl ⟨Y1,Y1,⟨Y3,Y3,rfl,Y1⟩,⟨rfl,rfl,rfl,Y1⟩,Y2,Y2,Y2,Y1⟩ ⟨.inl rfl,⟨Y2,rfl⟩,⟨Y2,rfl⟩,Y3,rfl,rfl,Y1⟩) ?_
       rintro⟨i6,i_21,i_01,i_11⟩ J1 he
       refine Zh he (fun he=>?_) fun he=>?_
       ·refine Zc he fun he=>?_
        refine Zt mixed Ze (Zcx n_ ih) (S:=Int×Int×(List Bool)×(List D6_)×(List D9_)) (I:=(fun (i9,i_22,i10,i_02,i_12)=>(Zo [(1,.c (.imm y0_ a1)),(2,.c (.ptr 10006000 0)),(4,.c (.ptr 10006001 0)),(14,.c (.int .i64 i9)),(15,.c (.own 10006002 false)),(77,.c (.own 10006003 false)),(78,.c (.int .i64 ([r5_,(0 - r5_)].length:Int))),(79,.c (.int .i64 i6))],[(0,.dead),(1,.dead),(10006000,.rc [.own 10006004 false,.own 10006005 false,.int .i64 i_22]),(10006001,.rc [.nil,.nil,.int .i64 (0:Int)]),(10006002,.sl 4 .bool i10 .shallow),(10006003,.sl 3 y0_ [r5_,(0 - r5_)] .shallow),(10006004,.sl 89 y6_ i_02 .shallow),(10006005,.sl 96 y9_ i_12 .shallow)]))) (B:=fun s=>Ok (Zf9 i6 s) (LK J1 (fun r=>k (.tup [.agg [.own 902 false,.own 903 false,.int .i64 r.2.1],.c (.int .i64 r.1),.c (.own 901 false)]) [(0,.dead),(1,.dead),(900,.rc [.own 902 false,.own 903 false,.int .i64 r.2.1]),(901,.sl 4 .bool r.2.2.1 .shallow),(902,.sl 89 y6_ r.2.2.2.1 .shallow),(903,.sl 96 y9_ r.2.2.2.2 .shallow)]))) ?_ ?_
        ·rintro⟨i9,i_22,i10,i_02,i_12⟩ he
         refine Zh he (fun he=>?_) fun he=>?_
         ·have he:=Zb he
          exact⟨rfl,_,_,(Za [(900,10006001),(901,10006002),(902,10006004),(903,10006005)] (l:=[(4,.c (.ptr 900 0)),(5,.c (.int .i64 i9)),(6,.c (.own 901 false))]) (st':=[(0,.dead),(1,.dead),(900,.rc [.own 902 false,.own 903 false,.int .i64 i_22]),(901,.sl 4 .bool i10 .shallow),(902,.sl 89 y6_ i_02 .shallow),(903,.sl 96 y9_ i_12 .shallow)]) rfl rfl ⟨Y1,Y1,⟨Y3,Y3,rfl,Y1⟩,Y2,Y2,Y2,Y1⟩ ⟨⟨Y2,rfl⟩,rfl,Y3,Y1⟩),he⟩
         ·refine Zc he fun he=>?_
          have he:=Zb he
          exact⟨((i6+(1:Int)),i_22,i_02,i_12),he,(Za [(10004000,10006000),(10004001,10006001),(10004002,10006003),(10004003,10006004),(10004004,10006005)] rfl rfl ⟨Y1,Y1,⟨Y3,Y3,rfl,Y1⟩,⟨rfl,rfl,rfl,Y1⟩,Y2,Y2,Y2,Y1⟩ ⟨.inl rfl,⟨Y2,rfl⟩,⟨Y2,rfl⟩,Y3,rfl,rfl,Y1⟩)⟩
        ·skip
         refine And.intro (by kernel_rfl) ?_
         have he:=ZU he
         have hq1:=he.1
         have he:=he.2
         have he:=ZU he
         have hq2:=he.1
         have he:=he.2
         obtain⟨r8_,hq3,he⟩:=Zb1 he
         refine And.intro ?_ (And.intro ?_ (And.intro ?_ (Y1)))
         ·skip
          refine Y5 ?_ ?_
          ·skip
           refine Y5 ?_ ?_
           ·skip
            refine And.intro hq1 ?_
            refine Y4 ?_
            refine Y4 ?_
            refine And.intro hq2 ?_
            refine Y4 ?_
            refine⟨r8_,hq3,?_⟩
            refine Y4 ?_
            exact⟨(r8_.1,r8_.2.1,r8_.2.2.1,r8_.2.2.2.1,r8_.2.2.2.2),he,(Za [(10006000,10004000),(10006001,10004001),(10006002,93901),(10006003,10004002),(10006004,93902),(10006005,93903)] rfl rfl ⟨Y1,Y1,⟨Y3,Y3,rfl,Y1⟩,⟨rfl,rfl,rfl,Y1⟩,Y2,Y2,Y2,Y2,Y1⟩ ⟨.inl rfl,⟨Y2,rfl⟩,⟨Y2,rfl⟩,rfl,Y3,Y3,rfl,rfl,Y1⟩)⟩
           ·skip
            refine Y4 ?_
            refine And.intro hq1 ?_
            refine Y4 ?_
            refine And.intro hq2 ?_
            refine Y4 ?_
            refine⟨r8_,hq3,?_⟩
            refine Y4 ?_
            exact⟨(r8_.1,r8_.2.1,r8_.2.2.1,r8_.2.2.2.1,r8_.2.2.2.2),he,(Za [(10006000,10004000),(10006001,10004001),(10006002,93901),(10006003,10004002),(10006004,93902),(10006005,93903)] rfl rfl ⟨Y1,Y1,⟨Y3,Y3,rfl,Y1⟩,⟨rfl,rfl,rfl,Y1⟩,Y2,Y2,Y2,Y2,Y1⟩ ⟨.inl rfl,⟨Y2,rfl⟩,⟨Y2,rfl⟩,rfl,Y3,Y3,rfl,rfl,Y1⟩)⟩
          ·skip
           refine Y4 ?_
           refine Y4 ?_
           refine And.intro hq1 ?_
           refine Y4 ?_
           refine And.intro hq2 ?_
           refine Y4 ?_
           refine⟨r8_,hq3,?_⟩
           refine Y4 ?_
           exact⟨(r8_.1,r8_.2.1,r8_.2.2.1,r8_.2.2.2.1,r8_.2.2.2.2),he,(Za [(10006000,10004000),(10006001,10004001),(10006002,93901),(10006003,10004002),(10006004,93902),(10006005,93903)] rfl rfl ⟨Y1,Y1,⟨Y3,Y3,rfl,Y1⟩,⟨rfl,rfl,rfl,Y1⟩,Y2,Y2,Y2,Y2,Y1⟩ ⟨.inl rfl,⟨Y2,rfl⟩,⟨Y2,rfl⟩,rfl,Y3,Y3,rfl,rfl,Y1⟩)⟩
         ·skip
          refine And.intro ?_ (And.intro ?_ (And.intro ?_ (Y1)))
          ·skip
           refine Y5 ?_ ?_
           ·skip
            refine And.intro hq1 ?_
            refine Y4 ?_
            refine Y4 ?_
            refine And.intro hq2 ?_
            refine Y4 ?_
            refine⟨r8_,hq3,?_⟩
            refine Y4 ?_
            exact⟨(r8_.1,r8_.2.1,r8_.2.2.1,r8_.2.2.2.1,r8_.2.2.2.2),he,(Za [(10006000,10004000),(10006001,10004001),(10006002,93901),(10006003,10004002),(10006004,93902),(10006005,93903)] rfl rfl ⟨Y1,Y1,⟨Y3,Y3,rfl,Y1⟩,⟨rfl,rfl,rfl,Y1⟩,Y2,Y2,Y2,Y2,Y1⟩ ⟨.inl rfl,⟨Y2,rfl⟩,⟨Y2,rfl⟩,rfl,Y3,Y3,rfl,rfl,Y1⟩)⟩
           ·skip
            refine Y4 ?_
            refine And.intro hq1 ?_
            refine Y4 ?_
            refine And.intro hq2 ?_
            refine Y4 ?_
            refine⟨r8_,hq3,?_⟩
            refine Y4 ?_
            exact⟨(r8_.1,r8_.2.1,r8_.2.2.1,r8_.2.2.2.1,r8_.2.2.2.2),he,(Za [(10006000,10004000),(10006001,10004001),(10006002,93901),(10006003,10004002),(10006004,93902),(10006005,93903)] rfl rfl ⟨Y1,Y1,⟨Y3,Y3,rfl,Y1⟩,⟨rfl,rfl,rfl,Y1⟩,Y2,Y2,Y2,Y2,Y1⟩ ⟨.inl rfl,⟨Y2,rfl⟩,⟨Y2,rfl⟩,rfl,Y3,Y3,rfl,rfl,Y1⟩)⟩
          ·skip
           refine And.intro hq1 ?_
           refine Y5 ?_ ?_
           ·skip
            refine Y4 ?_
            refine Y4 ?_
            refine And.intro hq2 ?_
            refine Y4 ?_
            refine⟨r8_,hq3,?_⟩
            refine Y4 ?_
            exact⟨(r8_.1,r8_.2.1,r8_.2.2.1,r8_.2.2.2.1,r8_.2.2.2.2),he,(Za [(10006000,10004000),(10006001,10004001),(10006002,93901),(10006003,10004002),(10006004,93902),(10006005,93903)] rfl rfl ⟨Y1,Y1,⟨Y3,Y3,rfl,Y1⟩,⟨rfl,rfl,rfl,Y1⟩,Y2,Y2,Y2,Y2,Y1⟩ ⟨.inl rfl,⟨Y2,rfl⟩,⟨Y2,rfl⟩,rfl,Y3,Y3,rfl,rfl,Y1⟩)⟩
           ·skip
            refine Y5 ?_ ?_
            ·skip
             refine Y4 ?_
             refine And.intro hq2 ?_
             refine Y4 ?_
             refine⟨r8_,hq3,?_⟩
             refine Y4 ?_
             exact⟨(r8_.1,r8_.2.1,r8_.2.2.1,r8_.2.2.2.1,r8_.2.2.2.2),he,(Za [(10006000,10004000),(10006001,10004001),(10006002,93901),(10006003,10004002),(10006004,93902),(10006005,93903)] rfl rfl ⟨Y1,Y1,⟨Y3,Y3,rfl,Y1⟩,⟨rfl,rfl,rfl,Y1⟩,Y2,Y2,Y2,Y2,Y1⟩ ⟨.inl rfl,⟨Y2,rfl⟩,⟨Y2,rfl⟩,rfl,Y3,Y3,rfl,rfl,Y1⟩)⟩
            ·skip
             refine And.intro hq2 ?_
             refine Y4 ?_
             refine Y4 ?_
             refine⟨r8_,hq3,?_⟩
             refine Y4 ?_
             exact⟨(r8_.1,r8_.2.1,r8_.2.2.1,r8_.2.2.2.1,r8_.2.2.2.2),he,(Za [(10006000,10004000),(10006001,10004001),(10006002,93901),(10006003,10004002),(10006004,93902),(10006005,93903)] rfl rfl ⟨Y1,Y1,⟨Y3,Y3,rfl,Y1⟩,⟨rfl,rfl,rfl,Y1⟩,Y2,Y2,Y2,Y2,Y1⟩ ⟨.inl rfl,⟨Y2,rfl⟩,⟨Y2,rfl⟩,rfl,Y3,Y3,rfl,rfl,Y1⟩)⟩
          ·skip
           refine Y5 ?_ ?_
           ·skip
            refine Y4 ?_
            refine And.intro hq1 ?_
            refine Y4 ?_
            refine And.intro hq2 ?_
            refine Y4 ?_
            refine⟨r8_,hq3,?_⟩
            refine Y4 ?_
            exact⟨(r8_.1,r8_.2.1,r8_.2.2.1,r8_.2.2.2.1,r8_.2.2.2.2),he,(Za [(10006000,10004000),(10006001,10004001),(10006002,93901),(10006003,10004002),(10006004,93902),(10006005,93903)] rfl rfl ⟨Y1,Y1,⟨Y3,Y3,rfl,Y1⟩,⟨rfl,rfl,rfl,Y1⟩,Y2,Y2,Y2,Y2,Y1⟩ ⟨.inl rfl,⟨Y2,rfl⟩,⟨Y2,rfl⟩,rfl,Y3,Y3,rfl,rfl,Y1⟩)⟩
           ·skip
            refine And.intro hq1 ?_
            refine Y5 ?_ ?_
            ·skip
             refine Y4 ?_
             refine And.intro hq2 ?_
             refine Y4 ?_
             refine⟨r8_,hq3,?_⟩
             refine Y4 ?_
             exact⟨(r8_.1,r8_.2.1,r8_.2.2.1,r8_.2.2.2.1,r8_.2.2.2.2),he,(Za [(10006000,10004000),(10006001,10004001),(10006002,93901),(10006003,10004002),(10006004,93902),(10006005,93903)] rfl rfl ⟨Y1,Y1,⟨Y3,Y3,rfl,Y1⟩,⟨rfl,rfl,rfl,Y1⟩,Y2,Y2,Y2,Y2,Y1⟩ ⟨.inl rfl,⟨Y2,rfl⟩,⟨Y2,rfl⟩,rfl,Y3,Y3,rfl,rfl,Y1⟩)⟩
            ·skip
             refine And.intro hq2 ?_
             refine Y4 ?_
             refine Y4 ?_
             refine⟨r8_,hq3,?_⟩
             refine Y4 ?_
             exact⟨(r8_.1,r8_.2.1,r8_.2.2.1,r8_.2.2.2.1,r8_.2.2.2.2),he,(Za [(10006000,10004000),(10006001,10004001),(10006002,93901),(10006003,10004002),(10006004,93902),(10006005,93903)] rfl rfl ⟨Y1,Y1,⟨Y3,Y3,rfl,Y1⟩,⟨rfl,rfl,rfl,Y1⟩,Y2,Y2,Y2,Y2,Y1⟩ ⟨.inl rfl,⟨Y2,rfl⟩,⟨Y2,rfl⟩,rfl,Y3,Y3,rfl,rfl,Y1⟩)⟩
         ·skip
          refine Y5 ?_ ?_
          ·skip
           refine Y4 ?_
           refine Y4 ?_
           refine And.intro hq1 ?_
           refine Y4 ?_
           refine And.intro hq2 ?_
           refine Y4 ?_
           refine⟨r8_,hq3,?_⟩
           refine Y4 ?_
           exact⟨(r8_.1,r8_.2.1,r8_.2.2.1,r8_.2.2.2.1,r8_.2.2.2.2),he,(Za [(10006000,10004000),(10006001,10004001),(10006002,93901),(10006003,10004002),(10006004,93902),(10006005,93903)] rfl rfl ⟨Y1,Y1,⟨Y3,Y3,rfl,Y1⟩,⟨rfl,rfl,rfl,Y1⟩,Y2,Y2,Y2,Y2,Y1⟩ ⟨.inl rfl,⟨Y2,rfl⟩,⟨Y2,rfl⟩,rfl,Y3,Y3,rfl,rfl,Y1⟩)⟩
          ·skip
           refine Y5 ?_ ?_
           ·skip
            refine Y4 ?_
            refine And.intro hq1 ?_
            refine Y4 ?_
            refine And.intro hq2 ?_
            refine Y4 ?_
            refine⟨r8_,hq3,?_⟩
            refine Y4 ?_
            exact⟨(r8_.1,r8_.2.1,r8_.2.2.1,r8_.2.2.2.1,r8_.2.2.2.2),he,(Za [(10006000,10004000),(10006001,10004001),(10006002,93901),(10006003,10004002),(10006004,93902),(10006005,93903)] rfl rfl ⟨Y1,Y1,⟨Y3,Y3,rfl,Y1⟩,⟨rfl,rfl,rfl,Y1⟩,Y2,Y2,Y2,Y2,Y1⟩ ⟨.inl rfl,⟨Y2,rfl⟩,⟨Y2,rfl⟩,rfl,Y3,Y3,rfl,rfl,Y1⟩)⟩
           ·skip
            refine And.intro hq1 ?_
            refine Y5 ?_ ?_
            ·skip
             refine Y4 ?_
             refine And.intro hq2 ?_
             refine Y4 ?_
             refine⟨r8_,hq3,?_⟩
             refine Y4 ?_
             exact⟨(r8_.1,r8_.2.1,r8_.2.2.1,r8_.2.2.2.1,r8_.2.2.2.2),he,(Za [(10006000,10004000),(10006001,10004001),(10006002,93901),(10006003,10004002),(10006004,93902),(10006005,93903)] rfl rfl ⟨Y1,Y1,⟨Y3,Y3,rfl,Y1⟩,⟨rfl,rfl,rfl,Y1⟩,Y2,Y2,Y2,Y2,Y1⟩ ⟨.inl rfl,⟨Y2,rfl⟩,⟨Y2,rfl⟩,rfl,Y3,Y3,rfl,rfl,Y1⟩)⟩
            ·skip
             refine And.intro hq2 ?_
             refine Y4 ?_
             refine Y4 ?_
             refine⟨r8_,hq3,?_⟩
             refine Y4 ?_
             exact⟨(r8_.1,r8_.2.1,r8_.2.2.1,r8_.2.2.2.1,r8_.2.2.2.2),he,(Za [(10006000,10004000),(10006001,10004001),(10006002,93901),(10006003,10004002),(10006004,93902),(10006005,93903)] rfl rfl ⟨Y1,Y1,⟨Y3,Y3,rfl,Y1⟩,⟨rfl,rfl,rfl,Y1⟩,Y2,Y2,Y2,Y2,Y1⟩ ⟨.inl rfl,⟨Y2,rfl⟩,⟨Y2,rfl⟩,rfl,Y3,Y3,rfl,rfl,Y1⟩)⟩
       ·exact⟨(i_21,i_01,i_11),ZbH he,(Za [(10007000,10004000),(10007001,10004001),(10007002,10004003),(10007003,10004004)] rfl rfl ⟨Y1,Y1,⟨Y3,Y3,rfl,Y1⟩,⟨rfl,rfl,rfl,Y1⟩,Y2,Y2,Y1⟩ ⟨.inl rfl,⟨Y2,rfl⟩,⟨Y2,rfl⟩,Y1⟩)⟩
   ·skip
    refine Zl mixed Ze (Zcx n_ ih) (S:=Int×(List Int)) (I:=(fun (i,i1)=>(Zo [(1,.c (.imm y0_ a1)),(2,.c (.ptr 10000000 0)),(4,.c (.ptr 10000001 0)),(7,.c (.own 10000002 false)),(8,.c (.int .i64 i))],[(0,.sl 89 y6_ o0 .shallow),(1,.sl 96 y9_ o1 .shallow),(10000000,.rc [.own 0 false,.own 1 false,.int .i64 (a0_2 - (1:Int))]),(10000001,.rc [.nil,.nil,.int .i64 (0:Int)]),(10000002,.sl 3 y0_ i1 .shallow)]))) (f:=ZcZ a0_2 a1 o0 o1 (ZR n_)) (K:=(fun r=>k (.tup [.agg [.own 902 false,.own 903 false,.int .i64 r.2.1],.c (.int .i64 r.1),.c (.own 901 false)]) [(0,.dead),(1,.dead),(900,.rc [.own 902 false,.own 903 false,.int .i64 r.2.1]),(901,.sl 4 .bool r.2.2.1 .shallow),(902,.sl 89 y6_ r.2.2.2.1 .shallow),(903,.sl 96 y9_ r.2.2.2.2 .shallow)])) he (Za [(10000000,2),(10000001,4),(10000002,31)] rfl rfl ⟨Y2,Y2,⟨Y3,Y3,rfl,Y1⟩,⟨rfl,rfl,rfl,Y1⟩,Y2,Y1⟩ ⟨.inl rfl,⟨Y2,rfl⟩,⟨Y2,rfl⟩,Y3,rfl,Y1⟩) ?_
    rintro⟨i,i1⟩ J1 he
    refine Zh he (fun he=>?_) fun he=>?_
    ·refine Zc he fun he=>?_
     refine Zk he fun r2_ he=>?_
     refine Zc he fun he=>?_
     have he:=Zb he
     exact⟨((i+(1:Int)),r2_),he,(Za [] rfl rfl ⟨Y2,Y2,⟨Y3,Y3,rfl,Y1⟩,⟨rfl,rfl,rfl,Y1⟩,Y2,Y1⟩ ⟨.inl rfl,⟨Y2,rfl⟩,⟨Y2,rfl⟩,Y3,rfl,Y1⟩)⟩
    ·exact⟨i1,ZbH he,(Za [(10001000,10000000),(10001001,10000001),(10001002,10000002)] rfl rfl ⟨Y2,Y2,⟨Y3,Y3,rfl,Y1⟩,⟨rfl,rfl,rfl,Y1⟩,Y2,Y1⟩ ⟨.inl rfl,⟨Y2,rfl⟩,⟨Y2,rfl⟩,Y3,Y1⟩)⟩
 ·have he:=Zb he
  exact⟨rfl,_,_,(Za [(900,4),(901,26),(902,0),(903,1)] (l:=[(4,.c (.ptr 900 0)),(5,.c (.int .i64 (0:Int))),(6,.c (.own 901 false))]) (st':=[(0,.dead),(1,.dead),(900,.rc [.own 902 false,.own 903 false,.int .i64 a0_2]),(901,.sl 4 .bool ([]:List Bool) .shallow),(902,.sl 89 y6_ o0 .shallow),(903,.sl 96 y9_ o1 .shallow)]) rfl rfl ⟨Y1,Y1,⟨Y3,Y3,rfl,Y1⟩,Y2,Y2,Y2,Y1⟩ ⟨⟨Y2,rfl⟩,rfl,Y3,Y1⟩),he⟩
theorem Zn1:∀n_,Zq Tryz.prog 135 (Zcu n_)
  |0=>by
    refine Zm (C:={ y:=tys,n:=112,h:=2,tab:=[],cut:=[],hand:=[],good:=[],deep:=[],sched:=[] }) mixed Ze (Zn (fun p h=>by cases h)) (fn:=Tryz.f135) (c:=bd Tryz.f135) (by kernel_rfl) (by kernel_rfl) (by kernel_rfl) (by kernel_rfl) ?_
    intro args st k he
    unfold Zcu at he
    split at he
    · obtain⟨x,hx,_⟩:=he
      cases hx
    · exact he.elim
  |n_+1=>Zqt n_ (Zn1 n_)
def ZkL:Con:=fun args st=>match args,st with
  |[.agg [.own 0 false,.nil,.int .i64 a0_2],.c (.imm (.int .i64) a1)],[(0,.sl 89 (.pair (.sl (.pair (.int .i64) (.int .i64))) (.int .i64)) o0 .shallow)]=>.opt (Int×Int×(List Bool)×(List D6_)×(List D9_)) (ZgE a0_2 a1 o0) (fun r=>.ret (.tup [.agg [.own 902 false,.own 903 false,.int .i64 r.2.1],.c (.int .i64 r.1),.c (.own 901 false)]) [(0,.dead),(900,.rc [.own 902 false,.own 903 false,.int .i64 r.2.1]),(901,.sl 4 .bool r.2.2.1 .shallow),(902,.sl 89 y6_ r.2.2.2.1 .shallow),(903,.sl 96 y9_ r.2.2.2.2 .shallow)])
  |_,_=>.fail
def ZkC:Cfg:={ y:=tys,n:=112,h:=1,tab:=[(135,(Zcu 64)),(194,Zhr),(195,Zhs),(196,Zht),(197,Zmi)],cut:=[9,18,25,28],hand:=[(135,[0]),(194,[0]),(195,[1]),(196,[0])],good:=[],deep:=[],sched:=[(24,(.first 2 (.first 4 (.alt 0 (.alt 1 (.alt 3 (.alt 5 (.alt 6 (.alt 7 (.first 8 (.first 9 (.first 10 (.first 11 (.alt 12 (.first 13 (.first 14 .done)) .stop))))) .stop) .stop) .stop) (.alt 5 (.alt 3 (.alt 6 (.alt 7 (.first 8 (.first 9 (.first 10 (.first 11 (.alt 12 (.first 13 (.first 14 .done)) .stop))))) .stop) .stop) .stop) .stop)) (.alt 5 (.alt 1 (.alt 3 (.alt 6 (.alt 7 (.first 8 (.first 9 (.first 10 (.first 11 (.alt 12 (.first 13 (.first 14 .done)) .stop))))) .stop) .stop) .stop) .stop) .stop)) (.alt 1 (.alt 0 (.alt 3 (.alt 5 (.alt 6 (.alt 7 (.first 8 (.first 9 (.first 10 (.first 11 (.alt 12 (.first 13 (.first 14 .done)) .stop))))) .stop) .stop) .stop) (.alt 5 (.alt 3 (.alt 6 (.alt 7 (.first 8 (.first 9 (.first 10 (.first 11 (.alt 12 (.first 13 (.first 14 .done)) .stop))))) .stop) .stop) .stop) .stop)) (.alt 3 (.alt 0 (.alt 5 (.alt 6 (.alt 7 (.first 8 (.first 9 (.first 10 (.first 11 (.alt 12 (.first 13 (.first 14 .done)) .stop))))) .stop) .stop) .stop) (.alt 5 (.alt 0 (.alt 6 (.alt 7 (.first 8 (.first 9 (.first 10 (.first 11 (.alt 12 (.first 13 (.first 14 .done)) .stop))))) .stop) .stop) (.alt 6 (.alt 0 (.alt 7 (.first 8 (.first 9 (.first 10 (.first 11 (.alt 12 (.first 13 (.first 14 .done)) .stop))))) .stop) .stop) .stop)) .stop)) (.alt 5 (.alt 0 (.alt 3 (.alt 6 (.alt 7 (.first 8 (.first 9 (.first 10 (.first 11 (.alt 12 (.first 13 (.first 14 .done)) .stop))))) .stop) .stop) .stop) (.alt 3 (.alt 0 (.alt 6 (.alt 7 (.first 8 (.first 9 (.first 10 (.first 11 (.alt 12 (.first 13 (.first 14 .done)) .stop))))) .stop) .stop) (.alt 6 (.alt 0 (.alt 7 (.first 8 (.first 9 (.first 10 (.first 11 (.alt 12 (.first 13 (.first 14 .done)) .stop))))) .stop) .stop) .stop)) .stop)) .stop))) (.alt 5 (.alt 0 (.alt 1 (.alt 3 (.alt 6 (.alt 7 (.first 8 (.first 9 (.first 10 (.first 11 (.alt 12 (.first 13 (.first 14 .done)) .stop))))) .stop) .stop) .stop) .stop) (.alt 1 (.alt 0 (.alt 3 (.alt 6 (.alt 7 (.first 8 (.first 9 (.first 10 (.first 11 (.alt 12 (.first 13 (.first 14 .done)) .stop))))) .stop) .stop) .stop) (.alt 3 (.alt 0 (.alt 6 (.alt 7 (.first 8 (.first 9 (.first 10 (.first 11 (.alt 12 (.first 13 (.first 14 .done)) .stop))))) .stop) .stop) (.alt 6 (.alt 0 (.alt 7 (.first 8 (.first 9 (.first 10 (.first 11 (.alt 12 (.first 13 (.first 14 .done)) .stop))))) .stop) .stop) .stop)) .stop)) .stop)) .stop))))))],nils:=[135,196] }
theorem ZcV:Zs Tryz.prog ZkC:=by
  refine Zn ?_
  simp only[ZkC,List.forall_mem_cons]
  exact⟨(Zn1 64),ZnH,Zo8,Zo9,Zte,fun p h=>by cases h⟩
theorem Zue:Zq Tryz.prog 135 ZkL:=by
 refine Zm (C:=ZkC) mixed Ze ZcV (fn:=Tryz.f135) (c:=bd Tryz.f135) (by kernel_rfl) (by kernel_rfl) (by kernel_rfl) (by kernel_rfl) ?_
 intro args st k he
 unfold ZkL at he
 split at he
 rotate_left
 ·exact he.elim
 rename_i a0_2 a1 o0
 have he:Ok (ZgE a0_2 a1 o0) (fun r=>k (.tup [.agg [.own 902 false,.own 903 false,.int .i64 r.2.1],.c (.int .i64 r.1),.c (.own 901 false)]) [(0,.dead),(900,.rc [.own 902 false,.own 903 false,.int .i64 r.2.1]),(901,.sl 4 .bool r.2.2.1 .shallow),(902,.sl 89 y6_ r.2.2.2.1 .shallow),(903,.sl 96 y9_ r.2.2.2.2 .shallow)]):=he
 refine⟨rfl,rfl,?_⟩
 refine ZK he (fun he=>?_) fun he=>?_
 ·refine Zh he (fun he=>?_) fun he=>?_
  ·have he:=Zb he
   exact⟨rfl,_,_,(Za [(900,4),(901,26),(902,0)] (l:=[(4,.c (.ptr 900 0)),(5,.c (.int .i64 (0:Int))),(6,.c (.own 901 false))]) (st':=[(0,.dead),(900,.rc [.own 902 false,.own 903 false,.int .i64 a0_2]),(901,.sl 4 .bool ([]:List Bool) .shallow),(902,.sl 89 y6_ o0 .shallow),(903,.sl 96 y9_ ([]:List D9_) .shallow)]) rfl rfl ⟨Y1,⟨Y3,⟨rfl,Y1⟩,rfl,Y1⟩,Y2,Y2,Y1,Y1⟩ ⟨⟨Y2,rfl⟩,rfl,Y3,Y1⟩),he⟩
  ·refine Zc he fun he=>?_
   refine Zc he fun he=>?_
   refine Zt mixed Ze ZcV (S:=(List Int)) (I:=(fun i2=>(Zo [(1,.c (.imm y0_ a1)),(2,.c (.ptr 10001000 0)),(4,.c (.ptr 10001001 0)),(7,.c (.own 10001002 false))],[(0,.sl 89 y6_ o0 .shallow),(10001000,.rc [.own 0 false,.own 10001003 false,.int .i64 (a0_2 - (1:Int))]),(10001001,.rc [.nil,.nil,.int .i64 (0:Int)]),(10001002,.sl 3 y0_ i2 .shallow),(10001003,.sl 96 y9_ ([]:List D9_) .shallow)]))) (B:=fun s=>Ok (ZgY a0_2 a1 o0 s) (fun r=>k (.tup [.agg [.own 902 false,.own 903 false,.int .i64 r.2.1],.c (.int .i64 r.1),.c (.own 901 false)]) [(0,.dead),(900,.rc [.own 902 false,.own 903 false,.int .i64 r.2.1]),(901,.sl 4 .bool r.2.2.1 .shallow),(902,.sl 89 y6_ r.2.2.2.1 .shallow),(903,.sl 96 y9_ r.2.2.2.2 .shallow)])) ?_ ?_
   ·rintro i2 he
    refine Zk he fun r3_ he=>?_
    refine Zh he (fun he=>?_) fun he=>?_
    ·refine Zk he fun r4_ he=>?_
     have he:=Zb he
     exact⟨rfl,_,_,(Za [(900,10001001),(901,52),(902,52901),(903,52902)] (l:=[(4,.c (.ptr 900 0)),(5,.c (.int .i64 (2:Int))),(6,.c (.own 901 false))]) (st':=[(0,.dead),(900,.rc [.own 902 false,.own 903 false,.int .i64 r4_.1]),(901,.sl 4 .bool ([]:List Bool) .shallow),(902,.sl 89 y6_ r4_.2.1 .shallow),(903,.sl 96 y9_ r4_.2.2 .shallow)]) rfl rfl ⟨Y1,⟨Y3,Y3,rfl,Y1⟩,Y2,Y2,Y2,Y1⟩ ⟨⟨Y2,rfl⟩,rfl,Y3,Y1⟩),he⟩
    ·refine Zk he fun r5_ he=>?_
     refine Zh he (fun he=>?_) fun he=>?_
     ·refine Zt mixed Ze ZcV (S:=(List Bool)) (I:=(fun i5=>(Zo [(2,.c (.ptr 10003000 0)),(4,.c (.ptr 10003001 0)),(10,.c (.own 10003002 false))],[(0,.sl 89 y6_ o0 .shallow),(10003000,.rc [.own 0 false,.own 10003003 false,.int .i64 (a0_2 - (1:Int))]),(10003001,.rc [.nil,.nil,.int .i64 (0:Int)]),(10003002,.sl 4 .bool i5 .shallow),(10003003,.sl 96 y9_ ([]:List D9_) .shallow)]))) (B:=fun s=>Ok (Zn2 a0_2 o0 s) (fun r=>k (.tup [.agg [.own 902 false,.own 903 false,.int .i64 r.2.1],.c (.int .i64 r.1),.c (.own 901 false)]) [(0,.dead),(900,.rc [.own 902 false,.own 903 false,.int .i64 r.2.1]),(901,.sl 4 .bool r.2.2.1 .shallow),(902,.sl 89 y6_ r.2.2.2.1 .shallow),(903,.sl 96 y9_ r.2.2.2.2 .shallow)])) ?_ ?_
      ·rintro i5 he
       have he:=Zb he
       exact⟨rfl,_,_,(Za [(900,10003001),(901,10003002),(902,0),(903,10003003)] (l:=[(4,.c (.ptr 900 0)),(5,.c (.int .i64 (1:Int))),(6,.c (.own 901 false))]) (st':=[(0,.dead),(900,.rc [.own 902 false,.own 903 false,.int .i64 (a0_2 - (1:Int))]),(901,.sl 4 .bool i5 .shallow),(902,.sl 89 y6_ o0 .shallow),(903,.sl 96 y9_ ([]:List D9_) .shallow)]) rfl rfl ⟨Y1,⟨Y3,Y3,rfl,Y1⟩,Y2,Y2,Y2,Y1⟩ ⟨⟨Y2,rfl⟩,rfl,Y3,Y1⟩),he⟩
      ·skip
       refine Zl mixed Ze ZcV (S:=Int×(List Bool)) (I:=(fun (i3,i4)=>(Zo [(2,.c (.ptr 10002000 0)),(4,.c (.ptr 10002001 0)),(7,.c (.own 10002002 false)),(10,.c (.own 10002003 false)),(11,.c (.int .i64 i3))],[(0,.sl 89 y6_ o0 .shallow),(10002000,.rc [.own 0 false,.own 10002004 false,.int .i64 (a0_2 - (1:Int))]),(10002001,.rc [.nil,.nil,.int .i64 (0:Int)]),(10002002,.sl 3 y0_ r3_.2 .shallow),(10002003,.sl 4 .bool i4 .shallow),(10002004,.sl 96 y9_ ([]:List D9_) .shallow)]))) (f:=Zn5 a0_2 o0 r3_) (K:=(fun r=>k (.tup [.agg [.own 902 false,.own 903 false,.int .i64 r.2.1],.c (.int .i64 r.1),.c (.own 901 false)]) [(0,.dead),(900,.rc [.own 902 false,.own 903 false,.int .i64 r.2.1]),(901,.sl 4 .bool r.2.2.1 .shallow),(902,.sl 89 y6_ r.2.2.2.1 .shallow),(903,.sl 96 y9_ r.2.2.2.2 .shallow)])) he (Za [(10002000,10001000),(10002001,10001001),(10002002,10001002),(10002003,57),(10002004,10001003)] rfl rfl ⟨Y2,⟨Y3,Y3,rfl,Y1⟩,⟨rfl,rfl,rfl,Y1⟩,Y2,Y2,Y2,Y1⟩ ⟨⟨Y2,rfl⟩,⟨Y2,rfl⟩,Y3,Y3,rfl,Y1⟩) ?_
       rintro⟨i3,i4⟩ J1 he
       refine Zh he (fun he=>?_) fun he=>?_
       ·refine Zc he fun he=>?_
        refine Zc he fun he=>?_
        refine Zc he fun he=>?_
        have he:=Zb he
        exact⟨((i3+(1:Int)),(i4++[(decide ((0:Int)<(r3_.2.getD i3.toNat 0)))])),he,(Za [(10002003,71)] rfl rfl ⟨Y2,⟨Y3,Y3,rfl,Y1⟩,⟨rfl,rfl,rfl,Y1⟩,Y2,Y2,Y2,Y1⟩ ⟨⟨Y2,rfl⟩,⟨Y2,rfl⟩,Y3,Y3,rfl,Y1⟩)⟩
       ·exact⟨i4,ZbH he,(Za [(10003000,10002000),(10003001,10002001),(10003002,10002003),(10003003,10002004)] rfl rfl ⟨Y2,⟨Y3,Y3,rfl,Y1⟩,⟨rfl,rfl,rfl,Y1⟩,Y2,Y2,Y1⟩ ⟨⟨Y2,rfl⟩,⟨Y2,rfl⟩,Y3,Y1⟩)⟩
     ·refine Zt mixed Ze ZcV (S:=Int×(List D6_)×(List D9_)) (I:=(fun (i_23,i_03,i_13)=>(Zo [(1,.c (.imm y0_ a1)),(2,.c (.ptr 10007000 0)),(4,.c (.ptr 10007001 0))],[(0,.dead),(10007000,.rc [.own 10007002 false,.own 10007003 false,.int .i64 i_23]),(10007001,.rc [.nil,.nil,.int .i64 (0:Int)]),(10007002,.sl 89 y6_ i_03 .shallow),(10007003,.sl 96 y9_ i_13 .shallow)]))) (B:=fun s=>Ok (Zn3 a1 s) (fun r=>k (.tup [.agg [.own 902 false,.own 903 false,.int .i64 r.2.1],.c (.int .i64 r.1),.c (.own 901 false)]) [(0,.dead),(900,.rc [.own 902 false,.own 903 false,.int .i64 r.2.1]),(901,.sl 4 .bool r.2.2.1 .shallow),(902,.sl 89 y6_ r.2.2.2.1 .shallow),(903,.sl 96 y9_ r.2.2.2.2 .shallow)])) ?_ ?_
      ·rintro⟨i_23,i_03,i_13⟩ he
       refine Zh he (fun he=>?_) fun he=>?_
       ·have he:=Zb he
        exact⟨rfl,_,_,(Za [(900,10007001),(901,107),(902,10007002),(903,10007003)] (l:=[(4,.c (.ptr 900 0)),(5,.c (.int .i64 (0:Int))),(6,.c (.own 901 false))]) (st':=[(0,.dead),(900,.rc [.own 902 false,.own 903 false,.int .i64 i_23]),(901,.sl 4 .bool ([]:List Bool) .shallow),(902,.sl 89 y6_ i_03 .shallow),(903,.sl 96 y9_ i_13 .shallow)]) rfl rfl ⟨Y1,⟨Y3,Y3,rfl,Y1⟩,Y2,Y2,Y2,Y1⟩ ⟨⟨Y2,rfl⟩,rfl,Y3,Y1⟩),he⟩
       ·refine Zk he fun r9_ he=>?_
        have he:=Zb he
        exact⟨rfl,_,_,(Za [(900,10007001),(901,111),(902,111901),(903,111902)] (l:=[(4,.c (.ptr 900 0)),(5,.c (.int .i64 (2:Int))),(6,.c (.own 901 false))]) (st':=[(0,.dead),(900,.rc [.own 902 false,.own 903 false,.int .i64 r9_.1]),(901,.sl 4 .bool ([]:List Bool) .shallow),(902,.sl 89 y6_ r9_.2.1 .shallow),(903,.sl 96 y9_ r9_.2.2 .shallow)]) rfl rfl ⟨Y1,⟨Y3,Y3,rfl,Y1⟩,Y2,Y2,Y2,Y1⟩ ⟨⟨Y2,rfl⟩,rfl,Y3,Y1⟩),he⟩
      ·skip
       refine Zc he fun he=>?_
       refine Zl mixed Ze ZcV (S:=Int×Int×(List D6_)×(List D9_)) (I:=(fun (i6,i_21,i_01,i_11)=>(Zo [(1,.c (.imm y0_ a1)),(2,.c (.ptr 10004000 0)),(4,.c (.ptr 10004001 0)),(77,.c (.own 10004002 false)),(78,.c (.int .i64 ([r5_,(0 - r5_)].length:Int))),(79,.c (.int .i64 i6))],[(0,.dead),(10004000,.rc [.own 10004003 false,.own 10004004 false,.int .i64 i_21]),(10004001,.rc [.nil,.nil,.int .i64 (0:Int)]),(10004002,.sl 3 y0_ [r5_,(0 - r5_)] .shallow),(10004003,.sl 89 y6_ i_01 .shallow),(10004004,.sl 96 y9_ i_11 .shallow)]))) (f:=Zj2 a1 r5_) (K:=(fun r=>k (.tup [.agg [.own 902 false,.own 903 false,.int .i64 r.2.1],.c (.int .i64 r.1),.c (.own 901 false)]) [(0,.dead),(900,.rc [.own 902 false,.own 903 false,.int .i64 r.2.1]),(901,.sl 4 .bool r.2.2.1 .shallow),(902,.sl 89 y6_ r.2.2.2.1 .shallow),(903,.sl 96 y9_ r.2.2.2.2 .shallow)])) he (Za [(10004000,10001000),(10004001,10001001),(10004002,77),(10004003,0),(10004004,10001003)] rfl rfl ⟨Y1,⟨Y3,Y3,rfl,Y1⟩,⟨rfl,rfl,rfl,Y1⟩,Y2,Y2,Y2,Y1⟩ ⟨.inl rfl,⟨Y2,rfl⟩,⟨Y2,rfl⟩,Y3,rfl,rfl,Y1⟩) ?_
       rintro⟨i6,i_21,i_01,i_11⟩ J1 he
       refine Zh he (fun he=>?_) fun he=>?_
       ·refine Zc he fun he=>?_
        refine Zt mixed Ze ZcV (S:=Int×Int×(List Bool)×(List D6_)×(List D9_)) (I:=(fun (i9,i_22,i10,i_02,i_12)=>(Zo [(1,.c (.imm y0_ a1)),(2,.c (.ptr 10006000 0)),(4,.c (.ptr 10006001 0)),(14,.c (.int .i64 i9)),(15,.c (.own 10006002 false)),(77,.c (.own 10006003 false)),(78,.c (.int .i64 ([r5_,(0 - r5_)].length:Int))),(79,.c (.int .i64 i6))],[(0,.dead),(10006000,.rc [.own 10006004 false,.own 10006005 false,.int .i64 i_22]),(10006001,.rc [.nil,.nil,.int .i64 (0:Int)]),(10006002,.sl 4 .bool i10 .shallow),(10006003,.sl 3 y0_ [r5_,(0 - r5_)] .shallow),(10006004,.sl 89 y6_ i_02 .shallow),(10006005,.sl 96 y9_ i_12 .shallow)]))) (B:=fun s=>Ok (Zn4 i6 s) (LK J1 (fun r=>k (.tup [.agg [.own 902 false,.own 903 false,.int .i64 r.2.1],.c (.int .i64 r.1),.c (.own 901 false)]) [(0,.dead),(900,.rc [.own 902 false,.own 903 false,.int .i64 r.2.1]),(901,.sl 4 .bool r.2.2.1 .shallow),(902,.sl 89 y6_ r.2.2.2.1 .shallow),(903,.sl 96 y9_ r.2.2.2.2 .shallow)]))) ?_ ?_
        ·rintro⟨i9,i_22,i10,i_02,i_12⟩ he
         refine Zh he (fun he=>?_) fun he=>?_
         ·have he:=Zb he
          exact⟨rfl,_,_,(Za [(900,10006001),(901,10006002),(902,10006004),(903,10006005)] (l:=[(4,.c (.ptr 900 0)),(5,.c (.int .i64 i9)),(6,.c (.own 901 false))]) (st':=[(0,.dead),(900,.rc [.own 902 false,.own 903 false,.int .i64 i_22]),(901,.sl 4 .bool i10 .shallow),(902,.sl 89 y6_ i_02 .shallow),(903,.sl 96 y9_ i_12 .shallow)]) rfl rfl ⟨Y1,⟨Y3,Y3,rfl,Y1⟩,Y2,Y2,Y2,Y1⟩ ⟨⟨Y2,rfl⟩,rfl,Y3,Y1⟩),he⟩
         ·refine Zc he fun he=>?_
          have he:=Zb he
          exact⟨((i6+(1:Int)),i_22,i_02,i_12),he,(Za [(10004000,10006000),(10004001,10006001),(10004002,10006003),(10004003,10006004),(10004004,10006005)] rfl rfl ⟨Y1,⟨Y3,Y3,rfl,Y1⟩,⟨rfl,rfl,rfl,Y1⟩,Y2,Y2,Y2,Y1⟩ ⟨.inl rfl,⟨Y2,rfl⟩,⟨Y2,rfl⟩,Y3,rfl,rfl,Y1⟩)⟩
        ·skip
         refine And.intro (by kernel_rfl) ?_
         have he:=ZU he
         have hq1:=he.1
         have he:=he.2
         have he:=ZU he
         have hq2:=he.1
         have he:=he.2
         obtain⟨r8_,hq3,he⟩:=Zb1 he
         refine And.intro ?_ (And.intro ?_ (And.intro ?_ (Y1)))
         ·skip
          refine Y5 ?_ ?_
          ·skip
           refine Y5 ?_ ?_
           ·skip
            refine And.intro hq1 ?_
            refine Y4 ?_
            refine Y4 ?_
            refine And.intro hq2 ?_
            refine Y4 ?_
            refine⟨r8_,hq3,?_⟩
            refine Y4 ?_
            exact⟨(r8_.1,r8_.2.1,r8_.2.2.1,r8_.2.2.2.1,r8_.2.2.2.2),he,(Za [(10006000,10004000),(10006001,10004001),(10006002,93901),(10006003,10004002),(10006004,93902),(10006005,93903)] rfl rfl ⟨Y1,⟨Y3,Y3,rfl,Y1⟩,⟨rfl,rfl,rfl,Y1⟩,Y2,Y2,Y2,Y2,Y1⟩ ⟨.inl rfl,⟨Y2,rfl⟩,⟨Y2,rfl⟩,rfl,Y3,Y3,rfl,rfl,Y1⟩)⟩
           ·skip
            refine Y4 ?_
            refine And.intro hq1 ?_
            refine Y4 ?_
            refine And.intro hq2 ?_
            refine Y4 ?_
            refine⟨r8_,hq3,?_⟩
            refine Y4 ?_
            exact⟨(r8_.1,r8_.2.1,r8_.2.2.1,r8_.2.2.2.1,r8_.2.2.2.2),he,(Za [(10006000,10004000),(10006001,10004001),(10006002,93901),(10006003,10004002),(10006004,93902),(10006005,93903)] rfl rfl ⟨Y1,⟨Y3,Y3,rfl,Y1⟩,⟨rfl,rfl,rfl,Y1⟩,Y2,Y2,Y2,Y2,Y1⟩ ⟨.inl rfl,⟨Y2,rfl⟩,⟨Y2,rfl⟩,rfl,Y3,Y3,rfl,rfl,Y1⟩)⟩
          ·skip
           refine Y4 ?_
           refine Y4 ?_
           refine And.intro hq1 ?_
           refine Y4 ?_
           refine And.intro hq2 ?_
           refine Y4 ?_
           refine⟨r8_,hq3,?_⟩
           refine Y4 ?_
           exact⟨(r8_.1,r8_.2.1,r8_.2.2.1,r8_.2.2.2.1,r8_.2.2.2.2),he,(Za [(10006000,10004000),(10006001,10004001),(10006002,93901),(10006003,10004002),(10006004,93902),(10006005,93903)] rfl rfl ⟨Y1,⟨Y3,Y3,rfl,Y1⟩,⟨rfl,rfl,rfl,Y1⟩,Y2,Y2,Y2,Y2,Y1⟩ ⟨.inl rfl,⟨Y2,rfl⟩,⟨Y2,rfl⟩,rfl,Y3,Y3,rfl,rfl,Y1⟩)⟩
         ·skip
          refine And.intro ?_ (And.intro ?_ (And.intro ?_ (Y1)))
          ·skip
           refine Y5 ?_ ?_
           ·skip
            refine And.intro hq1 ?_
            refine Y4 ?_
            refine Y4 ?_
            refine And.intro hq2 ?_
            refine Y4 ?_
            refine⟨r8_,hq3,?_⟩
            refine Y4 ?_
            exact⟨(r8_.1,r8_.2.1,r8_.2.2.1,r8_.2.2.2.1,r8_.2.2.2.2),he,(Za [(10006000,10004000),(10006001,10004001),(10006002,93901),(10006003,10004002),(10006004,93902),(10006005,93903)] rfl rfl ⟨Y1,⟨Y3,Y3,rfl,Y1⟩,⟨rfl,rfl,rfl,Y1⟩,Y2,Y2,Y2,Y2,Y1⟩ ⟨.inl rfl,⟨Y2,rfl⟩,⟨Y2,rfl⟩,rfl,Y3,Y3,rfl,rfl,Y1⟩)⟩
           ·skip
            refine Y4 ?_
            refine And.intro hq1 ?_
            refine Y4 ?_
            refine And.intro hq2 ?_
            refine Y4 ?_
            refine⟨r8_,hq3,?_⟩
            refine Y4 ?_
            exact⟨(r8_.1,r8_.2.1,r8_.2.2.1,r8_.2.2.2.1,r8_.2.2.2.2),he,(Za [(10006000,10004000),(10006001,10004001),(10006002,93901),(10006003,10004002),(10006004,93902),(10006005,93903)] rfl rfl ⟨Y1,⟨Y3,Y3,rfl,Y1⟩,⟨rfl,rfl,rfl,Y1⟩,Y2,Y2,Y2,Y2,Y1⟩ ⟨.inl rfl,⟨Y2,rfl⟩,⟨Y2,rfl⟩,rfl,Y3,Y3,rfl,rfl,Y1⟩)⟩
          ·skip
           refine And.intro hq1 ?_
           refine Y5 ?_ ?_
           ·skip
            refine Y4 ?_
            refine Y4 ?_
            refine And.intro hq2 ?_
            refine Y4 ?_
            refine⟨r8_,hq3,?_⟩
            refine Y4 ?_
            exact⟨(r8_.1,r8_.2.1,r8_.2.2.1,r8_.2.2.2.1,r8_.2.2.2.2),he,(Za [(10006000,10004000),(10006001,10004001),(10006002,93901),(10006003,10004002),(10006004,93902),(10006005,93903)] rfl rfl ⟨Y1,⟨Y3,Y3,rfl,Y1⟩,⟨rfl,rfl,rfl,Y1⟩,Y2,Y2,Y2,Y2,Y1⟩ ⟨.inl rfl,⟨Y2,rfl⟩,⟨Y2,rfl⟩,rfl,Y3,Y3,rfl,rfl,Y1⟩)⟩
           ·skip
            refine Y5 ?_ ?_
            ·skip
             refine Y4 ?_
             refine And.intro hq2 ?_
             refine Y4 ?_
             refine⟨r8_,hq3,?_⟩
             refine Y4 ?_
             exact⟨(r8_.1,r8_.2.1,r8_.2.2.1,r8_.2.2.2.1,r8_.2.2.2.2),he,(Za [(10006000,10004000),(10006001,10004001),(10006002,93901),(10006003,10004002),(10006004,93902),(10006005,93903)] rfl rfl ⟨Y1,⟨Y3,Y3,rfl,Y1⟩,⟨rfl,rfl,rfl,Y1⟩,Y2,Y2,Y2,Y2,Y1⟩ ⟨.inl rfl,⟨Y2,rfl⟩,⟨Y2,rfl⟩,rfl,Y3,Y3,rfl,rfl,Y1⟩)⟩
            ·skip
             refine And.intro hq2 ?_
             refine Y4 ?_
             refine Y4 ?_
             refine⟨r8_,hq3,?_⟩
             refine Y4 ?_
             exact⟨(r8_.1,r8_.2.1,r8_.2.2.1,r8_.2.2.2.1,r8_.2.2.2.2),he,(Za [(10006000,10004000),(10006001,10004001),(10006002,93901),(10006003,10004002),(10006004,93902),(10006005,93903)] rfl rfl ⟨Y1,⟨Y3,Y3,rfl,Y1⟩,⟨rfl,rfl,rfl,Y1⟩,Y2,Y2,Y2,Y2,Y1⟩ ⟨.inl rfl,⟨Y2,rfl⟩,⟨Y2,rfl⟩,rfl,Y3,Y3,rfl,rfl,Y1⟩)⟩
          ·skip
           refine Y5 ?_ ?_
           ·skip
            refine Y4 ?_
            refine And.intro hq1 ?_
            refine Y4 ?_
            refine And.intro hq2 ?_
            refine Y4 ?_
            refine⟨r8_,hq3,?_⟩
            refine Y4 ?_
            exact⟨(r8_.1,r8_.2.1,r8_.2.2.1,r8_.2.2.2.1,r8_.2.2.2.2),he,(Za [(10006000,10004000),(10006001,10004001),(10006002,93901),(10006003,10004002),(10006004,93902),(10006005,93903)] rfl rfl ⟨Y1,⟨Y3,Y3,rfl,Y1⟩,⟨rfl,rfl,rfl,Y1⟩,Y2,Y2,Y2,Y2,Y1⟩ ⟨.inl rfl,⟨Y2,rfl⟩,⟨Y2,rfl⟩,rfl,Y3,Y3,rfl,rfl,Y1⟩)⟩
           ·skip
            refine And.intro hq1 ?_
            refine Y5 ?_ ?_
            ·skip
             refine Y4 ?_
             refine And.intro hq2 ?_
             refine Y4 ?_
             refine⟨r8_,hq3,?_⟩
             refine Y4 ?_
             exact⟨(r8_.1,r8_.2.1,r8_.2.2.1,r8_.2.2.2.1,r8_.2.2.2.2),he,(Za [(10006000,10004000),(10006001,10004001),(10006002,93901),(10006003,10004002),(10006004,93902),(10006005,93903)] rfl rfl ⟨Y1,⟨Y3,Y3,rfl,Y1⟩,⟨rfl,rfl,rfl,Y1⟩,Y2,Y2,Y2,Y2,Y1⟩ ⟨.inl rfl,⟨Y2,rfl⟩,⟨Y2,rfl⟩,rfl,Y3,Y3,rfl,rfl,Y1⟩)⟩
            ·skip
             refine And.intro hq2 ?_
             refine Y4 ?_
             refine Y4 ?_
             refine⟨r8_,hq3,?_⟩
             refine Y4 ?_
             exact⟨(r8_.1,r8_.2.1,r8_.2.2.1,r8_.2.2.2.1,r8_.2.2.2.2),he,(Za [(10006000,10004000),(10006001,10004001),(10006002,93901),(10006003,10004002),(10006004,93902),(10006005,93903)] rfl rfl ⟨Y1,⟨Y3,Y3,rfl,Y1⟩,⟨rfl,rfl,rfl,Y1⟩,Y2,Y2,Y2,Y2,Y1⟩ ⟨.inl rfl,⟨Y2,rfl⟩,⟨Y2,rfl⟩,rfl,Y3,Y3,rfl,rfl,Y1⟩)⟩
         ·skip
          refine Y5 ?_ ?_
          ·skip
           refine Y4 ?_
           refine Y4 ?_
           refine And.intro hq1 ?_
           refine Y4 ?_
           refine And.intro hq2 ?_
           refine Y4 ?_
           refine⟨r8_,hq3,?_⟩
           refine Y4 ?_
           exact⟨(r8_.1,r8_.2.1,r8_.2.2.1,r8_.2.2.2.1,r8_.2.2.2.2),he,(Za [(10006000,10004000),(10006001,10004001),(10006002,93901),(10006003,10004002),(10006004,93902),(10006005,93903)] rfl rfl ⟨Y1,⟨Y3,Y3,rfl,Y1⟩,⟨rfl,rfl,rfl,Y1⟩,Y2,Y2,Y2,Y2,Y1⟩ ⟨.inl rfl,⟨Y2,rfl⟩,⟨Y2,rfl⟩,rfl,Y3,Y3,rfl,rfl,Y1⟩)⟩
          ·skip
           refine Y5 ?_ ?_
           ·skip
            refine Y4 ?_
            refine And.intro hq1 ?_
            refine Y4 ?_
            refine And.intro hq2 ?_
            refine Y4 ?_
            refine⟨r8_,hq3,?_⟩
            refine Y4 ?_
            exact⟨(r8_.1,r8_.2.1,r8_.2.2.1,r8_.2.2.2.1,r8_.2.2.2.2),he,(Za [(10006000,10004000),(10006001,10004001),(10006002,93901),(10006003,10004002),(10006004,93902),(10006005,93903)] rfl rfl ⟨Y1,⟨Y3,Y3,rfl,Y1⟩,⟨rfl,rfl,rfl,Y1⟩,Y2,Y2,Y2,Y2,Y1⟩ ⟨.inl rfl,⟨Y2,rfl⟩,⟨Y2,rfl⟩,rfl,Y3,Y3,rfl,rfl,Y1⟩)⟩
           ·skip
            refine And.intro hq1 ?_
            refine Y5 ?_ ?_
            ·skip
             refine Y4 ?_
             refine And.intro hq2 ?_
             refine Y4 ?_
             refine⟨r8_,hq3,?_⟩
             refine Y4 ?_
             exact⟨(r8_.1,r8_.2.1,r8_.2.2.1,r8_.2.2.2.1,r8_.2.2.2.2),he,(Za [(10006000,10004000),(10006001,10004001),(10006002,93901),(10006003,10004002),(10006004,93902),(10006005,93903)] rfl rfl ⟨Y1,⟨Y3,Y3,rfl,Y1⟩,⟨rfl,rfl,rfl,Y1⟩,Y2,Y2,Y2,Y2,Y1⟩ ⟨.inl rfl,⟨Y2,rfl⟩,⟨Y2,rfl⟩,rfl,Y3,Y3,rfl,rfl,Y1⟩)⟩
            ·skip
             refine And.intro hq2 ?_
             refine Y4 ?_
             refine Y4 ?_
             refine⟨r8_,hq3,?_⟩
             refine Y4 ?_
             exact⟨(r8_.1,r8_.2.1,r8_.2.2.1,r8_.2.2.2.1,r8_.2.2.2.2),he,(Za [(10006000,10004000),(10006001,10004001),(10006002,93901),(10006003,10004002),(10006004,93902),(10006005,93903)] rfl rfl ⟨Y1,⟨Y3,Y3,rfl,Y1⟩,⟨rfl,rfl,rfl,Y1⟩,Y2,Y2,Y2,Y2,Y1⟩ ⟨.inl rfl,⟨Y2,rfl⟩,⟨Y2,rfl⟩,rfl,Y3,Y3,rfl,rfl,Y1⟩)⟩
       ·exact⟨(i_21,i_01,i_11),ZbH he,(Za [(10007000,10004000),(10007001,10004001),(10007002,10004003),(10007003,10004004)] rfl rfl ⟨Y1,⟨Y3,Y3,rfl,Y1⟩,⟨rfl,rfl,rfl,Y1⟩,Y2,Y2,Y1⟩ ⟨.inl rfl,⟨Y2,rfl⟩,⟨Y2,rfl⟩,Y1⟩)⟩
   ·skip
    refine Zl mixed Ze ZcV (S:=Int×(List Int)) (I:=(fun (i,i1)=>(Zo [(1,.c (.imm y0_ a1)),(2,.c (.ptr 10000000 0)),(4,.c (.ptr 10000001 0)),(7,.c (.own 10000002 false)),(8,.c (.int .i64 i))],[(0,.sl 89 y6_ o0 .shallow),(10000000,.rc [.own 0 false,.own 10000003 false,.int .i64 (a0_2 - (1:Int))]),(10000001,.rc [.nil,.nil,.int .i64 (0:Int)]),(10000002,.sl 3 y0_ i1 .shallow),(10000003,.sl 96 y9_ ([]:List D9_) .shallow)]))) (f:=ZgZ a0_2 a1 o0) (K:=(fun r=>k (.tup [.agg [.own 902 false,.own 903 false,.int .i64 r.2.1],.c (.int .i64 r.1),.c (.own 901 false)]) [(0,.dead),(900,.rc [.own 902 false,.own 903 false,.int .i64 r.2.1]),(901,.sl 4 .bool r.2.2.1 .shallow),(902,.sl 89 y6_ r.2.2.2.1 .shallow),(903,.sl 96 y9_ r.2.2.2.2 .shallow)])) he (Za [(10000000,2),(10000001,4),(10000002,31)] rfl rfl ⟨Y2,⟨Y3,⟨rfl,Y1⟩,rfl,Y1⟩,⟨rfl,rfl,rfl,Y1⟩,Y2,Y1,Y1⟩ ⟨.inl rfl,⟨Y2,rfl⟩,⟨Y2,rfl⟩,Y3,rfl,Y1⟩) ?_
    rintro⟨i,i1⟩ J1 he
    refine Zh he (fun he=>?_) fun he=>?_
    ·refine Zc he fun he=>?_
     refine Zk he fun r2_ he=>?_
     refine Zc he fun he=>?_
     have he:=Zb he
     exact⟨((i+(1:Int)),r2_),he,(Za [] rfl rfl ⟨Y2,⟨Y3,Y3,rfl,Y1⟩,⟨rfl,rfl,rfl,Y1⟩,Y2,Y2,Y1⟩ ⟨.inl rfl,⟨Y2,rfl⟩,⟨Y2,rfl⟩,Y3,rfl,Y1⟩)⟩
    ·exact⟨i1,ZbH he,(Za [(10001000,10000000),(10001001,10000001),(10001002,10000002),(10001003,10000003)] rfl rfl ⟨Y2,⟨Y3,Y3,rfl,Y1⟩,⟨rfl,rfl,rfl,Y1⟩,Y2,Y2,Y1⟩ ⟨.inl rfl,⟨Y2,rfl⟩,⟨Y2,rfl⟩,Y3,Y1⟩)⟩
 ·have he:=Zb he
  exact⟨rfl,_,_,(Za [(900,4),(901,26),(902,0)] (l:=[(4,.c (.ptr 900 0)),(5,.c (.int .i64 (0:Int))),(6,.c (.own 901 false))]) (st':=[(0,.dead),(900,.rc [.own 902 false,.own 903 false,.int .i64 a0_2]),(901,.sl 4 .bool ([]:List Bool) .shallow),(902,.sl 89 y6_ o0 .shallow),(903,.sl 96 y9_ ([]:List D9_) .shallow)]) rfl rfl ⟨Y1,⟨Y3,⟨rfl,Y1⟩,rfl,Y1⟩,Y2,Y2,Y1,Y1⟩ ⟨⟨Y2,rfl⟩,rfl,Y3,Y1⟩),he⟩
def Zpy:Con:=fun args st=>match args,st with
  |[.agg [.imm (.pair (.int .i64) (.int .i64)) c__0,.int .i64 c__1]],[]=>.opt (Int×(List D5_)) (Zl6 (c__0,c__1)) (fun r=>.ret (.agg [.own 901 false,.int .i64 r.1]) [(900,.rc [.own 901 false,.int .i64 r.1]),(901,.sl 155 y5_ r.2 .shallow)])
  |_,_=>.fail
def Zs5:Cfg:={ y:=tys,n:=10,h:=0,tab:=[],cut:=[],hand:=[],good:=[],deep:=[],sched:=[(1,(.first 1 (.first 4 (.alt 0 (.alt 2 (.alt 3 (.alt 5 (.alt 6 (.alt 7 .done .stop) .stop) .stop) (.alt 5 (.alt 3 (.alt 6 (.alt 7 .done .stop) .stop) .stop) .stop)) (.alt 5 (.alt 2 (.alt 3 (.alt 6 (.alt 7 .done .stop) .stop) .stop) .stop) .stop)) (.alt 2 (.alt 0 (.alt 3 (.alt 5 (.alt 6 (.alt 7 .done .stop) .stop) .stop) (.alt 5 (.alt 3 (.alt 6 (.alt 7 .done .stop) .stop) .stop) .stop)) (.alt 5 (.alt 0 (.alt 3 (.alt 6 (.alt 7 .done .stop) .stop) .stop) .stop) .stop)) (.alt 5 (.alt 0 (.alt 2 (.alt 3 (.alt 6 (.alt 7 .done .stop) .stop) .stop) .stop) (.alt 2 (.alt 0 (.alt 3 (.alt 6 (.alt 7 .done .stop) .stop) .stop) .stop) .stop)) .stop))))))] }
theorem ZyZ:Zs Tryz.prog Zs5:=Zn (fun p h=>by cases h)
theorem ZyF:Zq Tryz.prog 136 Zpy:=by
 refine Zm (C:=Zs5) mixed Ze ZyZ (fn:=Tryz.f136) (c:=bd Tryz.f136) (by kernel_rfl) (by kernel_rfl) (by kernel_rfl) (by kernel_rfl) ?_
 intro args st k he
 unfold Zpy at he
 split at he
 rotate_left
 ·exact he.elim
 rename_i c__0 c__1
 have he:Ok (Zl6 (c__0,c__1)) (fun r=>k (.agg [.own 901 false,.int .i64 r.1]) [(900,.rc [.own 901 false,.int .i64 r.1]),(901,.sl 155 y5_ r.2 .shallow)]):=he
 refine⟨rfl,rfl,?_⟩
 refine And.intro (by kernel_rfl) ?_
 have he:=ZU he
 have hq1:=he.1
 have he:=he.2
 refine And.intro ?_ (And.intro ?_ (And.intro ?_ (Y1)))
 ·skip
  refine Y5 ?_ ?_
  ·skip
   refine Y5 ?_ ?_
   ·skip
    refine And.intro hq1 ?_
    refine Y4 ?_
    refine Y4 ?_
    refine Y4 ?_
    have he:=Zb he
    exact⟨rfl,_,_,(Za [(900,2),(901,6)] (l:=[(2,.c (.ptr 900 0))]) (st':=[(900,.rc [.own 901 false,.int .i64 (c__0,c__1).2]),(901,.sl 155 y5_ (([]:List D5_)++(c__0,c__1).1) .shallow)]) rfl rfl ⟨⟨Y3,rfl,Y1⟩,Y2,Y1⟩ ⟨⟨Y2,rfl⟩,Y1⟩),he⟩
   ·skip
    refine Y4 ?_
    refine And.intro hq1 ?_
    refine Y4 ?_
    refine Y4 ?_
    have he:=Zb he
    exact⟨rfl,_,_,(Za [(900,2),(901,6)] (l:=[(2,.c (.ptr 900 0))]) (st':=[(900,.rc [.own 901 false,.int .i64 (c__0,c__1).2]),(901,.sl 155 y5_ (([]:List D5_)++(c__0,c__1).1) .shallow)]) rfl rfl ⟨⟨Y3,rfl,Y1⟩,Y2,Y1⟩ ⟨⟨Y2,rfl⟩,Y1⟩),he⟩
  ·skip
   refine Y4 ?_
   refine Y4 ?_
   refine And.intro hq1 ?_
   refine Y4 ?_
   refine Y4 ?_
   have he:=Zb he
   exact⟨rfl,_,_,(Za [(900,2),(901,6)] (l:=[(2,.c (.ptr 900 0))]) (st':=[(900,.rc [.own 901 false,.int .i64 (c__0,c__1).2]),(901,.sl 155 y5_ (([]:List D5_)++(c__0,c__1).1) .shallow)]) rfl rfl ⟨⟨Y3,rfl,Y1⟩,Y2,Y1⟩ ⟨⟨Y2,rfl⟩,Y1⟩),he⟩
 ·skip
  refine Y5 ?_ ?_
  ·skip
   refine Y5 ?_ ?_
   ·skip
    refine And.intro hq1 ?_
    refine Y4 ?_
    refine Y4 ?_
    refine Y4 ?_
    have he:=Zb he
    exact⟨rfl,_,_,(Za [(900,2),(901,6)] (l:=[(2,.c (.ptr 900 0))]) (st':=[(900,.rc [.own 901 false,.int .i64 (c__0,c__1).2]),(901,.sl 155 y5_ (([]:List D5_)++(c__0,c__1).1) .shallow)]) rfl rfl ⟨⟨Y3,rfl,Y1⟩,Y2,Y1⟩ ⟨⟨Y2,rfl⟩,Y1⟩),he⟩
   ·skip
    refine Y4 ?_
    refine And.intro hq1 ?_
    refine Y4 ?_
    refine Y4 ?_
    have he:=Zb he
    exact⟨rfl,_,_,(Za [(900,2),(901,6)] (l:=[(2,.c (.ptr 900 0))]) (st':=[(900,.rc [.own 901 false,.int .i64 (c__0,c__1).2]),(901,.sl 155 y5_ (([]:List D5_)++(c__0,c__1).1) .shallow)]) rfl rfl ⟨⟨Y3,rfl,Y1⟩,Y2,Y1⟩ ⟨⟨Y2,rfl⟩,Y1⟩),he⟩
  ·skip
   refine Y4 ?_
   refine Y4 ?_
   refine And.intro hq1 ?_
   refine Y4 ?_
   refine Y4 ?_
   have he:=Zb he
   exact⟨rfl,_,_,(Za [(900,2),(901,6)] (l:=[(2,.c (.ptr 900 0))]) (st':=[(900,.rc [.own 901 false,.int .i64 (c__0,c__1).2]),(901,.sl 155 y5_ (([]:List D5_)++(c__0,c__1).1) .shallow)]) rfl rfl ⟨⟨Y3,rfl,Y1⟩,Y2,Y1⟩ ⟨⟨Y2,rfl⟩,Y1⟩),he⟩
 ·skip
  refine Y5 ?_ ?_
  ·skip
   refine Y4 ?_
   refine Y4 ?_
   refine And.intro hq1 ?_
   refine Y4 ?_
   refine Y4 ?_
   have he:=Zb he
   exact⟨rfl,_,_,(Za [(900,2),(901,6)] (l:=[(2,.c (.ptr 900 0))]) (st':=[(900,.rc [.own 901 false,.int .i64 (c__0,c__1).2]),(901,.sl 155 y5_ (([]:List D5_)++(c__0,c__1).1) .shallow)]) rfl rfl ⟨⟨Y3,rfl,Y1⟩,Y2,Y1⟩ ⟨⟨Y2,rfl⟩,Y1⟩),he⟩
  ·skip
   refine Y4 ?_
   refine Y4 ?_
   refine And.intro hq1 ?_
   refine Y4 ?_
   refine Y4 ?_
   have he:=Zb he
   exact⟨rfl,_,_,(Za [(900,2),(901,6)] (l:=[(2,.c (.ptr 900 0))]) (st':=[(900,.rc [.own 901 false,.int .i64 (c__0,c__1).2]),(901,.sl 155 y5_ (([]:List D5_)++(c__0,c__1).1) .shallow)]) rfl rfl ⟨⟨Y3,rfl,Y1⟩,Y2,Y1⟩ ⟨⟨Y2,rfl⟩,Y1⟩),he⟩
def ZjZ:Con:=fun args st=>match args,st with
  |[.c (.imm (.pair (.sl (.pair (.int .i64) (.int .i64))) (.int .i64)) a0),.c (.int .i64 a1)],[]=>.opt (Int×(List Bool)×(List D9_)) (ZfQ a0 a1) (fun r=>.ret (.tup [.c (.int .i64 r.1),.c (.own 900 false),.c (.own 901 false)]) [(900,.sl 4 .bool r.2.1 .shallow),(901,.sl 96 y9_ r.2.2 (.deep true .no))])
  |_,_=>.fail
def ZjL:Cfg:={ y:=tys,n:=65,h:=0,tab:=[(109,ZjX),(135,ZkL),(136,Zpy)],cut:=[13],hand:=[(135,[0])],good:=[],deep:=[25,40,41,60],sched:=[],nils:=[135] }
theorem Zj6:Zs Tryz.prog ZjL:=by
  refine Zn ?_
  simp only[ZjL,List.forall_mem_cons]
  exact⟨ZtC,Zue,ZyF,fun p h=>by cases h⟩
theorem ZtE:Zq Tryz.prog 66 ZjZ:=by
 refine Zm (C:=ZjL) mixed Ze Zj6 (fn:=Tryz.f66) (c:=bd Tryz.f66) (by kernel_rfl) (by kernel_rfl) (by kernel_rfl) (by kernel_rfl) ?_
 intro args st k he
 unfold ZjZ at he
 split at he
 rotate_left
 ·exact he.elim
 rename_i a0 a1
 have he:Ok (ZfQ a0 a1) (fun r=>k (.tup [.c (.int .i64 r.1),.c (.own 900 false),.c (.own 901 false)]) [(900,.sl 4 .bool r.2.1 .shallow),(901,.sl 96 y9_ r.2.2 (.deep true .no))]):=he
 refine⟨rfl,rfl,?_⟩
 refine Zk he fun r1_ he=>?_
 refine ZK he (fun he=>?_) fun he=>?_
 ·refine ZK he (fun he=>?_) fun he=>?_
  ·refine Zh he (fun he=>?_) fun he=>?_
   ·have he:=Zb he
    exact⟨rfl,_,_,(Za [(900,24),(901,25)] (l:=[(4,.c (.int .i64 (3:Int))),(5,.c (.own 900 false)),(6,.c (.own 901 false))]) (st':=[(900,.sl 4 .bool ([]:List Bool) .shallow),(901,.sl 96 y9_ ([]:List D9_) (.deep true .no))]) rfl rfl ⟨Y2,Y2,Y1⟩ ⟨rfl,Y3,Y3,Y1⟩),he⟩
   ·refine Zc he fun he=>?_
    refine Zk he fun r2_ he=>?_
    refine Zh he (fun he=>?_) fun he=>?_
    ·have he:=Zb he
     exact⟨rfl,_,_,(Za [(900,33901),(901,40)] (l:=[(4,.c (.int .i64 r2_.1)),(5,.c (.own 900 false)),(6,.c (.own 901 false))]) (st':=[(900,.sl 4 .bool r2_.2.2.1 .shallow),(901,.sl 96 y9_ ([]:List D9_) (.deep true .no))]) rfl rfl ⟨Y2,Y2,Y1⟩ ⟨rfl,Y3,Y3,Y1⟩),he⟩
    ·refine Zt mixed Ze Zj6 (S:=(List D9_)) (I:=(fun i2=>(Zo [(8,.c (.int .i64 r2_.1)),(10,.c (.own 10001000 false))],[(10001000,.sl 96 y9_ i2 (.deep true .no))]))) (B:=fun s=>Ok (Zi4 r2_ s) (fun r=>k (.tup [.c (.int .i64 r.1),.c (.own 900 false),.c (.own 901 false)]) [(900,.sl 4 .bool r.2.1 .shallow),(901,.sl 96 y9_ r.2.2 (.deep true .no))])) ?_ ?_
     ·rintro i2 he
      have he:=Zb he
      exact⟨rfl,_,_,(Za [(900,63),(901,10001000)] (l:=[(4,.c (.int .i64 r2_.1)),(5,.c (.own 900 false)),(6,.c (.own 901 false))]) (st':=[(900,.sl 4 .bool ([]:List Bool) .shallow),(901,.sl 96 y9_ i2 (.deep true .no))]) rfl rfl ⟨Y2,Y2,Y1⟩ ⟨rfl,Y3,Y3,Y1⟩),he⟩
     ·skip
      refine Zl mixed Ze Zj6 (S:=Int×(List D9_)) (I:=(fun (i,i1)=>(Zo [(7,.c (.ptr 10000000 0)),(8,.c (.int .i64 r2_.1)),(10,.c (.own 10000001 false)),(11,.c (.int .i64 i))],[(10000000,.rc [.own 10000002 false,.own 10000003 false,.int .i64 r2_.2.1]),(10000001,.sl 96 y9_ i1 (.deep true .no)),(10000002,.sl 89 y6_ r2_.2.2.2.1 .shallow),(10000003,.sl 96 y9_ r2_.2.2.2.2 .shallow)]))) (f:=Zdz r2_) (K:=(fun r=>k (.tup [.c (.int .i64 r.1),.c (.own 900 false),.c (.own 901 false)]) [(900,.sl 4 .bool r.2.1 .shallow),(901,.sl 96 y9_ r.2.2 (.deep true .no))])) he (Za [(10000000,7),(10000001,41),(10000002,33902),(10000003,33903)] rfl rfl ⟨⟨Y3,Y3,rfl,Y1⟩,Y2,Y2,Y2,Y1⟩ ⟨⟨Y2,rfl⟩,rfl,Y3,rfl,Y1⟩) ?_
      rintro⟨i,i1⟩ J1 he
      refine Zh he (fun he=>?_) fun he=>?_
      ·refine Zc he fun he=>?_
       refine Zk he fun r4_ he=>?_
       refine Zc he fun he=>?_
       refine Zc he fun he=>?_
       have he:=Zb he
       exact⟨((i+(1:Int)),(i1++[((r2_.2.2.2.2.getD i.toNat (0,(0,(0,([],0))))).1,((r2_.2.2.2.2.getD i.toNat (0,(0,(0,([],0))))).2.1,((r2_.2.2.2.2.getD i.toNat (0,(0,(0,([],0))))).2.2.1,(r4_.2,r4_.1))))])),he,(Za [(10000001,61)] rfl rfl ⟨⟨Y3,Y3,rfl,Y1⟩,Y2,Y2,Y2,Y1⟩ ⟨⟨Y2,rfl⟩,rfl,Y3,rfl,Y1⟩)⟩
      ·exact⟨i1,ZbH he,(Za [(10001000,10000001)] rfl rfl Y3 ⟨rfl,Y3,Y1⟩)⟩
  ·have he:=Zb he
   exact⟨rfl,_,_,(Za [(900,24),(901,25)] (l:=[(4,.c (.int .i64 (3:Int))),(5,.c (.own 900 false)),(6,.c (.own 901 false))]) (st':=[(900,.sl 4 .bool ([]:List Bool) .shallow),(901,.sl 96 y9_ ([]:List D9_) (.deep true .no))]) rfl rfl ⟨Y2,Y2,Y1⟩ ⟨rfl,Y3,Y3,Y1⟩),he⟩
 ·have he:=Zb he
  exact⟨rfl,_,_,(Za [(900,24),(901,25)] (l:=[(4,.c (.int .i64 (3:Int))),(5,.c (.own 900 false)),(6,.c (.own 901 false))]) (st':=[(900,.sl 4 .bool ([]:List Bool) .shallow),(901,.sl 96 y9_ ([]:List D9_) (.deep true .no))]) rfl rfl ⟨Y2,Y2,Y1⟩ ⟨rfl,Y3,Y3,Y1⟩),he⟩
def ZjW:Con:=fun args st=>match args,st with
  |[.agg [.imm (.int .i64) m_0,.imm (.pair (.int .i64) (.pair (.sl (.int .i64)) (.pair (.sl (.int .i64)) (.pair (.int .i64) (.sl (.sl (.int .i64))))))) m_1],.c (.imm .bool values)],[]=>.opt (Bool×(List Int)) (ZfN (m_0,m_1) values) (fun r=>.ret (.tup [.c (.own 900 false),.c (.bool r.1)]) [(900,.sl 3 y0_ r.2 .shallow)])
  |_,_=>.fail
def ZjI:Cfg:={ y:=tys,n:=56,h:=0,tab:=[(130,ZfE),(133,Ze7)],cut:=[],hand:=[],good:=[],deep:=[],sched:=[] }
theorem Zj5:Zs Tryz.prog ZjI:=by
  refine Zn ?_
  simp only[ZjI,List.forall_mem_cons]
  exact⟨ZlP,Zij,fun p h=>by cases h⟩
theorem ZtB:Zq Tryz.prog 67 ZjW:=by
 refine Zm (C:=ZjI) mixed Ze Zj5 (fn:=Tryz.f67) (c:=bd Tryz.f67) (by kernel_rfl) (by kernel_rfl) (by kernel_rfl) (by kernel_rfl) ?_
 intro args st k he
 unfold ZjW at he
 split at he
 rotate_left
 ·exact he.elim
 rename_i m_0 m_1 values
 have he:Ok (ZfN (m_0,m_1) values) (fun r=>k (.tup [.c (.own 900 false),.c (.bool r.1)]) [(900,.sl 3 y0_ r.2 .shallow)]):=he
 refine⟨rfl,rfl,?_⟩
 refine Zk he fun r1_ he=>?_
 refine ZK he (fun he=>?_) fun he=>?_
 ·refine Zh he (fun he=>?_) fun he=>?_
  ·have he:=Zb he
   exact⟨rfl,_,_,(Za [(900,19)] (l:=[(4,.c (.own 900 false)),(5,.c (.bool false))]) (st':=[(900,.sl 3 y0_ ([]:List Int) .shallow)]) rfl rfl Y3 ⟨Y3,.inr rfl,Y1⟩),he⟩
  ·refine Zl mixed Ze Zj5 (S:=Int×(List Int)) (I:=(fun (i,out)=>(Zo [(1,.c (.imm .bool values)),(2,.c (.ptr 10000000 0)),(6,.c (.own 10000001 false)),(7,.c (.int .i64 i))],[(10000000,.rc [.imm y0_ (m_0,m_1).1,.imm y4_ (m_0,m_1).2]),(10000001,.sl 3 y0_ out .shallow)]))) (f:=Zf5 (m_0,m_1) values) (K:=(fun r=>k (.tup [.c (.own 900 false),.c (.bool r.1)]) [(900,.sl 3 y0_ r.2 .shallow)])) he (Za [(10000000,2),(10000001,20)] rfl rfl ⟨⟨.inl rfl,.inl rfl,Y1⟩,Y2,Y1⟩ ⟨.inl rfl,⟨Y2,rfl⟩,Y3,rfl,Y1⟩) ?_
   rintro⟨i,out⟩ J1 he
   refine Zh he (fun he=>?_) fun he=>?_
   ·refine Zl mixed Ze Zj5 (S:=Int×Int×Int) (I:=(fun (v1,n1,k_1)=>(Zo [(1,.c (.imm .bool values)),(2,.c (.ptr 10002000 0)),(6,.c (.own 10002001 false)),(7,.c (.int .i64 i)),(8,.c (.int .i64 v1)),(9,.c (.int .i64 n1)),(10,.c (.int .i64 k_1))],[(10002000,.rc [.imm y0_ (m_0,m_1).1,.imm y4_ (m_0,m_1).2]),(10002001,.sl 3 y0_ out .shallow)]))) (f:=Zf6 (m_0,m_1) values i out) (K:=(LK J1 (fun r=>k (.tup [.c (.own 900 false),.c (.bool r.1)]) [(900,.sl 3 y0_ r.2 .shallow)]))) he (Za [(10002000,10000000),(10002001,10000001)] rfl rfl ⟨⟨.inl rfl,.inl rfl,Y1⟩,Y2,Y1⟩ ⟨.inl rfl,⟨Y2,rfl⟩,Y3,rfl,rfl,rfl,rfl,Y1⟩) ?_
    rintro⟨v1,n1,k_1⟩ J2 he
    refine Zc he fun he=>?_
    refine Zh he (fun he=>?_) fun he=>?_
    ·refine Zk he fun r3_ he=>?_
     refine Zc he fun he=>?_
     refine Zc he fun he=>?_
     refine Zh he (fun he=>?_) fun he=>?_
     ·refine Zc he fun he=>?_
      refine Zc he fun he=>?_
      have he:=Zb he
      exact⟨(k_1,(n1+(1:Int)),(k_1+(1:Int))),he,(Za [] rfl rfl ⟨⟨.inl rfl,.inl rfl,Y1⟩,Y2,Y1⟩ ⟨.inl rfl,⟨Y2,rfl⟩,Y3,rfl,rfl,rfl,rfl,Y1⟩)⟩
     ·refine Zc he fun he=>?_
      have he:=Zb he
      exact⟨(v1,n1,(k_1+(1:Int))),he,(Za [] rfl rfl ⟨⟨.inl rfl,.inl rfl,Y1⟩,Y2,Y1⟩ ⟨.inl rfl,⟨Y2,rfl⟩,Y3,rfl,rfl,rfl,rfl,Y1⟩)⟩
    ·refine Zh he (fun he=>?_) fun he=>?_
     ·have he:=Zb he
      exact⟨rfl,_,_,(Za [(900,50)] (l:=[(4,.c (.own 900 false)),(5,.c (.bool false))]) (st':=[(900,.sl 3 y0_ ([]:List Int) .shallow)]) rfl rfl Y3 ⟨Y3,.inr rfl,Y1⟩),he⟩
     ·refine Zc he fun he=>?_
      refine Zc he fun he=>?_
      have he:=Zb he
      exact⟨((i+(1:Int)),(out++[v1])),he,(Za [(10000000,10002000),(10000001,54)] rfl rfl ⟨⟨.inl rfl,.inl rfl,Y1⟩,Y2,Y1⟩ ⟨.inl rfl,⟨Y2,rfl⟩,Y3,rfl,Y1⟩)⟩
   ·have he:=Zb he
    exact⟨rfl,_,_,(Za [(900,10000001)] (l:=[(4,.c (.own 900 false)),(5,.c (.bool true))]) (st':=[(900,.sl 3 y0_ out .shallow)]) rfl rfl Y3 ⟨Y3,.inr rfl,Y1⟩),he⟩
 ·have he:=Zb he
  exact⟨rfl,_,_,(Za [(900,19)] (l:=[(4,.c (.own 900 false)),(5,.c (.bool false))]) (st':=[(900,.sl 3 y0_ ([]:List Int) .shallow)]) rfl rfl Y3 ⟨Y3,.inr rfl,Y1⟩),he⟩
def ZjY:Con:=fun args st=>match args,st with
  |[.agg [.imm (.int .i64) a0_0,.imm (.pair (.int .i64) (.pair (.sl (.int .i64)) (.pair (.sl (.int .i64)) (.pair (.int .i64) (.sl (.sl (.int .i64))))))) a0_1],.c (.imm (.int .i64) a1),.c (.int .i64 a2)],[]=>.opt (Int×(List Int)×(List D9_)) (ZfP (a0_0,a0_1) a1 a2) (fun r=>.ret (.tup [.c (.int .i64 r.1),.c (.own 900 false),.c (.own 901 false)]) [(900,.sl 3 y0_ r.2.1 .shallow),(901,.sl 96 y9_ r.2.2 (.deep true .no))])
  |_,_=>.fail
def ZjK:Cfg:={ y:=tys,n:=99,h:=0,tab:=[(62,ZkK),(63,Zlh),(64,Zg9),(65,ZoE),(66,ZjZ),(67,ZjW)],cut:=[8,9,14],hand:=[],good:=[],deep:=[45,78],sched:=[(7,(.first 1 (.first 2 (.first 3 (.alt 0 (.alt 4 (.first 5 (.alt 6 (.first 7 (.first 8 (.first 9 (.alt 10 (.alt 11 (.first 12 .done) .stop) .stop)))) (.alt 10 (.alt 6 (.first 7 (.first 8 (.first 9 (.alt 11 (.first 12 .done) .stop)))) .stop) .stop))) (.alt 10 (.alt 4 (.first 5 (.alt 6 (.first 7 (.first 8 (.first 9 (.alt 11 (.first 12 .done) .stop)))) .stop)) .stop) .stop)) (.alt 4 (.first 5 (.alt 0 (.alt 6 (.first 7 (.first 8 (.first 9 (.alt 10 (.alt 11 (.first 12 .done) .stop) .stop)))) (.alt 10 (.alt 6 (.first 7 (.first 8 (.first 9 (.alt 11 (.first 12 .done) .stop)))) .stop) .stop)) (.alt 10 (.alt 0 (.alt 6 (.first 7 (.first 8 (.first 9 (.alt 11 (.first 12 .done) .stop)))) .stop) .stop) .stop))) (.alt 10 (.alt 0 (.alt 4 (.first 5 (.alt 6 (.first 7 (.first 8 (.first 9 (.alt 11 (.first 12 .done) .stop)))) .stop)) .stop) (.alt 4 (.first 5 (.alt 0 (.alt 6 (.first 7 (.first 8 (.first 9 (.alt 11 (.first 12 .done) .stop)))) .stop) .stop)) .stop)) .stop)))))))],frz:=[49] }
theorem ZeL:Zs Tryz.prog ZjK:=by
  refine Zn ?_
  simp only[ZjK,List.forall_mem_cons]
  exact⟨Zub,ZrR,ZqQ,Zxy,ZtE,ZtB,fun p h=>by cases h⟩
theorem ZtD:Zq Tryz.prog 13 ZjY:=by
 refine Zm (C:=ZjK) mixed Ze ZeL (fn:=Tryz.f13) (c:=bd Tryz.f13) (by kernel_rfl) (by kernel_rfl) (by kernel_rfl) (by kernel_rfl) ?_
 intro args st k he
 unfold ZjY at he
 split at he
 rotate_left
 ·exact he.elim
 rename_i a0_0 a0_1 a1 a2
 have he:Ok (ZfP (a0_0,a0_1) a1 a2) (fun r=>k (.tup [.c (.int .i64 r.1),.c (.own 900 false),.c (.own 901 false)]) [(900,.sl 3 y0_ r.2.1 .shallow),(901,.sl 96 y9_ r.2.2 (.deep true .no))]):=he
 refine⟨rfl,rfl,?_⟩
 refine Zk he fun r1_ he=>?_
 refine ZK he (fun he=>?_) fun he=>?_
 ·refine Zk he fun r2_ he=>?_
  refine ZK he (fun he=>?_) fun he=>?_
  ·refine ZK he (fun he=>?_) fun he=>?_
   ·refine ZK he (fun he=>?_) fun he=>?_
    ·refine Zh he (fun he=>?_) fun he=>?_
     ·have he:=Zb he
      exact⟨rfl,_,_,(Za [(900,44),(901,45)] (l:=[(6,.c (.int .i64 (3:Int))),(7,.c (.own 900 false)),(8,.c (.own 901 false))]) (st':=[(900,.sl 3 y0_ ([]:List Int) .shallow),(901,.sl 96 y9_ ([]:List D9_) (.deep true .no))]) rfl rfl ⟨Y2,Y2,Y1⟩ ⟨rfl,Y3,Y3,Y1⟩),he⟩
     ·refine Zl mixed Ze ZeL (S:=(List Int)) (I:=(fun i1=>(Zo [(1,.c (.imm y0_ a1)),(2,.c (.int .i64 a2)),(3,.c (.ptr 10000000 0)),(9,.c (.imm y6_ r1_.2)),(11,.c (.own 10000001 false))],[(10000000,.rc [.imm y0_ (a0_0,a0_1).1,.imm y4_ (a0_0,a0_1).2]),(10000001,.sl 3 y0_ i1 .shallow)]))) (f:=ZbS (a0_0,a0_1) a1 a2 r1_) (K:=(fun r=>k (.tup [.c (.int .i64 r.1),.c (.own 900 false),.c (.own 901 false)]) [(900,.sl 3 y0_ r.2.1 .shallow),(901,.sl 96 y9_ r.2.2 (.deep true .no))])) he ((Zfg [21900]).trans (Za [(10000000,3),(10000001,46)] (l:=[(1,.c (.imm y0_ a1)),(2,.c (.int .i64 a2)),(3,.c (.ptr 10000000 0)),(9,.c (.imm y6_ r1_.2)),(11,.c (.own 10000001 false))]) (st':=[(10000000,.rc [.imm y0_ (a0_0,a0_1).1,.imm y4_ (a0_0,a0_1).2]),(10000001,.sl 3 y0_ ([]:List Int) .shallow)]) rfl rfl ⟨⟨.inl rfl,.inl rfl,Y1⟩,Y2,Y1⟩ ⟨.inl rfl,rfl,⟨Y2,rfl⟩,.inr (.inr ⟨_,_,_,rfl,rfl⟩),Y3,Y1⟩)) ?_
      rintro i1 J1 he
      refine Zc he fun he=>?_
      refine Zt mixed Ze ZeL (S:=(List D6_)) (I:=(fun i2=>(Zo [(1,.c (.imm y0_ a1)),(2,.c (.int .i64 a2)),(3,.c (.ptr 10005000 0)),(9,.c (.imm y6_ r1_.2)),(11,.c (.own 10005001 false)),(12,.c (.own 10005002 false))],[(10005000,.rc [.imm y0_ (a0_0,a0_1).1,.imm y4_ (a0_0,a0_1).2]),(10005001,.sl 3 y0_ i1 .shallow),(10005002,.sl 89 y6_ i2 .shallow)]))) (B:=fun s=>Ok (Zcj (a0_0,a0_1) a2 i1 s) (LK J1 (fun r=>k (.tup [.c (.int .i64 r.1),.c (.own 900 false),.c (.own 901 false)]) [(900,.sl 3 y0_ r.2.1 .shallow),(901,.sl 96 y9_ r.2.2 (.deep true .no))]))) ?_ ?_
      ·rintro i2 he
       refine Zk he fun r11_ he=>?_
       refine Zh he (fun he=>?_) fun he=>?_
       ·have he:=Zb he
        exact⟨rfl,_,_,(Za [(900,10005001),(901,78)] (l:=[(6,.c (.int .i64 r11_.1)),(7,.c (.own 900 false)),(8,.c (.own 901 false))]) (st':=[(900,.sl 3 y0_ i1 .shallow),(901,.sl 96 y9_ ([]:List D9_) (.deep true .no))]) rfl rfl ⟨Y2,Y2,Y1⟩ ⟨rfl,Y3,Y3,Y1⟩),he⟩
       ·refine Zt mixed Ze ZeL (S:=Unit) (I:=(fun _=>(Zo [(1,.c (.imm y0_ a1)),(2,.c (.int .i64 a2)),(3,.c (.ptr 10006000 0)),(9,.c (.imm y6_ r1_.2)),(11,.c (.own 10006001 false)),(15,.c (.int .i64 r11_.1)),(16,.c (.own 10006002 false)),(17,.c (.own 10006003 false))],[(10006000,.rc [.imm y0_ (a0_0,a0_1).1,.imm y4_ (a0_0,a0_1).2]),(10006001,.sl 3 y0_ i1 .shallow),(10006002,.sl 4 .bool r11_.2.1 .shallow),(10006003,.sl 96 y9_ r11_.2.2 (.deep true .no))]))) (B:=fun s=>Ok (Zdy (a0_0,a0_1) i1 r11_ s) (LK J1 (fun r=>k (.tup [.c (.int .i64 r.1),.c (.own 900 false),.c (.own 901 false)]) [(900,.sl 3 y0_ r.2.1 .shallow),(901,.sl 96 y9_ r.2.2 (.deep true .no))]))) ?_ ?_
        ·rintro⟨⟩ he
         refine Zh he (fun he=>?_) fun he=>?_
         ·have he:=Zb he
          exact⟨rfl,_,_,(Za [(900,10006001),(901,10006003)] (l:=[(6,.c (.int .i64 (1:Int))),(7,.c (.own 900 false)),(8,.c (.own 901 false))]) (st':=[(900,.sl 3 y0_ i1 .shallow),(901,.sl 96 y9_ r11_.2.2 (.deep true .no))]) rfl rfl ⟨Y2,Y2,Y1⟩ ⟨rfl,Y3,Y3,Y1⟩),he⟩
         ·refine Zk he fun r12_ he=>?_
          have he:=Zb he
          exact⟨r12_.2,he,(Za [(10000000,10006000),(10000001,97900)] rfl rfl ⟨⟨.inl rfl,.inl rfl,Y1⟩,Y2,Y1⟩ ⟨.inl rfl,rfl,⟨Y2,rfl⟩,.inl rfl,Y3,Y1⟩)⟩
        ·skip
         refine Zh he (fun he=>?_) fun he=>?_
         ·refine Zh he (fun he=>?_) fun he=>?_
          ·have he:=Zb he
           exact⟨rfl,_,_,(Za [(900,10005001),(901,71901)] (l:=[(6,.c (.int .i64 r11_.1)),(7,.c (.own 900 false)),(8,.c (.own 901 false))]) (st':=[(900,.sl 3 y0_ i1 .shallow),(901,.sl 96 y9_ r11_.2.2 (.deep true .no))]) rfl rfl ⟨Y2,Y2,Y1⟩ ⟨rfl,Y3,Y3,Y1⟩),he⟩
          ·exact⟨(),he,(Za [(10006000,10005000),(10006001,10005001),(10006002,71900),(10006003,71901)] rfl rfl ⟨⟨.inl rfl,.inl rfl,Y1⟩,Y2,Y2,Y2,Y1⟩ ⟨.inl rfl,rfl,⟨Y2,rfl⟩,.inl rfl,Y3,rfl,Y3,Y3,Y1⟩)⟩
         ·exact⟨(),he,(Za [(10006000,10005000),(10006001,10005001),(10006002,71900),(10006003,71901)] rfl rfl ⟨⟨.inl rfl,.inl rfl,Y1⟩,Y2,Y2,Y2,Y1⟩ ⟨.inl rfl,rfl,⟨Y2,rfl⟩,.inl rfl,Y3,rfl,Y3,Y3,Y1⟩)⟩
      ·skip
       refine Zh he (fun he=>?_) fun he=>?_
       ·refine Zt mixed Ze ZeL (S:=Int×(List D5_)) (I:=(fun (i_11,i_01)=>(Zo [(1,.c (.imm y0_ a1)),(2,.c (.int .i64 a2)),(3,.c (.ptr 10004000 0)),(9,.c (.imm y6_ r1_.2)),(11,.c (.own 10004001 false)),(12,.c (.own 10004002 false)),(13,.c (.ptr 10004003 0))],[(10004000,.rc [.imm y0_ (a0_0,a0_1).1,.imm y4_ (a0_0,a0_1).2]),(10004001,.sl 3 y0_ i1 .shallow),(10004002,.sl 89 y6_ (([]:List D6_)++r1_.2) .shallow),(10004003,.rc [.own 10004004 false,.int .i64 i_11]),(10004004,.sl 155 y5_ i_01 .shallow)]))) (B:=fun s=>Ok (Zi3 (a0_0,a0_1) a2 r1_ i1 s) (LK J1 (fun r=>k (.tup [.c (.int .i64 r.1),.c (.own 900 false),.c (.own 901 false)]) [(900,.sl 3 y0_ r.2.1 .shallow),(901,.sl 96 y9_ r.2.2 (.deep true .no))]))) ?_ ?_
        ·rintro⟨i_11,i_01⟩ he
         refine Zc he fun he=>?_
         exact⟨((([]:List D6_)++r1_.2)++[(i_01,i_11)]),he,(Za [(10005000,10004000),(10005001,10004001),(10005002,66)] rfl rfl ⟨⟨.inl rfl,.inl rfl,Y1⟩,Y2,Y2,Y1⟩ ⟨.inl rfl,rfl,⟨Y2,rfl⟩,.inl rfl,Y3,Y3,Y1⟩)⟩
        ·skip
         refine And.intro (by kernel_rfl) ?_
         obtain⟨r9_,hq1,he⟩:=Zb1 he
         have he:=ZU he
         have hq2:=he.1
         have he:=he.2
         obtain⟨r10_,hq3,he⟩:=Zb1 he
         refine And.intro ?_ (And.intro ?_ (And.intro ?_ (Y1)))
         ·skip
          refine Y5 ?_ ?_
          ·skip
           refine⟨r9_,hq1,?_⟩
           refine And.intro hq2 ?_
           refine Y5 ?_ ?_
           ·skip
            refine⟨r10_,hq3,?_⟩
            refine Y4 ?_
            refine Y4 ?_
            exact⟨(r10_.2.1,r10_.2.2),he,(Za [(10004000,10000000),(10004001,10000001),(10004002,49),(10004003,13),(10004004,61901)] rfl rfl ⟨⟨.inl rfl,.inl rfl,Y1⟩,Y2,Y2,⟨Y3,rfl,Y1⟩,Y2,Y1⟩ ⟨.inl rfl,rfl,⟨Y2,rfl⟩,.inl rfl,Y3,Y3,⟨Y2,rfl⟩,Y1⟩)⟩
           ·skip
            refine Y4 ?_
            refine⟨r10_,hq3,?_⟩
            refine Y4 ?_
            exact⟨(r10_.2.1,r10_.2.2),he,(Za [(10004000,10000000),(10004001,10000001),(10004002,49),(10004003,13),(10004004,61901)] rfl rfl ⟨⟨.inl rfl,.inl rfl,Y1⟩,Y2,Y2,⟨Y3,rfl,Y1⟩,Y2,Y1⟩ ⟨.inl rfl,rfl,⟨Y2,rfl⟩,.inl rfl,Y3,Y3,⟨Y2,rfl⟩,Y1⟩)⟩
          ·skip
           refine Y4 ?_
           refine⟨r9_,hq1,?_⟩
           refine And.intro hq2 ?_
           refine Y4 ?_
           refine⟨r10_,hq3,?_⟩
           refine Y4 ?_
           exact⟨(r10_.2.1,r10_.2.2),he,(Za [(10004000,10000000),(10004001,10000001),(10004002,49),(10004003,13),(10004004,61901)] rfl rfl ⟨⟨.inl rfl,.inl rfl,Y1⟩,Y2,Y2,⟨Y3,rfl,Y1⟩,Y2,Y1⟩ ⟨.inl rfl,rfl,⟨Y2,rfl⟩,.inl rfl,Y3,Y3,⟨Y2,rfl⟩,Y1⟩)⟩
         ·skip
          refine⟨r9_,hq1,?_⟩
          refine And.intro hq2 ?_
          refine Y5 ?_ ?_
          ·skip
           refine Y5 ?_ ?_
           ·skip
            refine⟨r10_,hq3,?_⟩
            refine Y4 ?_
            refine Y4 ?_
            exact⟨(r10_.2.1,r10_.2.2),he,(Za [(10004000,10000000),(10004001,10000001),(10004002,49),(10004003,13),(10004004,61901)] rfl rfl ⟨⟨.inl rfl,.inl rfl,Y1⟩,Y2,Y2,⟨Y3,rfl,Y1⟩,Y2,Y1⟩ ⟨.inl rfl,rfl,⟨Y2,rfl⟩,.inl rfl,Y3,Y3,⟨Y2,rfl⟩,Y1⟩)⟩
           ·skip
            refine Y4 ?_
            refine⟨r10_,hq3,?_⟩
            refine Y4 ?_
            exact⟨(r10_.2.1,r10_.2.2),he,(Za [(10004000,10000000),(10004001,10000001),(10004002,49),(10004003,13),(10004004,61901)] rfl rfl ⟨⟨.inl rfl,.inl rfl,Y1⟩,Y2,Y2,⟨Y3,rfl,Y1⟩,Y2,Y1⟩ ⟨.inl rfl,rfl,⟨Y2,rfl⟩,.inl rfl,Y3,Y3,⟨Y2,rfl⟩,Y1⟩)⟩
          ·skip
           refine Y4 ?_
           refine Y4 ?_
           refine⟨r10_,hq3,?_⟩
           refine Y4 ?_
           exact⟨(r10_.2.1,r10_.2.2),he,(Za [(10004000,10000000),(10004001,10000001),(10004002,49),(10004003,13),(10004004,61901)] rfl rfl ⟨⟨.inl rfl,.inl rfl,Y1⟩,Y2,Y2,⟨Y3,rfl,Y1⟩,Y2,Y1⟩ ⟨.inl rfl,rfl,⟨Y2,rfl⟩,.inl rfl,Y3,Y3,⟨Y2,rfl⟩,Y1⟩)⟩
         ·skip
          refine Y5 ?_ ?_
          ·skip
           refine Y4 ?_
           refine⟨r9_,hq1,?_⟩
           refine And.intro hq2 ?_
           refine Y4 ?_
           refine⟨r10_,hq3,?_⟩
           refine Y4 ?_
           exact⟨(r10_.2.1,r10_.2.2),he,(Za [(10004000,10000000),(10004001,10000001),(10004002,49),(10004003,13),(10004004,61901)] rfl rfl ⟨⟨.inl rfl,.inl rfl,Y1⟩,Y2,Y2,⟨Y3,rfl,Y1⟩,Y2,Y1⟩ ⟨.inl rfl,rfl,⟨Y2,rfl⟩,.inl rfl,Y3,Y3,⟨Y2,rfl⟩,Y1⟩)⟩
          ·skip
           refine⟨r9_,hq1,?_⟩
           refine And.intro hq2 ?_
           refine Y4 ?_
           refine Y4 ?_
           refine⟨r10_,hq3,?_⟩
           refine Y4 ?_
           exact⟨(r10_.2.1,r10_.2.2),he,(Za [(10004000,10000000),(10004001,10000001),(10004002,49),(10004003,13),(10004004,61901)] rfl rfl ⟨⟨.inl rfl,.inl rfl,Y1⟩,Y2,Y2,⟨Y3,rfl,Y1⟩,Y2,Y1⟩ ⟨.inl rfl,rfl,⟨Y2,rfl⟩,.inl rfl,Y3,Y3,⟨Y2,rfl⟩,Y1⟩)⟩
       ·exact⟨(([]:List D6_)++r1_.2),he,(Za [(10005000,10000000),(10005001,10000001),(10005002,49)] rfl rfl ⟨⟨.inl rfl,.inl rfl,Y1⟩,Y2,Y2,Y1⟩ ⟨.inl rfl,rfl,⟨Y2,rfl⟩,.inl rfl,Y3,Y3,Y1⟩)⟩
    ·have he:=Zb he
     exact⟨rfl,_,_,(Za [(900,44),(901,45)] (l:=[(6,.c (.int .i64 (3:Int))),(7,.c (.own 900 false)),(8,.c (.own 901 false))]) (st':=[(900,.sl 3 y0_ ([]:List Int) .shallow),(901,.sl 96 y9_ ([]:List D9_) (.deep true .no))]) rfl rfl ⟨Y2,Y2,Y1⟩ ⟨rfl,Y3,Y3,Y1⟩),he⟩
   ·have he:=Zb he
    exact⟨rfl,_,_,(Za [(900,44),(901,45)] (l:=[(6,.c (.int .i64 (3:Int))),(7,.c (.own 900 false)),(8,.c (.own 901 false))]) (st':=[(900,.sl 3 y0_ ([]:List Int) .shallow),(901,.sl 96 y9_ ([]:List D9_) (.deep true .no))]) rfl rfl ⟨Y2,Y2,Y1⟩ ⟨rfl,Y3,Y3,Y1⟩),he⟩
  ·have he:=Zb he
   exact⟨rfl,_,_,(Za [(900,44),(901,45)] (l:=[(6,.c (.int .i64 (3:Int))),(7,.c (.own 900 false)),(8,.c (.own 901 false))]) (st':=[(900,.sl 3 y0_ ([]:List Int) .shallow),(901,.sl 96 y9_ ([]:List D9_) (.deep true .no))]) rfl rfl ⟨Y2,Y2,Y1⟩ ⟨rfl,Y3,Y3,Y1⟩),he⟩
 ·have he:=Zb he
  exact⟨rfl,_,_,(Za [(900,44),(901,45)] (l:=[(6,.c (.int .i64 (3:Int))),(7,.c (.own 900 false)),(8,.c (.own 901 false))]) (st':=[(900,.sl 3 y0_ ([]:List Int) .shallow),(901,.sl 96 y9_ ([]:List D9_) (.deep true .no))]) rfl rfl ⟨Y2,Y2,Y1⟩ ⟨rfl,Y3,Y3,Y1⟩),he⟩
def Zc1:Con:=fun args st=>match args,st with
  |[.c (.int .i64 n),.c (.int .i64 low),.c (.int .i64 high)],[]=>.opt (Bool) (ZbW n low high) (fun r=>.ret (.c (.bool r)) [])
  |_,_=>.fail
def Zs0:Cfg:={ y:=tys,n:=15,h:=0,tab:=[],cut:=[],hand:=[],good:=[],deep:=[],sched:=[] }
theorem ZyS:Zs Tryz.prog Zs0:=Zn (fun p h=>by cases h)
theorem ZdP:Zq Tryz.prog 127 Zc1:=by
 refine Zm (C:=Zs0) mixed Ze ZyS (fn:=Tryz.f127) (c:=bd Tryz.f127) (by kernel_rfl) (by kernel_rfl) (by kernel_rfl) (by kernel_rfl) ?_
 intro args st k he
 unfold Zc1 at he
 split at he
 rotate_left
 ·exact he.elim
 rename_i n low high
 have he:Ok (ZbW n low high) (fun r=>k (.c (.bool r)) []):=he
 refine⟨rfl,rfl,?_⟩
 refine Zh he (fun he=>?_) fun he=>?_
 ·have he:=Zb he
  exact⟨rfl,_,_,Leads.refl _ _,he⟩
 ·have he:=Zb he
  exact⟨rfl,_,_,Leads.refl _ _,he⟩
def ZkJ:Con:=fun args st=>match args,st with
  |[.c (.imm (.int .i64) s_),.c (.int .i64 v)],[]=>.opt (Int) (Zgz s_ v) (fun r=>.ret (.c (.int .i64 r)) [])
  |_,_=>.fail
def Zo4:Cfg:={ y:=tys,n:=19,h:=0,tab:=[],cut:=[],hand:=[],good:=[],deep:=[],sched:=[] }
theorem Zpi:Zs Tryz.prog Zo4:=Zn (fun p h=>by cases h)
theorem Zua:Zq Tryz.prog 237 ZkJ:=by
 refine Zm (C:=Zo4) mixed Ze Zpi (fn:=Tryz.f237) (c:=bd Tryz.f237) (by kernel_rfl) (by kernel_rfl) (by kernel_rfl) (by kernel_rfl) ?_
 intro args st k he
 unfold ZkJ at he
 split at he
 rotate_left
 ·exact he.elim
 rename_i s_ v
 have he:Ok (Zgz s_ v) (fun r=>k (.c (.int .i64 r)) []):=he
 refine⟨rfl,rfl,?_⟩
 refine Zl mixed Ze Zpi (S:=Int) (I:=(fun i=>(Zo [(0,.c (.imm y0_ s_)),(1,.c (.int .i64 v)),(7,.c (.int .i64 (s_.length:Int))),(8,.c (.int .i64 i))],[]))) (f:=Zcv s_ v) (K:=(fun r=>k (.c (.int .i64 r)) [])) he (Za [] rfl rfl trivial ⟨.inl rfl,rfl,rfl,rfl,Y1⟩) ?_
 rintro i J1 he
 refine Zh he (fun he=>?_) fun he=>?_
 ·refine Zc he fun he=>?_
  refine Zh he (fun he=>?_) fun he=>?_
  ·have he:=Zb he
   exact⟨rfl,_,_,Leads.refl _ _,he⟩
  ·refine Zc he fun he=>?_
   have he:=Zb he
   exact⟨(i+(1:Int)),he,(Za [] rfl rfl trivial ⟨.inl rfl,rfl,rfl,rfl,Y1⟩)⟩
 ·have he:=Zb he
  exact⟨rfl,_,_,Leads.refl _ _,he⟩
def Zd2:Con:=fun args st=>match args,st with
  |[.c (.imm (.int .i64) s_),.c (.int .i64 v)],[]=>.opt (Bool) (ZbF s_ v) (fun r=>.ret (.c (.bool r)) [])
  |_,_=>.fail
def Zh6:Cfg:={ y:=tys,n:=9,h:=0,tab:=[(237,ZkJ)],cut:=[],hand:=[],good:=[],deep:=[],sched:=[] }
theorem Zsd:Zs Tryz.prog Zh6:=by
  refine Zn ?_
  simp only[Zh6,List.forall_mem_cons]
  exact⟨Zua,fun p h=>by cases h⟩
theorem Zif:Zq Tryz.prog 178 Zd2:=by
 refine Zm (C:=Zh6) mixed Ze Zsd (fn:=Tryz.f178) (c:=bd Tryz.f178) (by kernel_rfl) (by kernel_rfl) (by kernel_rfl) (by kernel_rfl) ?_
 intro args st k he
 unfold Zd2 at he
 split at he
 rotate_left
 ·exact he.elim
 rename_i s_ v
 have he:Ok (ZbF s_ v) (fun r=>k (.c (.bool r)) []):=he
 refine⟨rfl,rfl,?_⟩
 refine Zk he fun r1_ he=>?_
 have he:=Zb he
 exact⟨rfl,_,_,Leads.refl _ _,he⟩
def ZkG:Con:=fun args st=>match args,st with
  |[.c (.int .i64 n)],[]=>.opt (Bool) (ZiR n) (fun r=>.ret (.c (.bool r)) [])
  |_,_=>.fail
def Zkw:Cfg:={ y:=tys,n:=10,h:=0,tab:=[(127,Zc1)],cut:=[],hand:=[],good:=[],deep:=[],sched:=[] }
theorem ZuN:Zs Tryz.prog Zkw:=by
  refine Zn ?_
  simp only[Zkw,List.forall_mem_cons]
  exact⟨ZdP,fun p h=>by cases h⟩
theorem Zt6:Zq Tryz.prog 199 ZkG:=by
 refine Zm (C:=Zkw) mixed Ze ZuN (fn:=Tryz.f199) (c:=bd Tryz.f199) (by kernel_rfl) (by kernel_rfl) (by kernel_rfl) (by kernel_rfl) ?_
 intro args st k he
 unfold ZkG at he
 split at he
 rotate_left
 ·exact he.elim
 rename_i n
 have he:Ok (ZiR n) (fun r=>k (.c (.bool r)) []):=he
 refine⟨rfl,rfl,?_⟩
 refine ZK he (fun he=>?_) fun he=>?_
 ·refine Zk he fun r1_ he=>?_
  have he:=Zb he
  exact⟨rfl,_,_,Leads.refl _ _,he⟩
 ·have he:=Zb he
  exact⟨rfl,_,_,Leads.refl _ _,he⟩
def ZcX:Con:=fun args st=>match args,st with
  |[.c (.imm (.int .i64) s_),.c (.fn 199 [])],[]=>.opt (Int) (Zb0 s_) (fun r=>.ret (.c (.int .i64 r)) [])
  |_,_=>.fail
def ZcW:Cfg:={ y:=tys,n:=19,h:=0,tab:=[(199,ZkG)],cut:=[],hand:=[],good:=[],deep:=[],sched:=[] }
theorem Zem:Zs Tryz.prog ZcW:=by
  refine Zn ?_
  simp only[ZcW,List.forall_mem_cons]
  exact⟨Zt6,fun p h=>by cases h⟩
theorem ZiU:Zq Tryz.prog 186 ZcX:=by
 refine Zm (C:=ZcW) mixed Ze Zem (fn:=Tryz.f186) (c:=bd Tryz.f186) (by kernel_rfl) (by kernel_rfl) (by kernel_rfl) (by kernel_rfl) ?_
 intro args st k he
 unfold ZcX at he
 split at he
 rotate_left
 ·exact he.elim
 rename_i s_
 have he:Ok (Zb0 s_) (fun r=>k (.c (.int .i64 r)) []):=he
 refine⟨rfl,rfl,?_⟩
 refine Zl mixed Ze Zem (S:=Int) (I:=(fun i=>(Zo [(0,.c (.imm y0_ s_)),(1,.c (.fn 199 [])),(7,.c (.int .i64 (s_.length:Int))),(8,.c (.int .i64 i))],[]))) (f:=Zba s_) (K:=(fun r=>k (.c (.int .i64 r)) [])) he (Za [] rfl rfl trivial ⟨.inl rfl,⟨rfl,Y1⟩,rfl,rfl,Y1⟩) ?_
 rintro i J1 he
 refine Zh he (fun he=>?_) fun he=>?_
 ·refine Zc he fun he=>?_
  refine Zk he fun r1_ he=>?_
  refine Zh he (fun he=>?_) fun he=>?_
  ·have he:=Zb he
   exact⟨rfl,_,_,Leads.refl _ _,he⟩
  ·refine Zc he fun he=>?_
   have he:=Zb he
   exact⟨(i+(1:Int)),he,(Za [] rfl rfl trivial ⟨.inl rfl,⟨rfl,Y1⟩,rfl,rfl,Y1⟩)⟩
 ·have he:=Zb he
  exact⟨rfl,_,_,Leads.refl _ _,he⟩
def Zcr:Con:=fun args st=>match args,st with
  |[.c (.imm (.int .i64) s_),.c (.fn 199 [])],[]=>.opt (Bool) (Z9 s_) (fun r=>.ret (.c (.bool r)) [])
  |_,_=>.fail
def Zcp:Cfg:={ y:=tys,n:=9,h:=0,tab:=[(186,ZcX)],cut:=[],hand:=[],good:=[],deep:=[],sched:=[] }
theorem ZhU:Zs Tryz.prog Zcp:=by
  refine Zn ?_
  simp only[Zcp,List.forall_mem_cons]
  exact⟨ZiU,fun p h=>by cases h⟩
theorem ZhS:Zq Tryz.prog 125 Zcr:=by
 refine Zm (C:=Zcp) mixed Ze ZhU (fn:=Tryz.f125) (c:=bd Tryz.f125) (by kernel_rfl) (by kernel_rfl) (by kernel_rfl) (by kernel_rfl) ?_
 intro args st k he
 unfold Zcr at he
 split at he
 rotate_left
 ·exact he.elim
 rename_i s_
 have he:Ok (Z9 s_) (fun r=>k (.c (.bool r)) []):=he
 refine⟨rfl,rfl,?_⟩
 refine Zk he fun r1_ he=>?_
 have he:=Zb he
 exact⟨rfl,_,_,Leads.refl _ _,he⟩
def ZiJ:Con:=fun args st=>match args,st with
  |[.c (.int .i64 n)],[]=>.opt (Bool) (Zhx n) (fun r=>.ret (.c (.bool r)) [])
  |_,_=>.fail
def ZiD:Cfg:={ y:=tys,n:=6,h:=0,tab:=[(127,Zc1)],cut:=[],hand:=[],good:=[],deep:=[],sched:=[] }
theorem ZsT:Zs Tryz.prog ZiD:=by
  refine Zn ?_
  simp only[ZiD,List.forall_mem_cons]
  exact⟨ZdP,fun p h=>by cases h⟩
theorem Zsz:Zq Tryz.prog 202 ZiJ:=by
 refine Zm (C:=ZiD) mixed Ze ZsT (fn:=Tryz.f202) (c:=bd Tryz.f202) (by kernel_rfl) (by kernel_rfl) (by kernel_rfl) (by kernel_rfl) ?_
 intro args st k he
 unfold ZiJ at he
 split at he
 rotate_left
 ·exact he.elim
 rename_i n
 have he:Ok (Zhx n) (fun r=>k (.c (.bool r)) []):=he
 refine⟨rfl,rfl,?_⟩
 refine Zk he fun r1_ he=>?_
 have he:=Zb he
 exact⟨rfl,_,_,Leads.refl _ _,he⟩
def ZcI:Con:=fun args st=>match args,st with
  |[.c (.imm (.int .i64) s_),.c (.fn 202 [])],[]=>.opt (Int) (ZbQ s_) (fun r=>.ret (.c (.int .i64 r)) [])
  |_,_=>.fail
def ZcE:Cfg:={ y:=tys,n:=19,h:=0,tab:=[(202,ZiJ)],cut:=[],hand:=[],good:=[],deep:=[],sched:=[] }
theorem Zd7:Zs Tryz.prog ZcE:=by
  refine Zn ?_
  simp only[ZcE,List.forall_mem_cons]
  exact⟨Zsz,fun p h=>by cases h⟩
theorem Zih:Zq Tryz.prog 186 ZcI:=by
 refine Zm (C:=ZcE) mixed Ze Zd7 (fn:=Tryz.f186) (c:=bd Tryz.f186) (by kernel_rfl) (by kernel_rfl) (by kernel_rfl) (by kernel_rfl) ?_
 intro args st k he
 unfold ZcI at he
 split at he
 rotate_left
 ·exact he.elim
 rename_i s_
 have he:Ok (ZbQ s_) (fun r=>k (.c (.int .i64 r)) []):=he
 refine⟨rfl,rfl,?_⟩
 refine Zl mixed Ze Zd7 (S:=Int) (I:=(fun i=>(Zo [(0,.c (.imm y0_ s_)),(1,.c (.fn 202 [])),(7,.c (.int .i64 (s_.length:Int))),(8,.c (.int .i64 i))],[]))) (f:=Z3 s_) (K:=(fun r=>k (.c (.int .i64 r)) [])) he (Za [] rfl rfl trivial ⟨.inl rfl,⟨rfl,Y1⟩,rfl,rfl,Y1⟩) ?_
 rintro i J1 he
 refine Zh he (fun he=>?_) fun he=>?_
 ·refine Zc he fun he=>?_
  refine Zk he fun r1_ he=>?_
  refine Zh he (fun he=>?_) fun he=>?_
  ·have he:=Zb he
   exact⟨rfl,_,_,Leads.refl _ _,he⟩
  ·refine Zc he fun he=>?_
   have he:=Zb he
   exact⟨(i+(1:Int)),he,(Za [] rfl rfl trivial ⟨.inl rfl,⟨rfl,Y1⟩,rfl,rfl,Y1⟩)⟩
 ·have he:=Zb he
  exact⟨rfl,_,_,Leads.refl _ _,he⟩
def Zcd:Con:=fun args st=>match args,st with
  |[.c (.imm (.int .i64) s_),.c (.fn 202 [])],[]=>.opt (Bool) (Z0 s_) (fun r=>.ret (.c (.bool r)) [])
  |_,_=>.fail
def Zca:Cfg:={ y:=tys,n:=9,h:=0,tab:=[(186,ZcI)],cut:=[],hand:=[],good:=[],deep:=[],sched:=[] }
theorem ZhJ:Zs Tryz.prog Zca:=by
  refine Zn ?_
  simp only[Zca,List.forall_mem_cons]
  exact⟨Zih,fun p h=>by cases h⟩
theorem ZhA:Zq Tryz.prog 125 Zcd:=by
 refine Zm (C:=Zca) mixed Ze ZhJ (fn:=Tryz.f125) (c:=bd Tryz.f125) (by kernel_rfl) (by kernel_rfl) (by kernel_rfl) (by kernel_rfl) ?_
 intro args st k he
 unfold Zcd at he
 split at he
 rotate_left
 ·exact he.elim
 rename_i s_
 have he:Ok (Z0 s_) (fun r=>k (.c (.bool r)) []):=he
 refine⟨rfl,rfl,?_⟩
 refine Zk he fun r1_ he=>?_
 have he:=Zb he
 exact⟨rfl,_,_,Leads.refl _ _,he⟩
def ZkH:Con:=fun args st=>match args,st with
  |[.c (.imm (.int .i64) row),.c (.ptr 0 0)],[(0,.rc [.int .i64 o0_0,.imm (.int .i64) o0_1,.imm (.int .i64) o0_2,.int .i64 o0_3,.imm (.sl (.int .i64)) o0_4])]=>.opt (Bool) (ZiS row (o0_0,(o0_1,(o0_2,(o0_3,o0_4))))) (fun r=>.ret (.c (.bool r)) [(0,.rc [.int .i64 o0_0,.imm y0_ o0_1,.imm y0_ o0_2,.int .i64 o0_3,.imm (.sl y0_) o0_4])])
  |_,_=>.fail
def Zkx:Cfg:={ y:=tys,n:=14,h:=1,tab:=[(125,Zcd)],cut:=[],hand:=[],good:=[],deep:=[],sched:=[] }
theorem ZuO:Zs Tryz.prog Zkx:=by
  refine Zn ?_
  simp only[Zkx,List.forall_mem_cons]
  exact⟨ZhA,fun p h=>by cases h⟩
theorem Zt7:Zq Tryz.prog 201 ZkH:=by
 refine Zm (C:=Zkx) mixed Ze ZuO (fn:=Tryz.f201) (c:=bd Tryz.f201) (by kernel_rfl) (by kernel_rfl) (by kernel_rfl) (by kernel_rfl) ?_
 intro args st k he
 unfold ZkH at he
 split at he
 rotate_left
 ·exact he.elim
 rename_i row o0_0 o0_1 o0_2 o0_3 o0_4
 have he:Ok (ZiS row (o0_0,(o0_1,(o0_2,(o0_3,o0_4))))) (fun r=>k (.c (.bool r)) [(0,.rc [.int .i64 o0_0,.imm y0_ o0_1,.imm y0_ o0_2,.int .i64 o0_3,.imm (.sl y0_) o0_4])]):=he
 refine⟨rfl,rfl,?_⟩
 refine ZK he (fun he=>?_) fun he=>?_
 ·refine Zk he fun r1_ he=>?_
  have he:=Zb he
  exact⟨rfl,_,_,(Za [] (l:=[(3,.c (.bool r1_))]) (st':=[(0,.rc [.int .i64 o0_0,.imm y0_ o0_1,.imm y0_ o0_2,.int .i64 o0_3,.imm (.sl y0_) o0_4])]) rfl rfl ⟨⟨rfl,.inl rfl,.inl rfl,rfl,.inl rfl,Y1⟩,Y1⟩ ⟨.inl rfl,Y1⟩),he⟩
 ·have he:=Zb he
  exact⟨rfl,_,_,(Za [] (l:=[(3,.c (.bool true))]) (st':=[(0,.rc [.int .i64 o0_0,.imm y0_ o0_1,.imm y0_ o0_2,.int .i64 o0_3,.imm (.sl y0_) o0_4])]) rfl rfl ⟨⟨rfl,.inl rfl,.inl rfl,rfl,.inl rfl,Y1⟩,Y1⟩ ⟨.inr rfl,Y1⟩),he⟩
def ZcJ:Con:=fun args st=>match args,st with
  |[.c (.imm (.sl (.int .i64)) s_),.c (.fn 201 [0])],[(0,.rc [.int .i64 o0_0,.imm (.int .i64) o0_1,.imm (.int .i64) o0_2,.int .i64 o0_3,.imm (.sl (.int .i64)) o0_4])]=>.opt (Int) (ZbR s_ (o0_0,(o0_1,(o0_2,(o0_3,o0_4))))) (fun r=>.ret (.c (.int .i64 r)) [(0,.rc [.int .i64 o0_0,.imm y0_ o0_1,.imm y0_ o0_2,.int .i64 o0_3,.imm (.sl y0_) o0_4])])
  |_,_=>.fail
def ZcF:Cfg:={ y:=tys,n:=19,h:=1,tab:=[(201,ZkH)],cut:=[],hand:=[],good:=[],deep:=[],sched:=[] }
theorem Zd8:Zs Tryz.prog ZcF:=by
  refine Zn ?_
  simp only[ZcF,List.forall_mem_cons]
  exact⟨Zt7,fun p h=>by cases h⟩
theorem Zii:Zq Tryz.prog 250 ZcJ:=by
 refine Zm (C:=ZcF) mixed Ze Zd8 (fn:=Tryz.f250) (c:=bd Tryz.f250) (by kernel_rfl) (by kernel_rfl) (by kernel_rfl) (by kernel_rfl) ?_
 intro args st k he
 unfold ZcJ at he
 split at he
 rotate_left
 ·exact he.elim
 rename_i s_ o0_0 o0_1 o0_2 o0_3 o0_4
 have he:Ok (ZbR s_ (o0_0,(o0_1,(o0_2,(o0_3,o0_4))))) (fun r=>k (.c (.int .i64 r)) [(0,.rc [.int .i64 o0_0,.imm y0_ o0_1,.imm y0_ o0_2,.int .i64 o0_3,.imm (.sl y0_) o0_4])]):=he
 refine⟨rfl,rfl,?_⟩
 refine Zl mixed Ze Zd8 (S:=Int) (I:=(fun i=>(Zo [(0,.c (.imm (.sl y0_) s_)),(1,.c (.fn 201 [0])),(7,.c (.int .i64 (s_.length:Int))),(8,.c (.int .i64 i))],[(0,.rc [.int .i64 (o0_0,(o0_1,(o0_2,(o0_3,o0_4)))).1,.imm y0_ (o0_0,(o0_1,(o0_2,(o0_3,o0_4)))).2.1,.imm y0_ (o0_0,(o0_1,(o0_2,(o0_3,o0_4)))).2.2.1,.int .i64 (o0_0,(o0_1,(o0_2,(o0_3,o0_4)))).2.2.2.1,.imm (.sl y0_) (o0_0,(o0_1,(o0_2,(o0_3,o0_4)))).2.2.2.2])]))) (f:=Z4 s_ (o0_0,(o0_1,(o0_2,(o0_3,o0_4))))) (K:=(fun r=>k (.c (.int .i64 r)) [(0,.rc [.int .i64 o0_0,.imm y0_ o0_1,.imm y0_ o0_2,.int .i64 o0_3,.imm (.sl y0_) o0_4])])) he (Za [] rfl rfl ⟨⟨rfl,.inl rfl,.inl rfl,rfl,.inl rfl,Y1⟩,Y1⟩ ⟨.inl rfl,⟨rfl,Y3⟩,rfl,rfl,Y1⟩) ?_
 rintro i J1 he
 refine Zh he (fun he=>?_) fun he=>?_
 ·refine Zc he fun he=>?_
  refine Zk he fun r1_ he=>?_
  refine Zh he (fun he=>?_) fun he=>?_
  ·have he:=Zb he
   exact⟨rfl,_,_,(Za [] (l:=[(4,.c (.int .i64 i))]) (st':=[(0,.rc [.int .i64 o0_0,.imm y0_ o0_1,.imm y0_ o0_2,.int .i64 o0_3,.imm (.sl y0_) o0_4])]) rfl rfl ⟨⟨rfl,.inl rfl,.inl rfl,rfl,.inl rfl,Y1⟩,Y1⟩ ⟨rfl,Y1⟩),he⟩
  ·refine Zc he fun he=>?_
   have he:=Zb he
   exact⟨(i+(1:Int)),he,(Za [] rfl rfl ⟨⟨rfl,.inl rfl,.inl rfl,rfl,.inl rfl,Y1⟩,Y1⟩ ⟨.inl rfl,⟨rfl,Y3⟩,rfl,rfl,Y1⟩)⟩
 ·have he:=Zb he
  exact⟨rfl,_,_,(Za [] (l:=[(4,.c (.int .i64 (-1:Int)))]) (st':=[(0,.rc [.int .i64 o0_0,.imm y0_ o0_1,.imm y0_ o0_2,.int .i64 o0_3,.imm (.sl y0_) o0_4])]) rfl rfl ⟨⟨rfl,.inl rfl,.inl rfl,rfl,.inl rfl,Y1⟩,Y1⟩ ⟨rfl,Y1⟩),he⟩
end
end Go.AE.Y
