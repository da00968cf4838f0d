/-
  Walks: each function keeps the contract that its model gives. No conditions.
-/
import Derived.Test.YtaeeiddjpigemaaGreatR8Tab
import Derived.Test.YtaeeiddjpigemaaGreatR8W5
import Derived.Test.YtaeeiddjpigemaaGreatR8S
namespace Go.AE.Y
open Go Go.AE Go.Proofs
set_option linter.unusedVariables false
set_option maxHeartbeats 2000000
set_option maxRecDepth 100000
noncomputable section
def Zc8:Con:=fun args st=>match args,st with
  |[.c (.imm (.pair (.sl (.pair (.int .i64) (.int .i64))) (.int .i64)) s_)],[]=>.opt ((List D6_)) (Zbt s_) (fun r=>.ret (.c (.own 900 false)) [(900,.sl 89 y6_ r .shallow)])
  |_,_=>.fail
def Zhk:Cfg:={ y:=tys,n:=8,h:=0,tab:=[],cut:=[],hand:=[],good:=[],deep:=[],sched:=[] }
theorem ZnT:Zs Tryz.prog Zhk:=Zn (fun p h=>by cases h)
theorem Zhy:Zq Tryz.prog 61 Zc8:=by
 refine Zm (C:=Zhk) mixed Ze ZnT (fn:=Tryz.f61) (c:=bd Tryz.f61) (by kernel_rfl) (by kernel_rfl) (by kernel_rfl) (by kernel_rfl) ?_
 intro args st k he
 unfold Zc8 at he
 split at he
 rotate_left
 ·exact he.elim
 rename_i s_
 have he:Ok (Zbt s_) (fun r=>k (.c (.own 900 false)) [(900,.sl 89 y6_ r .shallow)]):=he
 refine⟨rfl,rfl,?_⟩
 refine fun b1_ hb1_=>?_
 have he:=ZB4 he hb1_
 refine And.intro (fun hb=>?_) (fun hb=>?_)
 ·have he:=ZAc he hb
  have he:=Zb he
  exact⟨rfl,_,_,(Za [] (l:=[(2,.c (.own 900 false))]) (st':=[(900,.sl 89 y6_ ([]:List D6_) .shallow)]) rfl rfl ⟨Y1,Y1⟩ ⟨⟨rfl,Y1⟩,Y1⟩),he⟩
 ·have he:=ZAb he hb
  refine Zc he fun he=>?_
  have he:=Zb he
  exact⟨rfl,_,_,(Za [(900,7)] (l:=[(2,.c (.own 900 false))]) (st':=[(900,.sl 89 y6_ (([]:List D6_)++s_) .shallow)]) rfl rfl Y3 ⟨Y3,Y1⟩),he⟩
def Znp:Con:=fun args st=>match args,st with
  |[.c (.int .i64 l),.c (.imm (.int .i64) p)],[]=>.opt (Int) (Zlp l p) (fun r=>.ret (.c (.int .i64 r)) [])
  |_,_=>.fail
def ZtL:Cfg:={ y:=tys,n:=19,h:=0,tab:=[],cut:=[],hand:=[],good:=[],deep:=[],sched:=[] }
theorem ZAF:Zs Tryz.prog ZtL:=Zn (fun p h=>by cases h)
theorem Zt8:Zq Tryz.prog 258 Znp:=by
 refine Zm (C:=ZtL) mixed Ze ZAF (fn:=Tryz.f258) (c:=bd Tryz.f258) (by kernel_rfl) (by kernel_rfl) (by kernel_rfl) (by kernel_rfl) ?_
 intro args st k he
 unfold Znp at he
 split at he
 rotate_left
 ·exact he.elim
 rename_i l p
 have he:Ok (Zlp l p) (fun r=>k (.c (.int .i64 r)) []):=he
 refine⟨rfl,rfl,?_⟩
 refine Zh he (fun he=>?_) fun he=>?_
 ·refine Zc he fun he=>?_
  refine Zc he fun he=>?_
  refine Zc he fun he=>?_
  refine Zc he fun he=>?_
  have he:=Zb he
  exact⟨rfl,_,_,Leads.refl _ _,he⟩
 ·refine Zc he fun he=>?_
  refine Zc he fun he=>?_
  have he:=Zb he
  exact⟨rfl,_,_,Leads.refl _ _,he⟩
def Zex:Con:=fun args st=>match args,st with
  |[.agg [.imm (.pair (.int .i64) (.int .i64)) c__0,.int .i64 c__1],.c (.imm (.int .i64) p)],[]=>.opt (Int) (Zdb (c__0,c__1) p) (fun r=>.ret (.c (.int .i64 r)) [])
  |_,_=>.fail
def Zg4:Cfg:={ y:=tys,n:=29,h:=0,tab:=[(258,Znp)],cut:=[],hand:=[],good:=[],deep:=[],sched:=[] }
theorem ZlE:Zs Tryz.prog Zg4:=by
  refine Zn ?_
  simp only[Zg4,List.forall_mem_cons]
  exact⟨Zt8,fun p h=>by cases h⟩
theorem ZlC:Zq Tryz.prog 233 Zex:=by
 refine Zm (C:=Zg4) mixed Ze ZlE (fn:=Tryz.f233) (c:=bd Tryz.f233) (by kernel_rfl) (by kernel_rfl) (by kernel_rfl) (by kernel_rfl) ?_
 intro args st k he
 unfold Zex at he
 split at he
 rotate_left
 ·exact he.elim
 rename_i c__0 c__1 p
 have he:Ok (Zdb (c__0,c__1) p) (fun r=>k (.c (.int .i64 r)) []):=he
 refine⟨rfl,rfl,?_⟩
 refine Zc he fun he=>?_
 refine Zl mixed Ze ZlE (S:=Int×Int) (I:=(fun (out,i)=>(Zo [(1,.c (.imm y0_ p)),(5,.c (.int .i64 out)),(12,.c (.imm y5_ (c__0,c__1).1)),(13,.c (.int .i64 ((c__0,c__1).1.length:Int))),(14,.c (.int .i64 i))],[]))) (f:=Zed (c__0,c__1) p) (K:=(fun r=>k (.c (.int .i64 r)) [])) he (Za [] rfl rfl trivial ⟨.inl rfl,rfl,.inl rfl,rfl,rfl,Y1⟩) ?_
 rintro⟨out,i⟩ J1 he
 refine Zh he (fun he=>?_) fun he=>?_
 ·refine Zc he fun he=>?_
  refine Zk he fun r1_ he=>?_
  refine Zh he (fun he=>?_) fun he=>?_
  ·refine Zc he fun he=>?_
   refine Zc he fun he=>?_
   have he:=Zb he
   exact⟨((out+((c__0,c__1).1.getD i.toNat (0,0)).1),(i+(1:Int))),he,(Za [] rfl rfl trivial ⟨.inl rfl,rfl,.inl rfl,rfl,rfl,Y1⟩)⟩
  ·refine Zc he fun he=>?_
   have he:=Zb he
   exact⟨(out,(i+(1:Int))),he,(Za [] rfl rfl trivial ⟨.inl rfl,rfl,.inl rfl,rfl,rfl,Y1⟩)⟩
 ·have he:=Zb he
  exact⟨rfl,_,_,Leads.refl _ _,he⟩
def ZfV:Con:=fun args st=>match args,st with
  |[.agg [.imm (.pair (.int .i64) (.int .i64)) c__0,.int .i64 c__1],.c (.imm (.int .i64) p)],[]=>.opt ((List Int)) (Zb8 (c__0,c__1) p) (fun r=>.ret (.c (.own 900 false)) [(900,.sl 3 y0_ r .shallow)])
  |_,_=>.fail
def ZfT:Cfg:={ y:=tys,n:=37,h:=0,tab:=[(233,Zex),(258,Znp)],cut:=[],hand:=[],good:=[],deep:=[],sched:=[] }
theorem Zkq:Zs Tryz.prog ZfT:=by
  refine Zn ?_
  simp only[ZfT,List.forall_mem_cons]
  exact⟨ZlC,Zt8,fun p h=>by cases h⟩
theorem Zp3:Zq Tryz.prog 234 ZfV:=by
 refine Zm (C:=ZfT) mixed Ze Zkq (fn:=Tryz.f234) (c:=bd Tryz.f234) (by kernel_rfl) (by kernel_rfl) (by kernel_rfl) (by kernel_rfl) ?_
 intro args st k he
 unfold ZfV at he
 split at he
 rotate_left
 ·exact he.elim
 rename_i c__0 c__1 p
 have he:Ok (Zb8 (c__0,c__1) p) (fun r=>k (.c (.own 900 false)) [(900,.sl 3 y0_ r .shallow)]):=he
 refine⟨rfl,rfl,?_⟩
 refine Zk he fun r1_ he=>?_
 refine Zl mixed Ze Zkq (S:=Int×(List Int)) (I:=(fun (i,out)=>(Zo [(1,.c (.imm y0_ p)),(5,.c (.int .i64 r1_)),(6,.c (.own 10000000 false)),(13,.c (.imm y5_ (c__0,c__1).1)),(14,.c (.int .i64 ((c__0,c__1).1.length:Int))),(15,.c (.int .i64 i))],[(10000000,.sl 3 y0_ out .shallow)]))) (f:=Zc2 (c__0,c__1) p r1_) (K:=(fun r=>k (.c (.own 900 false)) [(900,.sl 3 y0_ r .shallow)])) he (Za [] rfl rfl ⟨Y1,Y1⟩ ⟨.inl rfl,rfl,⟨rfl,Y1⟩,.inl rfl,rfl,rfl,Y1⟩) ?_
 rintro⟨i,out⟩ J1 he
 refine Zh he (fun he=>?_) fun he=>?_
 ·refine Zc he fun he=>?_
  refine Zk he fun r3_ he=>?_
  refine Zh he (fun he=>?_) fun he=>?_
  ·refine Zh he (fun he=>?_) fun he=>?_
   ·refine Zc he fun he=>?_
    refine Zc he fun he=>?_
    have he:=Zb he
    exact⟨((i+(1:Int)),(out++[((c__0,c__1).1.getD i.toNat (0,0)).2])),he,(Za [(10000000,34)] rfl rfl Y3 ⟨.inl rfl,rfl,Y3,.inl rfl,rfl,rfl,Y1⟩)⟩
   ·refine Zc he fun he=>?_
    have he:=Zb he
    exact⟨((i+(1:Int)),out),he,(Za [] rfl rfl Y3 ⟨.inl rfl,rfl,Y3,.inl rfl,rfl,rfl,Y1⟩)⟩
  ·refine Zc he fun he=>?_
   have he:=Zb he
   exact⟨((i+(1:Int)),out),he,(Za [] rfl rfl Y3 ⟨.inl rfl,rfl,Y3,.inl rfl,rfl,rfl,Y1⟩)⟩
 ·have he:=Zb he
  exact⟨rfl,_,_,(Za [(900,10000000)] (l:=[(4,.c (.own 900 false))]) (st':=[(900,.sl 3 y0_ out .shallow)]) rfl rfl Y3 ⟨Y3,Y1⟩),he⟩
def ZiI:Con:=fun args st=>match args,st with
  |[.c (.imm (.pair (.sl (.pair (.int .i64) (.int .i64))) (.int .i64)) list_),.c (.imm (.int .i64) p)],[]=>.opt (Int×(List Int)) (Zd3 list_ p) (fun r=>.ret (.tup [.c (.own 900 false),.c (.int .i64 r.1)]) [(900,.sl 3 y0_ r.2 .shallow)])
  |_,_=>.fail
def Zmt:Cfg:={ y:=tys,n:=50,h:=0,tab:=[(75,Zdf),(233,Zex),(234,ZfV)],cut:=[],hand:=[],good:=[],deep:=[],sched:=[] }
theorem Zjg:Zs Tryz.prog Zmt:=by
  refine Zn ?_
  simp only[Zmt,List.forall_mem_cons]
  exact⟨Zfc,ZlC,Zp3,fun p h=>by cases h⟩
theorem Zqr:Zq Tryz.prog 171 ZiI:=by
 refine Zm (C:=Zmt) mixed Ze Zjg (fn:=Tryz.f171) (c:=bd Tryz.f171) (by kernel_rfl) (by kernel_rfl) (by kernel_rfl) (by kernel_rfl) ?_
 intro args st k he
 unfold ZiI at he
 split at he
 rotate_left
 ·exact he.elim
 rename_i list_ p
 have he:Ok (Zd3 list_ p) (fun r=>k (.tup [.c (.own 900 false),.c (.int .i64 r.1)]) [(900,.sl 3 y0_ r.2 .shallow)]):=he
 refine⟨rfl,rfl,?_⟩
 refine Zk he fun r1_ he=>?_
 refine Zl mixed Ze Zjg (S:=Bool×(List Int)) (I:=(fun (made,out3)=>(Zo [(0,.c (.imm y6_ list_)),(6,.c (.own 10000000 false)),(7,.c (.bool made))],[(10000000,.sl 3 y0_ out3 .shallow)]))) (f:=Zer list_) (K:=(fun r=>k (.tup [.c (.own 900 false),.c (.int .i64 r.1)]) [(900,.sl 3 y0_ r.2 .shallow)])) he (Za [(10000000,14900)] rfl rfl Y3 ⟨.inl rfl,Y3,.inr rfl,Y1⟩) ?_
 rintro⟨made,out3⟩ J1 he
 refine Zh he (fun he=>?_) fun he=>?_
 ·refine Zl mixed Ze Zjg (S:=Bool×Int×(List Int)) (I:=(fun (made4,i3,out5)=>(Zo [(0,.c (.imm y6_ list_)),(6,.c (.own 10004000 false)),(7,.c (.bool made4)),(15,.c (.imm y6_ list_)),(16,.c (.int .i64 (list_.length:Int))),(17,.c (.int .i64 i3))],[(10004000,.sl 3 y0_ out5 .shallow)]))) (f:=Zcy list_) (K:=(LK J1 (fun r=>k (.tup [.c (.own 900 false),.c (.int .i64 r.1)]) [(900,.sl 3 y0_ r.2 .shallow)]))) he (Za [(10004000,10000000)] rfl rfl Y3 ⟨.inl rfl,Y3,.inr rfl,.inl rfl,rfl,rfl,Y1⟩) ?_
  rintro⟨made4,i3,out5⟩ J2 he
  refine Zh he (fun he=>?_) fun he=>?_
  ·refine Zc he fun he=>?_
   refine Zk he fun r8_ he=>?_
   refine Zh he (fun he=>?_) fun he=>?_
   ·have he:=Zb he
    exact⟨rfl,_,_,(Za [(900,10004000)] (l:=[(4,.c (.own 900 false)),(5,.c (.int .i64 i3))]) (st':=[(900,.sl 3 y0_ out5 .shallow)]) rfl rfl Y3 ⟨Y3,rfl,Y1⟩),he⟩
   ·refine Zk he fun r9_ he=>?_
    refine Zl mixed Ze Zjg (S:=Bool×Int×(List Int)) (I:=(fun (made6,i5,out6)=>(Zo [(0,.c (.imm y6_ list_)),(6,.c (.own 10006000 false)),(7,.c (.bool made6)),(15,.c (.imm y6_ list_)),(16,.c (.int .i64 (list_.length:Int))),(17,.c (.int .i64 i3)),(30,.c (.own 10006001 false)),(31,.c (.int .i64 (r9_.length:Int))),(32,.c (.int .i64 i5))],[(10006000,.sl 3 y0_ out6 .shallow),(10006001,.sl 3 y0_ r9_ .shallow)]))) (f:=ZdD i3 r9_) (K:=(LK J2 (LK J1 (fun r=>k (.tup [.c (.own 900 false),.c (.int .i64 r.1)]) [(900,.sl 3 y0_ r.2 .shallow)])))) he (Za [(10006000,10004000),(10006001,31900)] rfl rfl ⟨Y2,Y2,Y1⟩ ⟨.inl rfl,Y3,.inl rfl,.inl rfl,rfl,rfl,Y3,rfl,rfl,Y1⟩) ?_
    rintro⟨made6,i5,out6⟩ J3 he
    refine Zh he (fun he=>?_) fun he=>?_
    ·refine Zc he fun he=>?_
     refine Zh he (fun he=>?_) fun he=>?_
     ·refine Zc he fun he=>?_
      refine Zc he fun he=>?_
      refine Zc he fun he=>?_
      have he:=Zb he
      exact⟨(true,(i5+(1:Int)),(out6.set ((r9_.getD i5.toNat 0) - (1:Int)).toNat (1:Int))),he,(Za [] rfl rfl ⟨Y2,Y2,Y1⟩ ⟨.inl rfl,Y3,.inr rfl,.inl rfl,rfl,rfl,Y3,rfl,rfl,Y1⟩)⟩
     ·refine Zc he fun he=>?_
      refine Zc he fun he=>?_
      refine Zc he fun he=>?_
      refine Zc he fun he=>?_
      have he:=Zb he
      exact⟨(true,(i5+(1:Int)),(out6.set ((0 - (r9_.getD i5.toNat 0)) - (1:Int)).toNat (-1:Int))),he,(Za [] rfl rfl ⟨Y2,Y2,Y1⟩ ⟨.inl rfl,Y3,.inr rfl,.inl rfl,rfl,rfl,Y3,rfl,rfl,Y1⟩)⟩
    ·refine Zc he fun he=>?_
     have he:=Zb he
     exact⟨(made6,(i3+(1:Int)),out6),he,(Za [(10004000,10006000)] rfl rfl Y3 ⟨.inl rfl,Y3,.inl rfl,.inl rfl,rfl,rfl,Y1⟩)⟩
  ·have he:=Zb he
   exact⟨(made4,out5),he,(Za [(10000000,10004000)] rfl rfl Y3 ⟨.inl rfl,Y3,.inl rfl,Y1⟩)⟩
 ·have he:=Zb he
  exact⟨rfl,_,_,(Za [(900,10000000)] (l:=[(4,.c (.own 900 false)),(5,.c (.int .i64 (-1:Int)))]) (st':=[(900,.sl 3 y0_ out3 .shallow)]) rfl rfl Y3 ⟨Y3,rfl,Y1⟩),he⟩
def Zj8:Con:=fun args st=>match args,st with
  |[.c (.imm (.int .i64) p)],[]=>.opt (Int×Bool×(List Bool)) (Zet p) (fun r=>.ret (.tup [.c (.own 900 false),.c (.int .i64 r.1),.c (.bool r.2.1)]) [(900,.sl 4 .bool r.2.2 .shallow)])
  |_,_=>.fail
def ZqS:Cfg:={ y:=tys,n:=26,h:=0,tab:=[],cut:=[9],hand:=[],good:=[],deep:=[],sched:=[] }
theorem ZnS:Zs Tryz.prog ZqS:=Zn (fun p h=>by cases h)
theorem Zrc:Zq Tryz.prog 172 Zj8:=by
 refine Zm (C:=ZqS) mixed Ze ZnS (fn:=Tryz.f172) (c:=bd Tryz.f172) (by kernel_rfl) (by kernel_rfl) (by kernel_rfl) (by kernel_rfl) ?_
 intro args st k he
 unfold Zj8 at he
 split at he
 rotate_left
 ·exact he.elim
 rename_i p
 have he:Ok (Zet p) (fun r=>k (.tup [.c (.own 900 false),.c (.int .i64 r.1),.c (.bool r.2.1)]) [(900,.sl 4 .bool r.2.2 .shallow)]):=he
 refine⟨rfl,rfl,?_⟩
 refine Zt mixed Ze ZnS (S:=(List Bool)) (I:=(fun out1=>(Zo [(5,.c (.own 10001000 false))],[(10001000,.sl 4 .bool out1 .shallow)]))) (B:=fun s=>Ok (ZiT s) (fun r=>k (.tup [.c (.own 900 false),.c (.int .i64 r.1),.c (.bool r.2.1)]) [(900,.sl 4 .bool r.2.2 .shallow)])) ?_ ?_
 ·rintro out1 he
  have he:=Zb he
  exact⟨rfl,_,_,(Za [(900,10001000)] (l:=[(2,.c (.own 900 false)),(3,.c (.int .i64 (0:Int))),(4,.c (.bool true))]) (st':=[(900,.sl 4 .bool out1 .shallow)]) rfl rfl Y3 ⟨Y3,rfl,.inr rfl,Y1⟩),he⟩
 ·skip
  refine Zl mixed Ze ZnS (S:=Int×(List Bool)) (I:=(fun (i,out)=>(Zo [(5,.c (.own 10000000 false)),(8,.c (.imm y0_ p)),(9,.c (.int .i64 (p.length:Int))),(10,.c (.int .i64 i))],[(10000000,.sl 4 .bool out .shallow)]))) (f:=Zgu p) (K:=(fun r=>k (.tup [.c (.own 900 false),.c (.int .i64 r.1),.c (.bool r.2.1)]) [(900,.sl 4 .bool r.2.2 .shallow)])) he (Za [] rfl rfl ⟨Y1,Y1⟩ ⟨⟨rfl,Y1⟩,.inl rfl,rfl,rfl,Y1⟩) ?_
  rintro⟨i,out⟩ J1 he
  refine Zh he (fun he=>?_) fun he=>?_
  ·refine Zc he fun he=>?_
   refine Zh he (fun he=>?_) fun he=>?_
   ·refine Zc he fun he=>?_
    have he:=Zb he
    exact⟨rfl,_,_,(Za [] (l:=[(2,.c (.own 900 false)),(3,.c (.int .i64 (i+(1:Int)))),(4,.c (.bool false))]) (st':=[(900,.sl 4 .bool ([]:List Bool) .shallow)]) rfl rfl ⟨Y1,Y1⟩ ⟨⟨rfl,Y1⟩,rfl,.inr rfl,Y1⟩),he⟩
   ·refine Zc he fun he=>?_
    refine Zc he fun he=>?_
    have he:=Zb he
    exact⟨((i+(1:Int)),(out++[(decide ((0:Int)<(p.getD i.toNat 0)))])),he,(Za [(10000000,23)] rfl rfl Y3 ⟨Y3,.inl rfl,rfl,rfl,Y1⟩)⟩
  ·exact⟨out,ZbH he,(Za [(10001000,10000000)] rfl rfl Y3 ⟨Y3,Y1⟩)⟩
def Zgm:Con:=fun args st=>match args,st with
  |[.c (.imm (.pair (.int .i64) (.int .i64)) s_)],[]=>.opt ((List D5_)) (ZdN s_) (fun r=>.ret (.c (.own 900 false)) [(900,.sl 155 y5_ r .shallow)])
  |_,_=>.fail
def Zky:Cfg:={ y:=tys,n:=8,h:=0,tab:=[],cut:=[],hand:=[],good:=[],deep:=[],sched:=[] }
theorem ZqM:Zs Tryz.prog Zky:=Zn (fun p h=>by cases h)
theorem Zqs:Zq Tryz.prog 224 Zgm:=by
 refine Zm (C:=Zky) mixed Ze ZqM (fn:=Tryz.f224) (c:=bd Tryz.f224) (by kernel_rfl) (by kernel_rfl) (by kernel_rfl) (by kernel_rfl) ?_
 intro args st k he
 unfold Zgm at he
 split at he
 rotate_left
 ·exact he.elim
 rename_i s_
 have he:Ok (ZdN s_) (fun r=>k (.c (.own 900 false)) [(900,.sl 155 y5_ r .shallow)]):=he
 refine⟨rfl,rfl,?_⟩
 refine fun b1_ hb1_=>?_
 have he:=ZB4 he hb1_
 refine And.intro (fun hb=>?_) (fun hb=>?_)
 ·have he:=ZAc he hb
  have he:=Zb he
  exact⟨rfl,_,_,(Za [] (l:=[(2,.c (.own 900 false))]) (st':=[(900,.sl 155 y5_ ([]:List D5_) .shallow)]) rfl rfl ⟨Y1,Y1⟩ ⟨⟨rfl,Y1⟩,Y1⟩),he⟩
 ·have he:=ZAb he hb
  refine Zc he fun he=>?_
  have he:=Zb he
  exact⟨rfl,_,_,(Za [(900,7)] (l:=[(2,.c (.own 900 false))]) (st':=[(900,.sl 155 y5_ (([]:List D5_)++s_) .shallow)]) rfl rfl Y3 ⟨Y3,Y1⟩),he⟩
def Zh7:Con:=fun args st=>match args,st with
  |[.agg [.imm (.pair (.int .i64) (.int .i64)) c__0,.int .i64 c__1]],[]=>.opt (Int×(List D5_)) (ZeD (c__0,c__1)) (fun r=>.ret (.agg [.own 901 false,.int .i64 r.1]) [(900,.rc [.own 901 false,.int .i64 r.1]),(901,.sl 155 y5_ r.2 .shallow)])
  |_,_=>.fail
def Zh5:Cfg:={ y:=tys,n:=8,h:=0,tab:=[(224,Zgm)],cut:=[],hand:=[],good:=[],deep:=[],sched:=[] }
theorem Zr3:Zs Tryz.prog Zh5:=by
  refine Zn ?_
  simp only[Zh5,List.forall_mem_cons]
  exact⟨Zqs,fun p h=>by cases h⟩
theorem ZrO:Zq Tryz.prog 160 Zh7:=by
 refine Zm (C:=Zh5) mixed Ze Zr3 (fn:=Tryz.f160) (c:=bd Tryz.f160) (by kernel_rfl) (by kernel_rfl) (by kernel_rfl) (by kernel_rfl) ?_
 intro args st k he
 unfold Zh7 at he
 split at he
 rotate_left
 ·exact he.elim
 rename_i c__0 c__1
 have he:Ok (ZeD (c__0,c__1)) (fun r=>k (.agg [.own 901 false,.int .i64 r.1]) [(900,.rc [.own 901 false,.int .i64 r.1]),(901,.sl 155 y5_ r.2 .shallow)]):=he
 refine⟨rfl,rfl,?_⟩
 refine Zk he fun r1_ he=>?_
 have he:=Zb he
 exact⟨rfl,_,_,(Za [(900,2),(901,6900)] (l:=[(2,.c (.ptr 900 0))]) (st':=[(900,.rc [.own 901 false,.int .i64 (c__0,c__1).2]),(901,.sl 155 y5_ r1_ .shallow)]) rfl rfl ⟨⟨Y3,rfl,Y1⟩,Y2,Y1⟩ ⟨⟨Y2,rfl⟩,Y1⟩),he⟩
def ZdO:Con:=fun args st=>match args,st with
  |[.c (.ptr 0 0),.c (.imm (.int .i64) decisions)],[(0,.rc [.own 1 false,.int .i64 s_1,.own 2 false,.bool s_3]),(1,.sl 89 (.pair (.sl (.pair (.int .i64) (.int .i64))) (.int .i64)) o1 .shallow),(2,.sl 96 (.pair (.int .i64) (.pair (.int .i64) (.pair (.int .i64) (.pair (.sl (.pair (.int .i64) (.int .i64))) (.int .i64))))) o2 (.deep true .no))]=>.opt ((List D6_)×(List D9_)) (Zbz decisions s_1 s_3 o1 o2) (fun r=>.ret (.tup []) [(0,.rc [.own 900 false,.int .i64 s_1,.own 901 false,.bool s_3]),(1,.dead),(2,.dead),(900,.sl 89 y6_ r.1 .shallow),(901,.sl 96 y9_ r.2 (.deep true .no))])
  |_,_=>.fail
def Zfv:Cfg:={ y:=tys,n:=48,h:=3,tab:=[(119,Zhn),(160,Zh7)],cut:=[6,8],hand:=[],good:=[],deep:=[44],sched:=[(7,(.first 0 (.first 1 (.first 2 (.first 3 (.alt 4 (.alt 5 (.alt 6 (.alt 7 (.first 8 (.first 9 (.alt 10 .done .stop))) .stop) .stop) .stop) (.alt 5 (.alt 4 (.alt 6 (.alt 7 (.first 8 (.first 9 (.alt 10 .done .stop))) .stop) .stop) (.alt 6 (.alt 4 (.alt 7 (.first 8 (.first 9 (.alt 10 .done .stop))) .stop) .stop) .stop)) .stop))))))),(8,(.first 0 (.first 1 (.first 2 (.first 3 (.alt 4 (.alt 5 (.alt 6 (.alt 7 (.alt 8 (.alt 9 (.first 10 (.first 11 (.alt 12 .done .stop))) .stop) .stop) .stop) .stop) .stop) (.alt 5 (.alt 4 (.alt 6 (.alt 7 (.alt 8 (.alt 9 (.first 10 (.first 11 (.alt 12 .done .stop))) .stop) .stop) .stop) .stop) (.alt 6 (.alt 4 (.alt 7 (.alt 8 (.alt 9 (.first 10 (.first 11 (.alt 12 .done .stop))) .stop) .stop) .stop) (.alt 7 (.alt 4 (.alt 8 (.alt 9 (.first 10 (.first 11 (.alt 12 .done .stop))) .stop) .stop) (.alt 8 (.alt 4 (.alt 9 (.first 10 (.first 11 (.alt 12 .done .stop))) .stop) .stop) .stop)) .stop)) .stop)) .stop)))))))] }
theorem ZdR:Zs Tryz.prog Zfv:=by
  refine Zn ?_
  simp only[Zfv,List.forall_mem_cons]
  exact⟨ZnF,ZrO,fun p h=>by cases h⟩
theorem Zjp:Zq Tryz.prog 173 ZdO:=by
 refine Zm (C:=Zfv) mixed Ze ZdR (fn:=Tryz.f173) (c:=bd Tryz.f173) (by kernel_rfl) (by kernel_rfl) (by kernel_rfl) (by kernel_rfl) ?_
 intro args st k he
 unfold ZdO at he
 split at he
 rotate_left
 ·exact he.elim
 rename_i decisions s_1 s_3 o1 o2
 have he:Ok (Zbz decisions s_1 s_3 o1 o2) (fun r=>k (.tup []) [(0,.rc [.own 900 false,.int .i64 s_1,.own 901 false,.bool s_3]),(1,.dead),(2,.dead),(900,.sl 89 y6_ r.1 .shallow),(901,.sl 96 y9_ r.2 (.deep true .no))]):=he
 refine⟨rfl,rfl,?_⟩
 refine Zt mixed Ze ZdR (S:=(List Int)) (I:=(fun lits1=>(Zo [(0,.c (.ptr 0 0)),(4,.c (.own 10001000 false))],[(0,.rc [.own 1 false,.int .i64 s_1,.own 2 false,.bool s_3]),(1,.sl 89 y6_ o1 .shallow),(2,.sl 96 y9_ o2 (.deep true .no)),(10001000,.sl 3 y0_ lits1 .shallow)]))) (B:=fun s=>Ok (ZdH o1 o2 s) (fun r=>k (.tup []) [(0,.rc [.own 900 false,.int .i64 s_1,.own 901 false,.bool s_3]),(1,.dead),(2,.dead),(900,.sl 89 y6_ r.1 .shallow),(901,.sl 96 y9_ r.2 (.deep true .no))])) ?_ ?_
 ·rintro lits1 he
  refine Zk he fun r1_ he=>?_
  refine Zt mixed Ze ZdR (S:=Unit) (I:=(fun _=>(Zo [(0,.c (.ptr 0 0)),(7,.c (.ptr 10002000 0))],[(0,.rc [.own 10002001 false,.int .i64 s_1,.own 2 false,.bool s_3]),(1,.dead),(2,.sl 96 y9_ o2 (.deep true .no)),(10002000,.rc [.imm y5_ r1_.2.2,.int .i64 r1_.2.1]),(10002001,.sl 89 y6_ (o1++[(r1_.2.2,r1_.2.1)]) .shallow)]))) (B:=fun s=>Ok (ZdI o1 o2 r1_ s) (fun r=>k (.tup []) [(0,.rc [.own 900 false,.int .i64 s_1,.own 901 false,.bool s_3]),(1,.dead),(2,.dead),(900,.sl 89 y6_ r.1 .shallow),(901,.sl 96 y9_ r.2 (.deep true .no))])) ?_ ?_
  ·rintro⟨⟩ he
   refine And.intro (by kernel_rfl) ?_
   obtain⟨r3_,hq1,he⟩:=Zb1 he
   have he:=ZU he
   have hq2:=he.1
   have he:=he.2
   refine Y5 ?_ ?_
   ·skip
    refine Y4 ?_
    refine Y4 ?_
    refine⟨r3_,hq1,?_⟩
    refine Y4 ?_
    refine Y4 ?_
    refine Y4 ?_
    refine And.intro hq2 ?_
    refine Y4 ?_
    have he:=Zb he
    exact⟨rfl,_,_,(Za [(900,10002001),(901,45)] (l:=[]) (st':=[(0,.rc [.own 900 false,.int .i64 s_1,.own 901 false,.bool s_3]),(1,.dead),(2,.dead),(900,.sl 89 y6_ (o1++[(r1_.2.2,r1_.2.1)]) .shallow),(901,.sl 96 y9_ (o2++[((7:Int),((0:Int),((0:Int),(r3_.2,r3_.1))))]) (.deep true .no))]) rfl rfl ⟨⟨Y3,rfl,Y3,.inl rfl,Y1⟩,Y1,Y1,Y2,Y2,Y1⟩ Y1),he⟩
   ·skip
    refine Y5 ?_ ?_
    ·skip
     refine Y4 ?_
     refine⟨r3_,hq1,?_⟩
     refine Y4 ?_
     refine Y4 ?_
     refine Y4 ?_
     refine And.intro hq2 ?_
     refine Y4 ?_
     have he:=Zb he
     exact⟨rfl,_,_,(Za [(900,10002001),(901,45)] (l:=[]) (st':=[(0,.rc [.own 900 false,.int .i64 s_1,.own 901 false,.bool s_3]),(1,.dead),(2,.dead),(900,.sl 89 y6_ (o1++[(r1_.2.2,r1_.2.1)]) .shallow),(901,.sl 96 y9_ (o2++[((7:Int),((0:Int),((0:Int),(r3_.2,r3_.1))))]) (.deep true .no))]) rfl rfl ⟨⟨Y3,rfl,Y3,.inl rfl,Y1⟩,Y1,Y1,Y2,Y2,Y1⟩ Y1),he⟩
    ·skip
     refine⟨r3_,hq1,?_⟩
     refine Y5 ?_ ?_
     ·skip
      refine Y4 ?_
      refine Y4 ?_
      refine Y4 ?_
      refine And.intro hq2 ?_
      refine Y4 ?_
      have he:=Zb he
      exact⟨rfl,_,_,(Za [(900,10002001),(901,45)] (l:=[]) (st':=[(0,.rc [.own 900 false,.int .i64 s_1,.own 901 false,.bool s_3]),(1,.dead),(2,.dead),(900,.sl 89 y6_ (o1++[(r1_.2.2,r1_.2.1)]) .shallow),(901,.sl 96 y9_ (o2++[((7:Int),((0:Int),((0:Int),(r3_.2,r3_.1))))]) (.deep true .no))]) rfl rfl ⟨⟨Y3,rfl,Y3,.inl rfl,Y1⟩,Y1,Y1,Y2,Y2,Y1⟩ Y1),he⟩
     ·skip
      refine Y5 ?_ ?_
      ·skip
       refine Y4 ?_
       refine Y4 ?_
       refine And.intro hq2 ?_
       refine Y4 ?_
       have he:=Zb he
       exact⟨rfl,_,_,(Za [(900,10002001),(901,45)] (l:=[]) (st':=[(0,.rc [.own 900 false,.int .i64 s_1,.own 901 false,.bool s_3]),(1,.dead),(2,.dead),(900,.sl 89 y6_ (o1++[(r1_.2.2,r1_.2.1)]) .shallow),(901,.sl 96 y9_ (o2++[((7:Int),((0:Int),((0:Int),(r3_.2,r3_.1))))]) (.deep true .no))]) rfl rfl ⟨⟨Y3,rfl,Y3,.inl rfl,Y1⟩,Y1,Y1,Y2,Y2,Y1⟩ Y1),he⟩
      ·skip
       refine Y4 ?_
       refine Y4 ?_
       refine And.intro hq2 ?_
       refine Y4 ?_
       have he:=Zb he
       exact⟨rfl,_,_,(Za [(900,10002001),(901,45)] (l:=[]) (st':=[(0,.rc [.own 900 false,.int .i64 s_1,.own 901 false,.bool s_3]),(1,.dead),(2,.dead),(900,.sl 89 y6_ (o1++[(r1_.2.2,r1_.2.1)]) .shallow),(901,.sl 96 y9_ (o2++[((7:Int),((0:Int),((0:Int),(r3_.2,r3_.1))))]) (.deep true .no))]) rfl rfl ⟨⟨Y3,rfl,Y3,.inl rfl,Y1⟩,Y1,Y1,Y2,Y2,Y1⟩ Y1),he⟩
  ·skip
   refine And.intro (by kernel_rfl) ?_
   have he:=ZU he
   have hq1:=he.1
   have he:=he.2
   refine Y5 ?_ ?_
   ·skip
    refine Y4 ?_
    refine Y4 ?_
    refine Y4 ?_
    refine And.intro hq1 ?_
    refine Y4 ?_
    exact⟨(),he,(Za [(10002000,7),(10002001,33)] rfl rfl ⟨⟨Y3,rfl,Y3,.inl rfl,Y1⟩,Y1,Y2,⟨.inr (.inr ⟨_,_,_,rfl,rfl⟩),rfl,Y1⟩,Y2,Y1⟩ ⟨⟨Y2,rfl⟩,⟨Y2,rfl⟩,Y1⟩)⟩
   ·skip
    refine Y5 ?_ ?_
    ·skip
     refine Y4 ?_
     refine Y4 ?_
     refine And.intro hq1 ?_
     refine Y4 ?_
     exact⟨(),he,(Za [(10002000,7),(10002001,33)] rfl rfl ⟨⟨Y3,rfl,Y3,.inl rfl,Y1⟩,Y1,Y2,⟨.inr (.inr ⟨_,_,_,rfl,rfl⟩),rfl,Y1⟩,Y2,Y1⟩ ⟨⟨Y2,rfl⟩,⟨Y2,rfl⟩,Y1⟩)⟩
    ·skip
     refine Y4 ?_
     refine Y4 ?_
     refine And.intro hq1 ?_
     refine Y4 ?_
     exact⟨(),he,(Za [(10002000,7),(10002001,33)] rfl rfl ⟨⟨Y3,rfl,Y3,.inl rfl,Y1⟩,Y1,Y2,⟨.inr (.inr ⟨_,_,_,rfl,rfl⟩),rfl,Y1⟩,Y2,Y1⟩ ⟨⟨Y2,rfl⟩,⟨Y2,rfl⟩,Y1⟩)⟩
 ·skip
  refine Zl mixed Ze ZdR (S:=Int×(List Int)) (I:=(fun (i,lits)=>(Zo [(0,.c (.ptr 0 0)),(4,.c (.own 10000000 false)),(9,.c (.imm y0_ decisions)),(10,.c (.int .i64 (decisions.length:Int))),(11,.c (.int .i64 i))],[(0,.rc [.own 1 false,.int .i64 s_1,.own 2 false,.bool s_3]),(1,.sl 89 y6_ o1 .shallow),(2,.sl 96 y9_ o2 (.deep true .no)),(10000000,.sl 3 y0_ lits .shallow)]))) (f:=Zbd decisions o1 o2) (K:=(fun r=>k (.tup []) [(0,.rc [.own 900 false,.int .i64 s_1,.own 901 false,.bool s_3]),(1,.dead),(2,.dead),(900,.sl 89 y6_ r.1 .shallow),(901,.sl 96 y9_ r.2 (.deep true .no))])) he (Za [] rfl rfl ⟨⟨Y3,rfl,Y3,.inl rfl,Y1⟩,Y2,Y2,Y1,Y1⟩ ⟨⟨Y2,rfl⟩,⟨rfl,Y1⟩,.inl rfl,rfl,rfl,Y1⟩) ?_
  rintro⟨i,lits⟩ J1 he
  refine Zh he (fun he=>?_) fun he=>?_
  ·refine Zc he fun he=>?_
   refine Zc he fun he=>?_
   refine Zc he fun he=>?_
   refine Zc he fun he=>?_
   have he:=Zb he
   exact⟨((i+(1:Int)),(lits++[(0 - (decisions.getD i.toNat 0))])),he,(Za [(10000000,19)] rfl rfl ⟨⟨Y3,rfl,Y3,.inl rfl,Y1⟩,Y2,Y2,Y2,Y1⟩ ⟨⟨Y2,rfl⟩,Y3,.inl rfl,rfl,rfl,Y1⟩)⟩
  ·exact⟨lits,ZbH he,(Za [(10001000,10000000)] rfl rfl ⟨⟨Y3,rfl,Y3,.inl rfl,Y1⟩,Y2,Y2,Y2,Y1⟩ ⟨⟨Y2,rfl⟩,Y3,Y1⟩)⟩
def Zbc (n_:Nat):Con:=fun args st=>match args,st with
  |[.c (.ptr 0 0),.c (.imm (.int .i64) a1)],[(0,.rc [.own 1 false,.int .i64 o0_1,.own 2 false,.bool o0_3]),(1,.sl 89 (.pair (.sl (.pair (.int .i64) (.int .i64))) (.int .i64)) o1 .shallow),(2,.sl 96 (.pair (.int .i64) (.pair (.int .i64) (.pair (.int .i64) (.pair (.sl (.pair (.int .i64) (.int .i64))) (.int .i64))))) o2 (.deep true .no))]=>.opt (Bool×Int×Bool×(List Bool)×(List D6_)×(List D9_)) (ZA n_ a1 o0_1 o0_3 o1 o2) (fun r=>.ret (.tup [.c (.own 900 false),.c (.bool r.1)]) [(0,.rc [.own 901 false,.int .i64 r.2.1,.own 902 false,.bool r.2.2.1]),(1,.dead),(2,.dead),(900,.sl 4 .bool r.2.2.2.1 .shallow),(901,.sl 89 y6_ r.2.2.2.2.1 .shallow),(902,.sl 96 y9_ r.2.2.2.2.2 (.deep true .no))])
  |_,_=>.fail
def Ze5 (n_:Nat):Cfg:={ y:=tys,n:=120,h:=3,tab:=[(75,Zdf),(114,Zbc n_),(170,Zen),(171,ZiI),(172,Zj8),(173,ZdO)],cut:=[13,25,28],hand:=[],good:=[],deep:=[],sched:=[] }
theorem Zb3 (n_:Nat) (ih:Zq Tryz.prog 114 (Zbc n_)):Zs Tryz.prog (Ze5 n_):=by
  refine Zn ?_
  simp only[Ze5,List.forall_mem_cons]
  exact⟨Zfc,ih,ZhZ,Zqr,Zrc,Zjp,fun p h=>by cases h⟩
theorem ZmO (n_:Nat) (ih:Zq Tryz.prog 114 (Zbc n_)):Zq Tryz.prog 114 (Zbc (n_+1)):=by
 refine Zm (C:=(Ze5 n_)) mixed Ze (Zb3 n_ ih) (fn:=Tryz.f114) (c:=bd Tryz.f114) (by kernel_rfl) (by kernel_rfl) (by kernel_rfl) (by kernel_rfl) ?_
 intro args st k he
 unfold Zbc at he
 split at he
 rotate_left
 ·exact he.elim
 rename_i a1 o0_1 o0_3 o1 o2
 have he:Ok (ZH (ZA n_) a1 o0_1 o0_3 o1 o2) (fun r=>k (.tup [.c (.own 900 false),.c (.bool r.1)]) [(0,.rc [.own 901 false,.int .i64 r.2.1,.own 902 false,.bool r.2.2.1]),(1,.dead),(2,.dead),(900,.sl 4 .bool r.2.2.2.1 .shallow),(901,.sl 89 y6_ r.2.2.2.2.1 .shallow),(902,.sl 96 y9_ r.2.2.2.2.2 (.deep true .no))]):=he
 refine⟨rfl,rfl,?_⟩
 refine ZK he (fun he=>?_) fun he=>?_
 ·refine Zh he (fun he=>?_) fun he=>?_
  ·have he:=Zb he
   exact⟨rfl,_,_,(Za [(901,1),(902,2)] (l:=[(4,.c (.own 900 false)),(5,.c (.bool false))]) (st':=[(0,.rc [.own 901 false,.int .i64 o0_1,.own 902 false,.bool true]),(1,.dead),(2,.dead),(900,.sl 4 .bool ([]:List Bool) .shallow),(901,.sl 89 y6_ o1 .shallow),(902,.sl 96 y9_ o2 (.deep true .no))]) rfl rfl ⟨⟨Y3,rfl,Y3,.inr rfl,Y1⟩,Y1,Y1,Y1,Y2,Y2,Y1⟩ ⟨⟨rfl,Y1⟩,.inr rfl,Y1⟩),he⟩
  ·refine Zc he fun he=>?_
   refine Zc he fun he=>?_
   refine Zt mixed Ze (Zb3 n_ ih) (S:=(List Int)) (I:=(fun i2=>(Zo [(0,.c (.ptr 0 0)),(1,.c (.imm y0_ a1)),(6,.c (.own 10001000 false))],[(0,.rc [.own 1 false,.int .i64 (o0_1 - (1:Int)),.own 2 false,.bool o0_3]),(1,.sl 89 y6_ o1 .shallow),(2,.sl 96 y9_ o2 (.deep true .no)),(10001000,.sl 3 y0_ i2 .shallow)]))) (B:=fun s=>Ok (ZV a1 o0_1 o0_3 o1 o2 (ZA n_) s) (fun r=>k (.tup [.c (.own 900 false),.c (.bool r.1)]) [(0,.rc [.own 901 false,.int .i64 r.2.1,.own 902 false,.bool r.2.2.1]),(1,.dead),(2,.dead),(900,.sl 4 .bool r.2.2.2.1 .shallow),(901,.sl 89 y6_ r.2.2.2.2.1 .shallow),(902,.sl 96 y9_ r.2.2.2.2.2 (.deep true .no))])) ?_ ?_
   ·rintro i2 he
    refine Zk he fun r3_ he=>?_
    refine Zt mixed Ze (Zb3 n_ ih) (S:=Int×Bool×(List D6_)×(List D9_)) (I:=(fun (i_12,i_32,i_02,i_22)=>(Zo [(0,.c (.ptr 0 0)),(1,.c (.imm y0_ a1))],[(0,.rc [.own 10004000 false,.int .i64 i_12,.own 10004001 false,.bool i_32]),(1,.dead),(2,.dead),(10004000,.sl 89 y6_ i_02 .shallow),(10004001,.sl 96 y9_ i_22 (.deep true .no))]))) (B:=fun s=>Ok (Zbq a1 s) (fun r=>k (.tup [.c (.own 900 false),.c (.bool r.1)]) [(0,.rc [.own 901 false,.int .i64 r.2.1,.own 902 false,.bool r.2.2.1]),(1,.dead),(2,.dead),(900,.sl 4 .bool r.2.2.2.1 .shallow),(901,.sl 89 y6_ r.2.2.2.2.1 .shallow),(902,.sl 96 y9_ r.2.2.2.2.2 (.deep true .no))])) ?_ ?_
    ·rintro⟨i_12,i_32,i_02,i_22⟩ he
     refine Zk he fun r9_ he=>?_
     have he:=Zb he
     exact⟨rfl,_,_,(Za [(901,120900),(902,120901)] (l:=[(4,.c (.own 900 false)),(5,.c (.bool false))]) (st':=[(0,.rc [.own 901 false,.int .i64 i_12,.own 902 false,.bool i_32]),(1,.dead),(2,.dead),(900,.sl 4 .bool ([]:List Bool) .shallow),(901,.sl 89 y6_ r9_.1 .shallow),(902,.sl 96 y9_ r9_.2 (.deep true .no))]) rfl rfl ⟨⟨Y3,rfl,Y3,.inl rfl,Y1⟩,Y1,Y1,Y1,Y2,Y2,Y1⟩ ⟨⟨rfl,Y1⟩,.inr rfl,Y1⟩),he⟩
    ·skip
     refine Zh he (fun he=>?_) fun he=>?_
     ·refine Zk he fun r4_ he=>?_
      refine Zh he (fun he=>?_) fun he=>?_
      ·have he:=Zb he
       exact⟨rfl,_,_,(Za [(900,74900),(901,1),(902,2)] (l:=[(4,.c (.own 900 false)),(5,.c (.bool true))]) (st':=[(0,.rc [.own 901 false,.int .i64 (o0_1 - (1:Int)),.own 902 false,.bool o0_3]),(1,.dead),(2,.dead),(900,.sl 4 .bool r4_.2.2 .shallow),(901,.sl 89 y6_ o1 .shallow),(902,.sl 96 y9_ o2 (.deep true .no))]) rfl rfl ⟨⟨Y3,rfl,Y3,.inl rfl,Y1⟩,Y1,Y1,Y2,Y2,Y2,Y1⟩ ⟨Y3,.inr rfl,Y1⟩),he⟩
      ·refine Zt mixed Ze (Zb3 n_ ih) (S:=Int×Bool×(List D6_)×(List D9_)) (I:=(fun (i_11,i_31,i_01,i_21)=>(Zo [(0,.c (.ptr 0 0)),(1,.c (.imm y0_ a1))],[(0,.rc [.own 10003000 false,.int .i64 i_11,.own 10003001 false,.bool i_31]),(1,.dead),(2,.dead),(10003000,.sl 89 y6_ i_01 .shallow),(10003001,.sl 96 y9_ i_21 (.deep true .no))]))) (B:=fun s=>Ok (Zdt a1 s) (fun r=>k (.tup [.c (.own 900 false),.c (.bool r.1)]) [(0,.rc [.own 901 false,.int .i64 r.2.1,.own 902 false,.bool r.2.2.1]),(1,.dead),(2,.dead),(900,.sl 4 .bool r.2.2.2.1 .shallow),(901,.sl 89 y6_ r.2.2.2.2.1 .shallow),(902,.sl 96 y9_ r.2.2.2.2.2 (.deep true .no))])) ?_ ?_
       ·rintro⟨i_11,i_31,i_01,i_21⟩ he
        refine Zh he (fun he=>?_) fun he=>?_
        ·have he:=Zb he
         exact⟨rfl,_,_,(Za [(901,10003000),(902,10003001)] (l:=[(4,.c (.own 900 false)),(5,.c (.bool false))]) (st':=[(0,.rc [.own 901 false,.int .i64 i_11,.own 902 false,.bool true]),(1,.dead),(2,.dead),(900,.sl 4 .bool ([]:List Bool) .shallow),(901,.sl 89 y6_ i_01 .shallow),(902,.sl 96 y9_ i_21 (.deep true .no))]) rfl rfl ⟨⟨Y3,rfl,Y3,.inr rfl,Y1⟩,Y1,Y1,Y1,Y2,Y2,Y1⟩ ⟨⟨rfl,Y1⟩,.inr rfl,Y1⟩),he⟩
        ·exact⟨(i_11,i_31,i_01,i_21),he,(Za [(10004000,10003000),(10004001,10003001)] rfl rfl ⟨⟨Y3,rfl,Y3,.inl rfl,Y1⟩,Y1,Y1,Y2,Y2,Y1⟩ ⟨⟨Y2,rfl⟩,.inl rfl,Y1⟩)⟩
       ·skip
        refine Zc he fun he=>?_
        refine Zl mixed Ze (Zb3 n_ ih) (S:=Int×Int×Bool×(List D6_)×(List D9_)) (I:=(fun (i3,i_1,i_3,i_0,i_2)=>(Zo [(0,.c (.ptr 0 0)),(1,.c (.imm y0_ a1)),(82,.c (.own 10002000 false)),(83,.c (.int .i64 ([r4_.1,(0 - r4_.1)].length:Int))),(84,.c (.int .i64 i3))],[(0,.rc [.own 10002001 false,.int .i64 i_1,.own 10002002 false,.bool i_3]),(1,.dead),(2,.dead),(10002000,.sl 3 y0_ [r4_.1,(0 - r4_.1)] .shallow),(10002001,.sl 89 y6_ i_0 .shallow),(10002002,.sl 96 y9_ i_2 (.deep true .no))]))) (f:=ZbX a1 r4_ (ZA n_)) (K:=(fun r=>k (.tup [.c (.own 900 false),.c (.bool r.1)]) [(0,.rc [.own 901 false,.int .i64 r.2.1,.own 902 false,.bool r.2.2.1]),(1,.dead),(2,.dead),(900,.sl 4 .bool r.2.2.2.1 .shallow),(901,.sl 89 y6_ r.2.2.2.2.1 .shallow),(902,.sl 96 y9_ r.2.2.2.2.2 (.deep true .no))])) he (Za [(10002000,82),(10002001,1),(10002002,2)] rfl rfl ⟨⟨Y3,rfl,Y3,.inl rfl,Y1⟩,Y1,Y1,Y2,Y2,Y2,Y1⟩ ⟨⟨Y2,rfl⟩,.inl rfl,Y3,rfl,rfl,Y1⟩) ?_
        rintro⟨i3,i_1,i_3,i_0,i_2⟩ J1 he
        refine Zh he (fun he=>?_) fun he=>?_
        ·refine Zc he fun he=>?_
         refine Zk he fun r7_ he=>?_
         refine Zc he fun he=>?_
         refine Zk he fun r8_ he=>?_
         refine ZK he (fun he=>?_) fun he=>?_
         ·refine Zh he (fun he=>?_) fun he=>?_
          ·have he:=Zb he
           exact⟨rfl,_,_,(Za [(900,96900),(901,96901),(902,96902)] (l:=[(4,.c (.own 900 false)),(5,.c (.bool r8_.1))]) (st':=[(0,.rc [.own 901 false,.int .i64 r8_.2.1,.own 902 false,.bool r8_.2.2.1]),(1,.dead),(2,.dead),(900,.sl 4 .bool r8_.2.2.2.1 .shallow),(901,.sl 89 y6_ r8_.2.2.2.2.1 .shallow),(902,.sl 96 y9_ r8_.2.2.2.2.2 (.deep true .no))]) rfl rfl ⟨⟨Y3,rfl,Y3,.inl rfl,Y1⟩,Y1,Y1,Y2,Y2,Y2,Y1⟩ ⟨Y3,.inl rfl,Y1⟩),he⟩
          ·refine Zc he fun he=>?_
           have he:=Zb he
           exact⟨((i3+(1:Int)),r8_.2.1,r8_.2.2.1,r8_.2.2.2.2.1,r8_.2.2.2.2.2),he,(Za [(10002001,96901),(10002002,96902)] rfl rfl ⟨⟨Y3,rfl,Y3,.inl rfl,Y1⟩,Y1,Y1,Y2,Y2,Y2,Y1⟩ ⟨⟨Y2,rfl⟩,.inl rfl,Y3,rfl,rfl,Y1⟩)⟩
         ·have he:=Zb he
          exact⟨rfl,_,_,(Za [(900,96900),(901,96901),(902,96902)] (l:=[(4,.c (.own 900 false)),(5,.c (.bool r8_.1))]) (st':=[(0,.rc [.own 901 false,.int .i64 r8_.2.1,.own 902 false,.bool r8_.2.2.1]),(1,.dead),(2,.dead),(900,.sl 4 .bool r8_.2.2.2.1 .shallow),(901,.sl 89 y6_ r8_.2.2.2.2.1 .shallow),(902,.sl 96 y9_ r8_.2.2.2.2.2 (.deep true .no))]) rfl rfl ⟨⟨Y3,rfl,Y3,.inl rfl,Y1⟩,Y1,Y1,Y2,Y2,Y2,Y1⟩ ⟨Y3,.inl rfl,Y1⟩),he⟩
        ·exact⟨(i_1,i_3,i_0,i_2),ZbH he,(Za [(10003000,10002001),(10003001,10002002)] rfl rfl ⟨⟨Y3,rfl,Y3,.inl rfl,Y1⟩,Y1,Y1,Y2,Y2,Y1⟩ ⟨⟨Y2,rfl⟩,.inl rfl,Y1⟩)⟩
     ·exact⟨((o0_1 - (1:Int)),o0_3,o1,o2),he,(Za [(10004000,1),(10004001,2)] rfl rfl ⟨⟨Y3,rfl,Y3,.inl rfl,Y1⟩,Y1,Y1,Y2,Y2,Y1⟩ ⟨⟨Y2,rfl⟩,.inl rfl,Y1⟩)⟩
   ·skip
    refine Zl mixed Ze (Zb3 n_ ih) (S:=Int×(List Int)) (I:=(fun (i,i1)=>(Zo [(0,.c (.ptr 0 0)),(1,.c (.imm y0_ a1)),(6,.c (.own 10000000 false)),(41,.c (.imm y0_ a1)),(42,.c (.int .i64 (a1.length:Int))),(43,.c (.int .i64 i))],[(0,.rc [.own 1 false,.int .i64 (o0_1 - (1:Int)),.own 2 false,.bool o0_3]),(1,.sl 89 y6_ o1 .shallow),(2,.sl 96 y9_ o2 (.deep true .no)),(10000000,.sl 3 y0_ i1 .shallow)]))) (f:=Zbr a1 o0_1 o0_3 o1 o2 (ZA n_)) (K:=(fun r=>k (.tup [.c (.own 900 false),.c (.bool r.1)]) [(0,.rc [.own 901 false,.int .i64 r.2.1,.own 902 false,.bool r.2.2.1]),(1,.dead),(2,.dead),(900,.sl 4 .bool r.2.2.2.1 .shallow),(901,.sl 89 y6_ r.2.2.2.2.1 .shallow),(902,.sl 96 y9_ r.2.2.2.2.2 (.deep true .no))])) he (Za [(10000000,40)] rfl rfl ⟨⟨Y3,rfl,Y3,.inl rfl,Y1⟩,Y2,Y2,Y2,Y1⟩ ⟨⟨Y2,rfl⟩,.inl rfl,Y3,.inl rfl,rfl,rfl,Y1⟩) ?_
    rintro⟨i,i1⟩ J1 he
    refine Zh he (fun he=>?_) fun he=>?_
    ·refine Zc he fun he=>?_
     refine Zk he fun r2_ he=>?_
     refine Zc he fun he=>?_
     refine Zc he fun he=>?_
     refine Zh he (fun he=>?_) fun he=>?_
     ·refine Zc he fun he=>?_
      refine Zc he fun he=>?_
      refine Zc he fun he=>?_
      refine Zc he fun he=>?_
      have he:=Zb he
      exact⟨((i+(1:Int)),((i1.set (r2_ - (1:Int)).toNat (1:Int)).set ((0 - (a1.getD i.toNat 0)) - (1:Int)).toNat (-1:Int))),he,(Za [] rfl rfl ⟨⟨Y3,rfl,Y3,.inl rfl,Y1⟩,Y2,Y2,Y2,Y1⟩ ⟨⟨Y2,rfl⟩,.inl rfl,Y3,.inl rfl,rfl,rfl,Y1⟩)⟩
     ·refine Zc he fun he=>?_
      have he:=Zb he
      exact⟨((i+(1:Int)),(i1.set (r2_ - (1:Int)).toNat (1:Int))),he,(Za [] rfl rfl ⟨⟨Y3,rfl,Y3,.inl rfl,Y1⟩,Y2,Y2,Y2,Y1⟩ ⟨⟨Y2,rfl⟩,.inl rfl,Y3,.inl rfl,rfl,rfl,Y1⟩)⟩
    ·exact⟨i1,ZbH he,(Za [(10001000,10000000)] rfl rfl ⟨⟨Y3,rfl,Y3,.inl rfl,Y1⟩,Y2,Y2,Y2,Y1⟩ ⟨⟨Y2,rfl⟩,.inl rfl,Y3,Y1⟩)⟩
 ·have he:=Zb he
  exact⟨rfl,_,_,(Za [(901,1),(902,2)] (l:=[(4,.c (.own 900 false)),(5,.c (.bool false))]) (st':=[(0,.rc [.own 901 false,.int .i64 o0_1,.own 902 false,.bool true]),(1,.dead),(2,.dead),(900,.sl 4 .bool ([]:List Bool) .shallow),(901,.sl 89 y6_ o1 .shallow),(902,.sl 96 y9_ o2 (.deep true .no))]) rfl rfl ⟨⟨Y3,rfl,Y3,.inr rfl,Y1⟩,Y1,Y1,Y1,Y2,Y2,Y1⟩ ⟨⟨rfl,Y1⟩,.inr rfl,Y1⟩),he⟩
theorem ZiB:∀n_,Zq Tryz.prog 114 (Zbc n_)
  |0=>by
    refine Zm (C:={ y:=tys,n:=120,h:=3,tab:=[],cut:=[],hand:=[],good:=[],deep:=[],sched:=[] }) mixed Ze (Zn (fun p h=>by cases h)) (fn:=Tryz.f114) (c:=bd Tryz.f114) (by kernel_rfl) (by kernel_rfl) (by kernel_rfl) (by kernel_rfl) ?_
    intro args st k he
    unfold Zbc at he
    split at he
    · obtain⟨x,hx,_⟩:=he
      cases hx
    · exact he.elim
  |n_+1=>ZmO n_ (ZiB n_)
def Zbx (n_:Nat):Con:=fun args st=>match args,st with
  |[.c (.ptr 0 0),.c (.imm (.int .i64) a1)],[(0,.rc [.own 1 false,.int .i64 o0_1,.nil,.bool o0_3]),(1,.sl 89 (.pair (.sl (.pair (.int .i64) (.int .i64))) (.int .i64)) o1 .shallow)]=>.opt (Bool×Int×Bool×(List Bool)×(List D6_)×(List D9_)) (Zco n_ a1 o0_1 o0_3 o1) (fun r=>.ret (.tup [.c (.own 900 false),.c (.bool r.1)]) [(0,.rc [.own 901 false,.int .i64 r.2.1,.own 902 false,.bool r.2.2.1]),(1,.dead),(900,.sl 4 .bool r.2.2.2.1 .shallow),(901,.sl 89 y6_ r.2.2.2.2.1 .shallow),(902,.sl 96 y9_ r.2.2.2.2.2 (.deep true .no))])
  |_,_=>.fail
def Ze4 (n_:Nat):Cfg:={ y:=tys,n:=120,h:=2,tab:=[(75,Zdf),(114,(Zbc 64)),(170,Zen),(171,ZiI),(172,Zj8),(173,ZdO)],cut:=[13,25,28],hand:=[],good:=[],deep:=[],sched:=[] }
theorem Zb2 (n_:Nat) (ih:Zq Tryz.prog 114 (Zbx n_)):Zs Tryz.prog (Ze4 n_):=by
  refine Zn ?_
  simp only[Ze4,List.forall_mem_cons]
  exact⟨Zfc,(ZiB 64),ZhZ,Zqr,Zrc,Zjp,fun p h=>by cases h⟩
theorem ZmN (n_:Nat) (ih:Zq Tryz.prog 114 (Zbx n_)):Zq Tryz.prog 114 (Zbx (n_+1)):=by
 refine Zm (C:=(Ze4 n_)) mixed Ze (Zb2 n_ ih) (fn:=Tryz.f114) (c:=bd Tryz.f114) (by kernel_rfl) (by kernel_rfl) (by kernel_rfl) (by kernel_rfl) ?_
 intro args st k he
 unfold Zbx at he
 split at he
 rotate_left
 ·exact he.elim
 rename_i a1 o0_1 o0_3 o1
 have he:Ok (Zde (Zco n_) a1 o0_1 o0_3 o1) (fun r=>k (.tup [.c (.own 900 false),.c (.bool r.1)]) [(0,.rc [.own 901 false,.int .i64 r.2.1,.own 902 false,.bool r.2.2.1]),(1,.dead),(900,.sl 4 .bool r.2.2.2.1 .shallow),(901,.sl 89 y6_ r.2.2.2.2.1 .shallow),(902,.sl 96 y9_ r.2.2.2.2.2 (.deep true .no))]):=he
 refine⟨rfl,rfl,?_⟩
 refine ZK he (fun he=>?_) fun he=>?_
 ·refine Zh he (fun he=>?_) fun he=>?_
  ·have he:=Zb he
   exact⟨rfl,_,_,(Za [(901,1)] (l:=[(4,.c (.own 900 false)),(5,.c (.bool false))]) (st':=[(0,.rc [.own 901 false,.int .i64 o0_1,.own 902 false,.bool true]),(1,.dead),(900,.sl 4 .bool ([]:List Bool) .shallow),(901,.sl 89 y6_ o1 .shallow),(902,.sl 96 y9_ ([]:List D9_) (.deep true .no))]) rfl rfl ⟨⟨Y3,rfl,⟨rfl,Y1⟩,.inr rfl,Y1⟩,Y1,Y1,Y2,Y1,Y1⟩ ⟨⟨rfl,Y1⟩,.inr rfl,Y1⟩),he⟩
  ·refine Zc he fun he=>?_
   refine Zc he fun he=>?_
   refine Zt mixed Ze (Zb2 n_ ih) (S:=(List Int)) (I:=(fun i2=>(Zo [(0,.c (.ptr 0 0)),(1,.c (.imm y0_ a1)),(6,.c (.own 10001000 false))],[(0,.rc [.own 1 false,.int .i64 (o0_1 - (1:Int)),.nil,.bool o0_3]),(1,.sl 89 y6_ o1 .shallow),(10001000,.sl 3 y0_ i2 .shallow)]))) (B:=fun s=>Ok (Zdr a1 o0_1 o0_3 o1 s) (fun r=>k (.tup [.c (.own 900 false),.c (.bool r.1)]) [(0,.rc [.own 901 false,.int .i64 r.2.1,.own 902 false,.bool r.2.2.1]),(1,.dead),(900,.sl 4 .bool r.2.2.2.1 .shallow),(901,.sl 89 y6_ r.2.2.2.2.1 .shallow),(902,.sl 96 y9_ r.2.2.2.2.2 (.deep true .no))])) ?_ ?_
   ·rintro i2 he
    refine Zk he fun r3_ he=>?_
    refine Zt mixed Ze (Zb2 n_ ih) (S:=Int×Bool×(List D6_)×(List D9_)) (I:=(fun (i_12,i_32,i_02,i_22)=>(Zo [(0,.c (.ptr 0 0)),(1,.c (.imm y0_ a1))],[(0,.rc [.own 10004000 false,.int .i64 i_12,.own 10004001 false,.bool i_32]),(1,.dead),(10004000,.sl 89 y6_ i_02 .shallow),(10004001,.sl 96 y9_ i_22 (.deep true .no))]))) (B:=fun s=>Ok (ZeO a1 s) (fun r=>k (.tup [.c (.own 900 false),.c (.bool r.1)]) [(0,.rc [.own 901 false,.int .i64 r.2.1,.own 902 false,.bool r.2.2.1]),(1,.dead),(900,.sl 4 .bool r.2.2.2.1 .shallow),(901,.sl 89 y6_ r.2.2.2.2.1 .shallow),(902,.sl 96 y9_ r.2.2.2.2.2 (.deep true .no))])) ?_ ?_
    ·rintro⟨i_12,i_32,i_02,i_22⟩ he
     refine Zk he fun r9_ he=>?_
     have he:=Zb he
     exact⟨rfl,_,_,(Za [(901,120900),(902,120901)] (l:=[(4,.c (.own 900 false)),(5,.c (.bool false))]) (st':=[(0,.rc [.own 901 false,.int .i64 i_12,.own 902 false,.bool i_32]),(1,.dead),(900,.sl 4 .bool ([]:List Bool) .shallow),(901,.sl 89 y6_ r9_.1 .shallow),(902,.sl 96 y9_ r9_.2 (.deep true .no))]) rfl rfl ⟨⟨Y3,rfl,Y3,.inl rfl,Y1⟩,Y1,Y1,Y2,Y2,Y1⟩ ⟨⟨rfl,Y1⟩,.inr rfl,Y1⟩),he⟩
    ·skip
     refine Zh he (fun he=>?_) fun he=>?_
     ·refine Zk he fun r4_ he=>?_
      refine Zh he (fun he=>?_) fun he=>?_
      ·have he:=Zb he
       exact⟨rfl,_,_,(Za [(900,74900),(901,1)] (l:=[(4,.c (.own 900 false)),(5,.c (.bool true))]) (st':=[(0,.rc [.own 901 false,.int .i64 (o0_1 - (1:Int)),.own 902 false,.bool o0_3]),(1,.dead),(900,.sl 4 .bool r4_.2.2 .shallow),(901,.sl 89 y6_ o1 .shallow),(902,.sl 96 y9_ ([]:List D9_) (.deep true .no))]) rfl rfl ⟨⟨Y3,rfl,⟨rfl,Y1⟩,.inl rfl,Y1⟩,Y1,Y2,Y2,Y1,Y1⟩ ⟨Y3,.inr rfl,Y1⟩),he⟩
      ·refine Zt mixed Ze (Zb2 n_ ih) (S:=Int×Bool×(List D6_)×(List D9_)) (I:=(fun (i_11,i_31,i_01,i_21)=>(Zo [(0,.c (.ptr 0 0)),(1,.c (.imm y0_ a1))],[(0,.rc [.own 10003000 false,.int .i64 i_11,.own 10003001 false,.bool i_31]),(1,.dead),(10003000,.sl 89 y6_ i_01 .shallow),(10003001,.sl 96 y9_ i_21 (.deep true .no))]))) (B:=fun s=>Ok (Zic a1 s) (fun r=>k (.tup [.c (.own 900 false),.c (.bool r.1)]) [(0,.rc [.own 901 false,.int .i64 r.2.1,.own 902 false,.bool r.2.2.1]),(1,.dead),(900,.sl 4 .bool r.2.2.2.1 .shallow),(901,.sl 89 y6_ r.2.2.2.2.1 .shallow),(902,.sl 96 y9_ r.2.2.2.2.2 (.deep true .no))])) ?_ ?_
       ·rintro⟨i_11,i_31,i_01,i_21⟩ he
        refine Zh he (fun he=>?_) fun he=>?_
        ·have he:=Zb he
         exact⟨rfl,_,_,(Za [(901,10003000),(902,10003001)] (l:=[(4,.c (.own 900 false)),(5,.c (.bool false))]) (st':=[(0,.rc [.own 901 false,.int .i64 i_11,.own 902 false,.bool true]),(1,.dead),(900,.sl 4 .bool ([]:List Bool) .shallow),(901,.sl 89 y6_ i_01 .shallow),(902,.sl 96 y9_ i_21 (.deep true .no))]) rfl rfl ⟨⟨Y3,rfl,Y3,.inr rfl,Y1⟩,Y1,Y1,Y2,Y2,Y1⟩ ⟨⟨rfl,Y1⟩,.inr rfl,Y1⟩),he⟩
        ·exact⟨(i_11,i_31,i_01,i_21),he,(Za [(10004000,10003000),(10004001,10003001)] rfl rfl ⟨⟨Y3,rfl,Y3,.inl rfl,Y1⟩,Y1,Y2,Y2,Y1⟩ ⟨⟨Y2,rfl⟩,.inl rfl,Y1⟩)⟩
       ·skip
        refine Zc he fun he=>?_
        refine Zl mixed Ze (Zb2 n_ ih) (S:=Int×Int×Bool×(List D6_)×(List D9_)) (I:=(fun (i3,i_1,i_3,i_0,i_2)=>(Zo [(0,.c (.ptr 0 0)),(1,.c (.imm y0_ a1)),(82,.c (.own 10002000 false)),(83,.c (.int .i64 ([r4_.1,(0 - r4_.1)].length:Int))),(84,.c (.int .i64 i3))],[(0,.rc [.own 10002001 false,.int .i64 i_1,.own 10002002 false,.bool i_3]),(1,.dead),(10002000,.sl 3 y0_ [r4_.1,(0 - r4_.1)] .shallow),(10002001,.sl 89 y6_ i_0 .shallow),(10002002,.sl 96 y9_ i_2 (.deep true .no))]))) (f:=ZeP a1 r4_) (K:=(fun r=>k (.tup [.c (.own 900 false),.c (.bool r.1)]) [(0,.rc [.own 901 false,.int .i64 r.2.1,.own 902 false,.bool r.2.2.1]),(1,.dead),(900,.sl 4 .bool r.2.2.2.1 .shallow),(901,.sl 89 y6_ r.2.2.2.2.1 .shallow),(902,.sl 96 y9_ r.2.2.2.2.2 (.deep true .no))])) he (Za [(10002000,82),(10002001,1)] rfl rfl ⟨⟨Y3,rfl,⟨rfl,Y1⟩,.inl rfl,Y1⟩,Y1,Y2,Y2,Y1,Y1⟩ ⟨⟨Y2,rfl⟩,.inl rfl,Y3,rfl,rfl,Y1⟩) ?_
        rintro⟨i3,i_1,i_3,i_0,i_2⟩ J1 he
        refine Zh he (fun he=>?_) fun he=>?_
        ·refine Zc he fun he=>?_
         refine Zk he fun r7_ he=>?_
         refine Zc he fun he=>?_
         refine Zk he fun r8_ he=>?_
         refine ZK he (fun he=>?_) fun he=>?_
         ·refine Zh he (fun he=>?_) fun he=>?_
          ·have he:=Zb he
           exact⟨rfl,_,_,(Za [(900,96900),(901,96901),(902,96902)] (l:=[(4,.c (.own 900 false)),(5,.c (.bool r8_.1))]) (st':=[(0,.rc [.own 901 false,.int .i64 r8_.2.1,.own 902 false,.bool r8_.2.2.1]),(1,.dead),(900,.sl 4 .bool r8_.2.2.2.1 .shallow),(901,.sl 89 y6_ r8_.2.2.2.2.1 .shallow),(902,.sl 96 y9_ r8_.2.2.2.2.2 (.deep true .no))]) rfl rfl ⟨⟨Y3,rfl,Y3,.inl rfl,Y1⟩,Y1,Y2,Y2,Y2,Y1⟩ ⟨Y3,.inl rfl,Y1⟩),he⟩
          ·refine Zc he fun he=>?_
           have he:=Zb he
           exact⟨((i3+(1:Int)),r8_.2.1,r8_.2.2.1,r8_.2.2.2.2.1,r8_.2.2.2.2.2),he,(Za [(10002001,96901),(10002002,96902)] rfl rfl ⟨⟨Y3,rfl,Y3,.inl rfl,Y1⟩,Y1,Y2,Y2,Y2,Y1⟩ ⟨⟨Y2,rfl⟩,.inl rfl,Y3,rfl,rfl,Y1⟩)⟩
         ·have he:=Zb he
          exact⟨rfl,_,_,(Za [(900,96900),(901,96901),(902,96902)] (l:=[(4,.c (.own 900 false)),(5,.c (.bool r8_.1))]) (st':=[(0,.rc [.own 901 false,.int .i64 r8_.2.1,.own 902 false,.bool r8_.2.2.1]),(1,.dead),(900,.sl 4 .bool r8_.2.2.2.1 .shallow),(901,.sl 89 y6_ r8_.2.2.2.2.1 .shallow),(902,.sl 96 y9_ r8_.2.2.2.2.2 (.deep true .no))]) rfl rfl ⟨⟨Y3,rfl,Y3,.inl rfl,Y1⟩,Y1,Y2,Y2,Y2,Y1⟩ ⟨Y3,.inl rfl,Y1⟩),he⟩
        ·exact⟨(i_1,i_3,i_0,i_2),ZbH he,(Za [(10003000,10002001),(10003001,10002002)] rfl rfl ⟨⟨Y3,rfl,Y3,.inl rfl,Y1⟩,Y1,Y2,Y2,Y1⟩ ⟨⟨Y2,rfl⟩,.inl rfl,Y1⟩)⟩
     ·exact⟨((o0_1 - (1:Int)),o0_3,o1,([]:List D9_)),he,(Za [(10004000,1)] rfl rfl ⟨⟨Y3,rfl,⟨rfl,Y1⟩,.inl rfl,Y1⟩,Y1,Y2,Y1,Y1⟩ ⟨⟨Y2,rfl⟩,.inl rfl,Y1⟩)⟩
   ·skip
    refine Zl mixed Ze (Zb2 n_ ih) (S:=Int×(List Int)) (I:=(fun (i,i1)=>(Zo [(0,.c (.ptr 0 0)),(1,.c (.imm y0_ a1)),(6,.c (.own 10000000 false)),(41,.c (.imm y0_ a1)),(42,.c (.int .i64 (a1.length:Int))),(43,.c (.int .i64 i))],[(0,.rc [.own 1 false,.int .i64 (o0_1 - (1:Int)),.nil,.bool o0_3]),(1,.sl 89 y6_ o1 .shallow),(10000000,.sl 3 y0_ i1 .shallow)]))) (f:=Zds a1 o0_1 o0_3 o1) (K:=(fun r=>k (.tup [.c (.own 900 false),.c (.bool r.1)]) [(0,.rc [.own 901 false,.int .i64 r.2.1,.own 902 false,.bool r.2.2.1]),(1,.dead),(900,.sl 4 .bool r.2.2.2.1 .shallow),(901,.sl 89 y6_ r.2.2.2.2.1 .shallow),(902,.sl 96 y9_ r.2.2.2.2.2 (.deep true .no))])) he (Za [(10000000,40)] rfl rfl ⟨⟨Y3,rfl,rfl,.inl rfl,Y1⟩,Y2,Y2,Y1⟩ ⟨⟨Y2,rfl⟩,.inl rfl,Y3,.inl rfl,rfl,rfl,Y1⟩) ?_
    rintro⟨i,i1⟩ J1 he
    refine Zh he (fun he=>?_) fun he=>?_
    ·refine Zc he fun he=>?_
     refine Zk he fun r2_ he=>?_
     refine Zc he fun he=>?_
     refine Zc he fun he=>?_
     refine Zh he (fun he=>?_) fun he=>?_
     ·refine Zc he fun he=>?_
      refine Zc he fun he=>?_
      refine Zc he fun he=>?_
      refine Zc he fun he=>?_
      have he:=Zb he
      exact⟨((i+(1:Int)),((i1.set (r2_ - (1:Int)).toNat (1:Int)).set ((0 - (a1.getD i.toNat 0)) - (1:Int)).toNat (-1:Int))),he,(Za [] rfl rfl ⟨⟨Y3,rfl,rfl,.inl rfl,Y1⟩,Y2,Y2,Y1⟩ ⟨⟨Y2,rfl⟩,.inl rfl,Y3,.inl rfl,rfl,rfl,Y1⟩)⟩
     ·refine Zc he fun he=>?_
      have he:=Zb he
      exact⟨((i+(1:Int)),(i1.set (r2_ - (1:Int)).toNat (1:Int))),he,(Za [] rfl rfl ⟨⟨Y3,rfl,rfl,.inl rfl,Y1⟩,Y2,Y2,Y1⟩ ⟨⟨Y2,rfl⟩,.inl rfl,Y3,.inl rfl,rfl,rfl,Y1⟩)⟩
    ·exact⟨i1,ZbH he,(Za [(10001000,10000000)] rfl rfl ⟨⟨Y3,rfl,rfl,.inl rfl,Y1⟩,Y2,Y2,Y1⟩ ⟨⟨Y2,rfl⟩,.inl rfl,Y3,Y1⟩)⟩
 ·have he:=Zb he
  exact⟨rfl,_,_,(Za [(901,1)] (l:=[(4,.c (.own 900 false)),(5,.c (.bool false))]) (st':=[(0,.rc [.own 901 false,.int .i64 o0_1,.own 902 false,.bool true]),(1,.dead),(900,.sl 4 .bool ([]:List Bool) .shallow),(901,.sl 89 y6_ o1 .shallow),(902,.sl 96 y9_ ([]:List D9_) (.deep true .no))]) rfl rfl ⟨⟨Y3,rfl,⟨rfl,Y1⟩,.inr rfl,Y1⟩,Y1,Y1,Y2,Y1,Y1⟩ ⟨⟨rfl,Y1⟩,.inr rfl,Y1⟩),he⟩
theorem ZiA:∀n_,Zq Tryz.prog 114 (Zbx n_)
  |0=>by
    refine Zm (C:={ y:=tys,n:=120,h:=2,tab:=[],cut:=[],hand:=[],good:=[],deep:=[],sched:=[] }) mixed Ze (Zn (fun p h=>by cases h)) (fn:=Tryz.f114) (c:=bd Tryz.f114) (by kernel_rfl) (by kernel_rfl) (by kernel_rfl) (by kernel_rfl) ?_
    intro args st k he
    unfold Zbx at he
    split at he
    · obtain⟨x,hx,_⟩:=he
      cases hx
    · exact he.elim
  |n_+1=>ZmN n_ (ZiA n_)
def ZjT:Con:=fun args st=>match args,st with
  |[.c (.imm (.pair (.sl (.pair (.int .i64) (.int .i64))) (.int .i64)) list_),.c (.int .i64 fuel)],[]=>.opt (Int×(List Bool)×(List D9_)) (ZdC list_ fuel) (fun r=>.ret (.tup [.c (.int .i64 r.1),.c (.own 900 false),.c (.own 901 false)]) [(900,.sl 4 .bool r.2.1 .shallow),(901,.sl 96 y9_ r.2.2 (.deep true .no))])
  |_,_=>.fail
def ZjG:Cfg:={ y:=tys,n:=40,h:=0,tab:=[(57,Zmg),(61,Zc8),(98,ZjQ),(114,(Zbx 64))],cut:=[],hand:=[],good:=[],deep:=[],sched:=[] }
theorem ZtJ:Zs Tryz.prog ZjG:=by
  refine Zn ?_
  simp only[ZjG,List.forall_mem_cons]
  exact⟨Ztc,Zhy,Ztv,(ZiA 64),fun p h=>by cases h⟩
theorem Zty:Zq Tryz.prog 44 ZjT:=by
 refine Zm (C:=ZjG) mixed Ze ZtJ (fn:=Tryz.f44) (c:=bd Tryz.f44) (by kernel_rfl) (by kernel_rfl) (by kernel_rfl) (by kernel_rfl) ?_
 intro args st k he
 unfold ZjT at he
 split at he
 rotate_left
 ·exact he.elim
 rename_i list_ fuel
 have he:Ok (ZdC list_ fuel) (fun r=>k (.tup [.c (.int .i64 r.1),.c (.own 900 false),.c (.own 901 false)]) [(900,.sl 4 .bool r.2.1 .shallow),(901,.sl 96 y9_ r.2.2 (.deep true .no))]):=he
 refine⟨rfl,rfl,?_⟩
 refine Zk he fun r1_ he=>?_
 refine ZK he (fun he=>?_) fun he=>?_
 ·refine Zk he fun r2_ he=>?_
  refine Zh he (fun he=>?_) fun he=>?_
  ·have he:=Zb he
   exact⟨rfl,_,_,(Za [] (l:=[(4,.c (.int .i64 (3:Int))),(5,.c (.own 900 false)),(6,.c (.own 901 false))]) (st':=[(900,.sl 4 .bool ([]:List Bool) .shallow),(901,.sl 96 y9_ ([]:List D9_) (.deep true .no))]) rfl rfl ⟨Y1,Y1,Y1⟩ ⟨rfl,⟨rfl,Y1⟩,⟨rfl,Y1⟩,Y1⟩),he⟩
  ·refine Zk he fun r3_ he=>?_
   refine Zk he fun r4_ he=>?_
   refine Zh he (fun he=>?_) fun he=>?_
   ·have he:=Zb he
    exact⟨rfl,_,_,(Za [(900,26900)] (l:=[(4,.c (.int .i64 (1:Int))),(5,.c (.own 900 false)),(6,.c (.own 901 false))]) (st':=[(900,.sl 4 .bool r4_.2.2.2.1 .shallow),(901,.sl 96 y9_ ([]:List D9_) (.deep true .no))]) rfl rfl ⟨Y2,Y1,Y1⟩ ⟨rfl,Y3,⟨rfl,Y1⟩,Y1⟩),he⟩
   ·refine Zh he (fun he=>?_) fun he=>?_
    ·have he:=Zb he
     exact⟨rfl,_,_,(Za [] (l:=[(4,.c (.int .i64 (0:Int))),(5,.c (.own 900 false)),(6,.c (.own 901 false))]) (st':=[(900,.sl 4 .bool ([]:List Bool) .shallow),(901,.sl 96 y9_ ([]:List D9_) (.deep true .no))]) rfl rfl ⟨Y1,Y1,Y1⟩ ⟨rfl,⟨rfl,Y1⟩,⟨rfl,Y1⟩,Y1⟩),he⟩
    ·refine And.intro (by kernel_rfl) ?_
     have he:=Zb he
     exact⟨rfl,_,_,(Za [(901,26902)] (l:=[(4,.c (.int .i64 (2:Int))),(5,.c (.own 900 false)),(6,.c (.own 901 false))]) (st':=[(900,.sl 4 .bool ([]:List Bool) .shallow),(901,.sl 96 y9_ r4_.2.2.2.2.2 (.deep true .no))]) rfl rfl ⟨Y1,Y2,Y1⟩ ⟨rfl,⟨rfl,Y1⟩,Y3,Y1⟩),he⟩
 ·have he:=Zb he
  exact⟨rfl,_,_,(Za [] (l:=[(4,.c (.int .i64 (3:Int))),(5,.c (.own 900 false)),(6,.c (.own 901 false))]) (st':=[(900,.sl 4 .bool ([]:List Bool) .shallow),(901,.sl 96 y9_ ([]:List D9_) (.deep true .no))]) rfl rfl ⟨Y1,Y1,Y1⟩ ⟨rfl,⟨rfl,Y1⟩,⟨rfl,Y1⟩,Y1⟩),he⟩
def ZjO:Con:=fun args st=>match args,st with
  |[.agg [.imm (.int .i64) m_0,.imm (.pair (.int .i64) (.pair (.sl (.int .i64)) (.pair (.sl (.int .i64)) (.pair (.int .i64) (.sl (.sl (.int .i64))))))) m_1],.c (.imm .bool values)],[]=>.opt (Bool×(List Int)) (Zeo (m_0,m_1) values) (fun r=>.ret (.tup [.c (.own 900 false),.c (.bool r.1)]) [(900,.sl 3 y0_ r.2 .shallow)])
  |_,_=>.fail
def ZjA:Cfg:={ y:=tys,n:=50,h:=0,tab:=[(71,ZfD),(118,ZgM)],cut:=[15],hand:=[],good:=[],deep:=[],sched:=[] }
theorem Zg0:Zs Tryz.prog ZjA:=by
  refine Zn ?_
  simp only[ZjA,List.forall_mem_cons]
  exact⟨ZlO,Zn0,fun p h=>by cases h⟩
theorem Ztt:Zq Tryz.prog 58 ZjO:=by
 refine Zm (C:=ZjA) mixed Ze Zg0 (fn:=Tryz.f58) (c:=bd Tryz.f58) (by kernel_rfl) (by kernel_rfl) (by kernel_rfl) (by kernel_rfl) ?_
 intro args st k he
 unfold ZjO at he
 split at he
 rotate_left
 ·exact he.elim
 rename_i m_0 m_1 values
 have he:Ok (Zeo (m_0,m_1) values) (fun r=>k (.tup [.c (.own 900 false),.c (.bool r.1)]) [(900,.sl 3 y0_ r.2 .shallow)]):=he
 refine⟨rfl,rfl,?_⟩
 refine Zk he fun r1_ he=>?_
 refine ZK he (fun he=>?_) fun he=>?_
 ·refine Zh he (fun he=>?_) fun he=>?_
  ·have he:=Zb he
   exact⟨rfl,_,_,(Za [] (l:=[(4,.c (.own 900 false)),(5,.c (.bool false))]) (st':=[(900,.sl 3 y0_ ([]:List Int) .shallow)]) rfl rfl ⟨Y1,Y1⟩ ⟨⟨rfl,Y1⟩,.inr rfl,Y1⟩),he⟩
  ·refine Zl mixed Ze Zg0 (S:=Int×(List Int)) (I:=(fun (i,out2)=>(Zo [(1,.c (.imm .bool values)),(2,.c (.ptr 10000000 0)),(6,.c (.own 10000001 false)),(21,.c (.int .i64 ((m_0,m_1).1.length:Int))),(22,.c (.int .i64 i))],[(10000000,.rc [.imm y0_ (m_0,m_1).1,.imm y4_ (m_0,m_1).2]),(10000001,.sl 3 y0_ out2 .shallow)]))) (f:=ZfY (m_0,m_1) values) (K:=(fun r=>k (.tup [.c (.own 900 false),.c (.bool r.1)]) [(900,.sl 3 y0_ r.2 .shallow)])) he (Za [(10000000,2)] rfl rfl ⟨⟨.inl rfl,.inl rfl,Y1⟩,Y1,Y1⟩ ⟨.inl rfl,⟨Y2,rfl⟩,⟨rfl,Y1⟩,rfl,rfl,Y1⟩) ?_
   rintro⟨i,out2⟩ J1 he
   refine Zh he (fun he=>?_) fun he=>?_
   ·refine Zt mixed Ze Zg0 (S:=Int×(List Int)) (I:=(fun (count3,out4)=>(Zo [(1,.c (.imm .bool values)),(2,.c (.ptr 10004000 0)),(6,.c (.own 10004001 false)),(8,.c (.int .i64 count3)),(21,.c (.int .i64 ((m_0,m_1).1.length:Int))),(22,.c (.int .i64 i))],[(10004000,.rc [.imm y0_ (m_0,m_1).1,.imm y4_ (m_0,m_1).2]),(10004001,.sl 3 y0_ out4 .shallow)]))) (B:=fun s=>Ok (ZiP i s) (LK J1 (fun r=>k (.tup [.c (.own 900 false),.c (.bool r.1)]) [(900,.sl 3 y0_ r.2 .shallow)]))) ?_ ?_
    ·rintro⟨count3,out4⟩ he
     refine Zh he (fun he=>?_) fun he=>?_
     ·have he:=Zb he
      exact⟨rfl,_,_,(Za [] (l:=[(4,.c (.own 900 false)),(5,.c (.bool false))]) (st':=[(900,.sl 3 y0_ ([]:List Int) .shallow)]) rfl rfl ⟨Y1,Y1⟩ ⟨⟨rfl,Y1⟩,.inr rfl,Y1⟩),he⟩
     ·refine Zc he fun he=>?_
      have he:=Zb he
      exact⟨((i+(1:Int)),out4),he,(Za [(10000000,10004000),(10000001,10004001)] rfl rfl ⟨⟨.inl rfl,.inl rfl,Y1⟩,Y2,Y1⟩ ⟨.inl rfl,⟨Y2,rfl⟩,Y3,rfl,rfl,Y1⟩)⟩
    ·skip
     refine Zk he fun r3_ he=>?_
     refine Zl mixed Ze Zg0 (S:=Int×Int×(List Int)) (I:=(fun (count2,i2,out3)=>(Zo [(1,.c (.imm .bool values)),(2,.c (.ptr 10003000 0)),(6,.c (.own 10003001 false)),(8,.c (.int .i64 count2)),(21,.c (.int .i64 ((m_0,m_1).1.length:Int))),(22,.c (.int .i64 i)),(27,.c (.own 10003002 false)),(28,.c (.int .i64 (r3_.length:Int))),(29,.c (.int .i64 i2))],[(10003000,.rc [.imm y0_ (m_0,m_1).1,.imm y4_ (m_0,m_1).2]),(10003001,.sl 3 y0_ out3 .shallow),(10003002,.sl 3 y0_ r3_ .shallow)]))) (f:=ZfZ values i r3_) (K:=(LK J1 (fun r=>k (.tup [.c (.own 900 false),.c (.bool r.1)]) [(900,.sl 3 y0_ r.2 .shallow)]))) he (Za [(10003000,10000000),(10003001,10000001),(10003002,28900)] rfl rfl ⟨⟨.inl rfl,.inl rfl,Y1⟩,Y2,Y2,Y1⟩ ⟨.inl rfl,⟨Y2,rfl⟩,Y3,rfl,rfl,rfl,Y3,rfl,rfl,Y1⟩) ?_
     rintro⟨count2,i2,out3⟩ J2 he
     refine Zh he (fun he=>?_) fun he=>?_
     ·refine Zc he fun he=>?_
      refine Zc he fun he=>?_
      refine Zc he fun he=>?_
      refine Zh he (fun he=>?_) fun he=>?_
      ·refine Zc he fun he=>?_
       refine Zc he fun he=>?_
       refine Zc he fun he=>?_
       have he:=Zb he
       exact⟨((count2+(1:Int)),(i2+(1:Int)),(out3++[i2])),he,(Za [(10003001,42)] rfl rfl ⟨⟨.inl rfl,.inl rfl,Y1⟩,Y2,Y2,Y1⟩ ⟨.inl rfl,⟨Y2,rfl⟩,Y3,rfl,rfl,rfl,Y3,rfl,rfl,Y1⟩)⟩
      ·refine Zc he fun he=>?_
       have he:=Zb he
       exact⟨(count2,(i2+(1:Int)),out3),he,(Za [] rfl rfl ⟨⟨.inl rfl,.inl rfl,Y1⟩,Y2,Y2,Y1⟩ ⟨.inl rfl,⟨Y2,rfl⟩,Y3,rfl,rfl,rfl,Y3,rfl,rfl,Y1⟩)⟩
     ·exact⟨(count2,out3),ZbH he,(Za [(10004000,10003000),(10004001,10003001)] rfl rfl ⟨⟨.inl rfl,.inl rfl,Y1⟩,Y2,Y1⟩ ⟨.inl rfl,⟨Y2,rfl⟩,Y3,rfl,rfl,rfl,Y1⟩)⟩
   ·have he:=Zb he
    exact⟨rfl,_,_,(Za [(900,10000001)] (l:=[(4,.c (.own 900 false)),(5,.c (.bool true))]) (st':=[(900,.sl 3 y0_ out2 .shallow)]) rfl rfl Y3 ⟨Y3,.inr rfl,Y1⟩),he⟩
 ·have he:=Zb he
  exact⟨rfl,_,_,(Za [] (l:=[(4,.c (.own 900 false)),(5,.c (.bool false))]) (st':=[(900,.sl 3 y0_ ([]:List Int) .shallow)]) rfl rfl ⟨Y1,Y1⟩ ⟨⟨rfl,Y1⟩,.inr rfl,Y1⟩),he⟩
def Zoq:Con:=fun args st=>match args,st with
  |[.c (.imm (.int .i64) coefs),.c (.imm (.int .i64) cells)],[]=>.opt (Int) (Zid coefs cells) (fun r=>.ret (.c (.int .i64 r)) [])
  |_,_=>.fail
def ZrE:Cfg:={ y:=tys,n:=25,h:=0,tab:=[],cut:=[],hand:=[],good:=[],deep:=[],sched:=[] }
theorem Zr4:Zs Tryz.prog ZrE:=Zn (fun p h=>by cases h)
theorem Zxk:Zq Tryz.prog 60 Zoq:=by
 refine Zm (C:=ZrE) mixed Ze Zr4 (fn:=Tryz.f60) (c:=bd Tryz.f60) (by kernel_rfl) (by kernel_rfl) (by kernel_rfl) (by kernel_rfl) ?_
 intro args st k he
 unfold Zoq at he
 split at he
 rotate_left
 ·exact he.elim
 rename_i coefs cells
 have he:Ok (Zid coefs cells) (fun r=>k (.c (.int .i64 r)) []):=he
 refine⟨rfl,rfl,?_⟩
 refine Zl mixed Ze Zr4 (S:=Int×Int) (I:=(fun (sum,i)=>(Zo [(0,.c (.imm y0_ coefs)),(5,.c (.int .i64 sum)),(8,.c (.imm y0_ cells)),(9,.c (.int .i64 (cells.length:Int))),(10,.c (.int .i64 i))],[]))) (f:=ZnE coefs cells) (K:=(fun r=>k (.c (.int .i64 r)) [])) he (Za [] rfl rfl trivial ⟨.inl rfl,rfl,.inl rfl,rfl,rfl,Y1⟩) ?_
 rintro⟨sum,i⟩ J1 he
 refine Zh he (fun he=>?_) fun he=>?_
 ·refine Zc he fun he=>?_
  refine Zc he fun he=>?_
  refine Zc he fun he=>?_
  refine Zc he fun he=>?_
  refine Zc he fun he=>?_
  have he:=Zb he
  exact⟨((sum+((coefs.getD i.toNat 0)*(cells.getD i.toNat 0))),(i+(1:Int))),he,(Za [] rfl rfl trivial ⟨.inl rfl,rfl,.inl rfl,rfl,rfl,Y1⟩)⟩
 ·have he:=Zb he
  exact⟨rfl,_,_,Leads.refl _ _,he⟩
def Zg7:Con:=fun args st=>match args,st with
  |[.agg [.imm (.int .i64) m_0,.imm (.pair (.int .i64) (.pair (.sl (.int .i64)) (.pair (.sl (.int .i64)) (.pair (.int .i64) (.sl (.sl (.int .i64))))))) m_1],.c (.imm (.int .i64) coefs),.c (.int .i64 most)],[]=>.opt (Bool×Int×(List D5_)) (Zda (m_0,m_1) coefs most) (fun r=>.ret (.tup [.agg [.own 901 false,.int .i64 r.2.1],.c (.bool r.1)]) [(900,.rc [.own 901 false,.int .i64 r.2.1]),(901,.sl 155 y5_ r.2.2 .shallow)])
  |_,_=>.fail
def Zg3:Cfg:={ y:=tys,n:=63,h:=0,tab:=[(56,Zho),(71,ZfD),(127,Zc1),(128,Zdp),(129,Zmh)],cut:=[13],hand:=[],good:=[],deep:=[],sched:=[(10,(.first 0 (.first 1 (.first 2 (.first 3 (.first 4 (.first 5 (.first 6 (.first 7 (.first 9 (.first 10 (.alt 8 (.alt 11 (.alt 12 (.alt 13 (.alt 14 (.first 15 .done) .stop) .stop) .stop) .stop) .stop))))))))))))] }
theorem ZeA:Zs Tryz.prog Zg3:=by
  refine Zn ?_
  simp only[Zg3,List.forall_mem_cons]
  exact⟨Zo6,ZlO,ZdP,Zf0,Ztd,fun p h=>by cases h⟩
theorem ZqO:Zq Tryz.prog 59 Zg7:=by
 refine Zm (C:=Zg3) mixed Ze ZeA (fn:=Tryz.f59) (c:=bd Tryz.f59) (by kernel_rfl) (by kernel_rfl) (by kernel_rfl) (by kernel_rfl) ?_
 intro args st k he
 unfold Zg7 at he
 split at he
 rotate_left
 ·exact he.elim
 rename_i m_0 m_1 coefs most
 have he:Ok (Zda (m_0,m_1) coefs most) (fun r=>k (.tup [.agg [.own 901 false,.int .i64 r.2.1],.c (.bool r.1)]) [(900,.rc [.own 901 false,.int .i64 r.2.1]),(901,.sl 155 y5_ r.2.2 .shallow)]):=he
 refine⟨rfl,rfl,?_⟩
 refine Zk he fun r1_ he=>?_
 refine ZK he (fun he=>?_) fun he=>?_
 ·refine Zk he fun r2_ he=>?_
  refine ZK he (fun he=>?_) fun he=>?_
  ·refine Zk he fun r3_ he=>?_
   refine Zh he (fun he=>?_) fun he=>?_
   ·have he:=Zb he
    exact⟨rfl,_,_,(Za [(900,6)] (l:=[(6,.c (.ptr 900 0)),(7,.c (.bool false))]) (st':=[(900,.rc [.own 901 false,.int .i64 (0:Int)]),(901,.sl 155 y5_ ([]:List D5_) .shallow)]) rfl rfl ⟨⟨⟨rfl,Y1⟩,rfl,Y1⟩,Y1,Y1⟩ ⟨⟨Y2,rfl⟩,.inr rfl,Y1⟩),he⟩
   ·refine Zt mixed Ze ZeA (S:=(List D5_)) (I:=(fun terms3=>(Zo [(2,.c (.int .i64 most)),(6,.c (.ptr 10003000 0)),(8,.c (.own 10003001 false))],[(10003000,.rc [.nil,.int .i64 (0:Int)]),(10003001,.sl 155 y5_ terms3 .shallow)]))) (B:=fun s=>Ok (Zgq most s) (fun r=>k (.tup [.agg [.own 901 false,.int .i64 r.2.1],.c (.bool r.1)]) [(900,.rc [.own 901 false,.int .i64 r.2.1]),(901,.sl 155 y5_ r.2.2 .shallow)])) ?_ ?_
    ·rintro terms3 he
     refine Zc he fun he=>?_
     refine Zk he fun r9_ he=>?_
     have he:=Zb he
     exact⟨rfl,_,_,(Za [(900,10003000),(901,61901)] (l:=[(6,.c (.ptr 900 0)),(7,.c (.bool r9_.1))]) (st':=[(900,.rc [.own 901 false,.int .i64 r9_.2.1]),(901,.sl 155 y5_ r9_.2.2 .shallow)]) rfl rfl ⟨⟨Y3,rfl,Y1⟩,Y2,Y1⟩ ⟨⟨Y2,rfl⟩,.inl rfl,Y1⟩),he⟩
    ·skip
     refine Zl mixed Ze ZeA (S:=Int×(List D5_)) (I:=(fun (i,terms1)=>(Zo [(1,.c (.imm y0_ coefs)),(2,.c (.int .i64 most)),(3,.c (.ptr 10000000 0)),(6,.c (.ptr 10000001 0)),(8,.c (.own 10000002 false)),(28,.c (.imm y0_ (m_0,m_1).1)),(29,.c (.int .i64 ((m_0,m_1).1.length:Int))),(30,.c (.int .i64 i))],[(10000000,.rc [.imm y0_ (m_0,m_1).1,.imm y4_ (m_0,m_1).2]),(10000001,.rc [.nil,.int .i64 (0:Int)]),(10000002,.sl 155 y5_ terms1 .shallow)]))) (f:=Zeb (m_0,m_1) coefs most) (K:=(fun r=>k (.tup [.agg [.own 901 false,.int .i64 r.2.1],.c (.bool r.1)]) [(900,.rc [.own 901 false,.int .i64 r.2.1]),(901,.sl 155 y5_ r.2.2 .shallow)])) he (Za [(10000000,3),(10000001,6)] rfl rfl ⟨⟨.inl rfl,.inl rfl,Y1⟩,⟨rfl,rfl,Y1⟩,Y1,Y1⟩ ⟨.inl rfl,rfl,⟨Y2,rfl⟩,⟨Y2,rfl⟩,⟨rfl,Y1⟩,.inl rfl,rfl,rfl,Y1⟩) ?_
     rintro⟨i,terms1⟩ J1 he
     refine Zh he (fun he=>?_) fun he=>?_
     ·refine Zc he fun he=>?_
      refine Zc he fun he=>?_
      refine Zl mixed Ze ZeA (S:=Int×(List D5_)) (I:=(fun (i2,terms2)=>(Zo [(1,.c (.imm y0_ coefs)),(2,.c (.int .i64 most)),(3,.c (.ptr 10002000 0)),(6,.c (.ptr 10002001 0)),(8,.c (.own 10002002 false)),(9,.c (.int .i64 i)),(28,.c (.imm y0_ (m_0,m_1).1)),(29,.c (.int .i64 ((m_0,m_1).1.length:Int))),(30,.c (.int .i64 i)),(36,.c (.int .i64 (((m_0,m_1).1.getD i.toNat 0)+(1:Int)))),(37,.c (.int .i64 i2))],[(10002000,.rc [.imm y0_ (m_0,m_1).1,.imm y4_ (m_0,m_1).2]),(10002001,.rc [.nil,.int .i64 (0:Int)]),(10002002,.sl 155 y5_ terms2 .shallow)]))) (f:=Zec (m_0,m_1) coefs i) (K:=(LK J1 (fun r=>k (.tup [.agg [.own 901 false,.int .i64 r.2.1],.c (.bool r.1)]) [(900,.rc [.own 901 false,.int .i64 r.2.1]),(901,.sl 155 y5_ r.2.2 .shallow)]))) he (Za [(10002000,10000000),(10002001,10000001),(10002002,10000002)] rfl rfl ⟨⟨.inl rfl,.inl rfl,Y1⟩,⟨rfl,rfl,Y1⟩,Y2,Y1⟩ ⟨.inl rfl,rfl,⟨Y2,rfl⟩,⟨Y2,rfl⟩,Y3,rfl,.inl rfl,rfl,rfl,rfl,rfl,Y1⟩) ?_
      rintro⟨i2,terms2⟩ J2 he
      refine Zh he (fun he=>?_) fun he=>?_
      ·refine And.intro (by kernel_rfl) ?_
       refine Zc he fun he=>?_
       refine Zc he fun he=>?_
       refine Zc he fun he=>?_
       refine Y4 ?_
       refine Y4 ?_
       refine Zk he fun r8_ he=>?_
       refine Y4 ?_
       refine Y4 ?_
       refine Y4 ?_
       refine Zc he fun he=>?_
       refine Zc he fun he=>?_
       have he:=Zb he
       exact⟨((i2+(1:Int)),(terms2++[(((0 - (coefs.getD i.toNat 0))*i2),r8_)])),he,(Za [(10002002,54)] rfl rfl ⟨⟨.inl rfl,.inl rfl,Y1⟩,⟨rfl,rfl,Y1⟩,Y2,Y1⟩ ⟨.inl rfl,rfl,⟨Y2,rfl⟩,⟨Y2,rfl⟩,Y3,rfl,.inl rfl,rfl,rfl,rfl,rfl,Y1⟩)⟩
      ·refine Zc he fun he=>?_
       have he:=Zb he
       exact⟨((i+(1:Int)),terms2),he,(Za [(10000000,10002000),(10000001,10002001),(10000002,10002002)] rfl rfl ⟨⟨.inl rfl,.inl rfl,Y1⟩,⟨rfl,rfl,Y1⟩,Y2,Y1⟩ ⟨.inl rfl,rfl,⟨Y2,rfl⟩,⟨Y2,rfl⟩,Y3,.inl rfl,rfl,rfl,Y1⟩)⟩
     ·exact⟨terms1,ZbH he,(Za [(10003000,10000001),(10003001,10000002)] rfl rfl ⟨⟨rfl,rfl,Y1⟩,Y2,Y1⟩ ⟨rfl,⟨Y2,rfl⟩,Y3,Y1⟩)⟩
  ·have he:=Zb he
   exact⟨rfl,_,_,(Za [(900,6)] (l:=[(6,.c (.ptr 900 0)),(7,.c (.bool false))]) (st':=[(900,.rc [.own 901 false,.int .i64 (0:Int)]),(901,.sl 155 y5_ ([]:List D5_) .shallow)]) rfl rfl ⟨⟨⟨rfl,Y1⟩,rfl,Y1⟩,Y1,Y1⟩ ⟨⟨Y2,rfl⟩,.inr rfl,Y1⟩),he⟩
 ·have he:=Zb he
  exact⟨rfl,_,_,(Za [(900,6)] (l:=[(6,.c (.ptr 900 0)),(7,.c (.bool false))]) (st':=[(900,.rc [.own 901 false,.int .i64 (0:Int)]),(901,.sl 155 y5_ ([]:List D5_) .shallow)]) rfl rfl ⟨⟨⟨rfl,Y1⟩,rfl,Y1⟩,Y1,Y1⟩ ⟨⟨Y2,rfl⟩,.inr rfl,Y1⟩),he⟩
def ZjR:Con:=fun args st=>match args,st with
  |[.agg [.imm (.int .i64) a0_0,.imm (.pair (.int .i64) (.pair (.sl (.int .i64)) (.pair (.sl (.int .i64)) (.pair (.int .i64) (.sl (.sl (.int .i64))))))) a0_1],.c (.imm (.int .i64) a1),.c (.int .i64 a2)],[]=>.opt (Int×(List Int)×(List D9_)) (Zeq (a0_0,a0_1) a1 a2) (fun r=>.ret (.tup [.c (.int .i64 r.1),.c (.own 900 false),.c (.own 901 false)]) [(900,.sl 3 y0_ r.2.1 .shallow),(901,.sl 96 y9_ r.2.2 (.deep true .no))])
  |_,_=>.fail
def ZjE:Cfg:={ y:=tys,n:=82,h:=0,tab:=[(44,ZjT),(55,Zop),(56,Zho),(57,Zmg),(58,ZjO),(59,Zg7),(60,Zoq),(61,Zc8)],cut:=[15],hand:=[],good:=[61],deep:=[],sched:=[(14,(.first 1 (.first 2 (.first 3 (.alt 0 (.alt 4 (.first 5 (.alt 6 (.first 7 (.first 8 (.first 9 (.alt 10 (.alt 11 (.first 12 .done) .stop) .stop)))) (.alt 10 (.alt 6 (.first 7 (.first 8 (.first 9 (.alt 11 (.first 12 .done) .stop)))) .stop) .stop))) (.alt 10 (.alt 4 (.first 5 (.alt 6 (.first 7 (.first 8 (.first 9 (.alt 11 (.first 12 .done) .stop)))) .stop)) .stop) .stop)) (.alt 4 (.first 5 (.alt 0 (.alt 6 (.first 7 (.first 8 (.first 9 (.alt 10 (.alt 11 (.first 12 .done) .stop) .stop)))) (.alt 10 (.alt 6 (.first 7 (.first 8 (.first 9 (.alt 11 (.first 12 .done) .stop)))) .stop) .stop)) (.alt 10 (.alt 0 (.alt 6 (.first 7 (.first 8 (.first 9 (.alt 11 (.first 12 .done) .stop)))) .stop) .stop) .stop))) (.alt 10 (.alt 0 (.alt 4 (.first 5 (.alt 6 (.first 7 (.first 8 (.first 9 (.alt 11 (.first 12 .done) .stop)))) .stop)) .stop) (.alt 4 (.first 5 (.alt 0 (.alt 6 (.first 7 (.first 8 (.first 9 (.alt 11 (.first 12 .done) .stop)))) .stop) .stop)) .stop)) .stop))))))),(15,(.first 0 (.alt 1 (.alt 2 (.alt 3 (.alt 4 (.first 5 .done) .stop) .stop) .stop) (.alt 2 (.alt 1 (.alt 3 (.alt 4 (.first 5 .done) .stop) .stop) (.alt 3 (.alt 1 (.alt 4 (.first 5 .done) .stop) .stop) .stop)) .stop))))] }
theorem Zg1:Zs Tryz.prog ZjE:=by
  refine Zn ?_
  simp only[ZjE,List.forall_mem_cons]
  exact⟨Zty,Zxj,Zo6,Ztc,Ztt,ZqO,Zxk,Zhy,fun p h=>by cases h⟩
theorem Ztw:Zq Tryz.prog 12 ZjR:=by
 refine Zm (C:=ZjE) mixed Ze Zg1 (fn:=Tryz.f12) (c:=bd Tryz.f12) (by kernel_rfl) (by kernel_rfl) (by kernel_rfl) (by kernel_rfl) ?_
 intro args st k he
 unfold ZjR at he
 split at he
 rotate_left
 ·exact he.elim
 rename_i a0_0 a0_1 a1 a2
 have he:Ok (Zeq (a0_0,a0_1) a1 a2) (fun r=>k (.tup [.c (.int .i64 r.1),.c (.own 900 false),.c (.own 901 false)]) [(900,.sl 3 y0_ r.2.1 .shallow),(901,.sl 96 y9_ r.2.2 (.deep true .no))]):=he
 refine⟨rfl,rfl,?_⟩
 refine Zk he fun r1_ he=>?_
 refine ZK he (fun he=>?_) fun he=>?_
 ·refine Zk he fun r2_ he=>?_
  refine ZK he (fun he=>?_) fun he=>?_
  ·refine Zk he fun r3_ he=>?_
   refine Zh he (fun he=>?_) fun he=>?_
   ·have he:=Zb he
    exact⟨rfl,_,_,(Za [] (l:=[(6,.c (.int .i64 (3:Int))),(7,.c (.own 900 false)),(8,.c (.own 901 false))]) (st':=[(900,.sl 3 y0_ ([]:List Int) .shallow),(901,.sl 96 y9_ ([]:List D9_) (.deep true .no))]) rfl rfl ⟨Y1,Y1,Y1⟩ ⟨rfl,⟨rfl,Y1⟩,⟨rfl,Y1⟩,Y1⟩),he⟩
   ·refine Zl mixed Ze Zg1 (S:=(List D6_)×(List Int)) (I:=(fun (i,i1)=>(Zo [(1,.c (.imm y0_ a1)),(2,.c (.int .i64 a2)),(3,.c (.ptr 10000000 0)),(9,.c (.imm y6_ r1_.2)),(11,.c (.own 10000001 true)),(12,.c (.imm y6_ i))],[(10000000,.rc [.imm y0_ (a0_0,a0_1).1,.imm y4_ (a0_0,a0_1).2]),(10000001,.sl 3 y0_ i1 .shallow)]))) (f:=Zbe (a0_0,a0_1) a1 a2 r1_) (K:=(fun r=>k (.tup [.c (.int .i64 r.1),.c (.own 900 false),.c (.own 901 false)]) [(900,.sl 3 y0_ r.2.1 .shallow),(901,.sl 96 y9_ r.2.2 (.deep true .no))])) he ((Zfg [21900]).trans (Za [(10000000,3)] (l:=[(1,.c (.imm y0_ a1)),(2,.c (.int .i64 a2)),(3,.c (.ptr 10000000 0)),(9,.c (.imm y6_ r1_.2)),(11,.c (.own 10000001 true)),(12,.c (.imm y6_ r1_.2))]) (st':=[(10000000,.rc [.imm y0_ (a0_0,a0_1).1,.imm y4_ (a0_0,a0_1).2]),(10000001,.sl 3 y0_ ([]:List Int) .shallow)]) rfl rfl ⟨⟨.inl rfl,.inl rfl,Y1⟩,Y1,Y1⟩ ⟨.inl rfl,rfl,⟨Y2,rfl⟩,.inr (.inr ⟨_,_,_,rfl,rfl⟩),⟨rfl,Y1⟩,.inr (.inr ⟨_,_,_,rfl,rfl⟩),Y1⟩)) ?_
    rintro⟨i,i1⟩ J1 he
    refine Zk he fun r12_ he=>?_
    refine Zh he (fun he=>?_) fun he=>?_
    ·refine Zh he (fun he=>?_) fun he=>?_
     ·have he:=Zb he
      exact⟨rfl,_,_,(Za [(901,41901)] (l:=[(6,.c (.int .i64 (2:Int))),(7,.c (.own 900 false)),(8,.c (.own 901 false))]) (st':=[(900,.sl 3 y0_ ([]:List Int) .shallow),(901,.sl 96 y9_ r12_.2.2 (.deep true .no))]) rfl rfl ⟨Y1,Y2,Y1⟩ ⟨rfl,⟨rfl,Y1⟩,Y3,Y1⟩),he⟩
     ·refine Zh he (fun he=>?_) fun he=>?_
      ·have he:=Zb he
       exact⟨rfl,_,_,(Za [(900,10000001),(901,41901)] (l:=[(6,.c (.int .i64 (1:Int))),(7,.c (.own 900 false)),(8,.c (.own 901 false))]) (st':=[(900,.sl 3 y0_ i1 .shallow),(901,.sl 96 y9_ r12_.2.2 (.deep true .no))]) rfl rfl ⟨Y2,Y2,Y1⟩ ⟨rfl,Y3,Y3,Y1⟩),he⟩
      ·refine Zh he (fun he=>?_) fun he=>?_
       ·have he:=Zb he
        exact⟨rfl,_,_,(Za [(900,10000001)] (l:=[(6,.c (.int .i64 (0:Int))),(7,.c (.own 900 false)),(8,.c (.own 901 false))]) (st':=[(900,.sl 3 y0_ i1 .shallow),(901,.sl 96 y9_ ([]:List D9_) (.deep true .no))]) rfl rfl ⟨Y2,Y1,Y1⟩ ⟨rfl,Y3,⟨rfl,Y1⟩,Y1⟩),he⟩
       ·refine Zk he fun r13_ he=>?_
        refine Zt mixed Ze Zg1 (S:=Int×(List D5_)) (I:=(fun (i_11,i_01)=>(Zo [(1,.c (.imm y0_ a1)),(2,.c (.int .i64 a2)),(3,.c (.ptr 10002000 0)),(9,.c (.imm y6_ r1_.2)),(11,.c (.own 10002001 false)),(16,.c (.ptr 10002002 0))],[(10002000,.rc [.imm y0_ (a0_0,a0_1).1,.imm y4_ (a0_0,a0_1).2]),(10002001,.sl 3 y0_ r13_.2 .shallow),(10002002,.rc [.own 10002003 false,.int .i64 i_11]),(10002003,.sl 155 y5_ i_01 .shallow)]))) (B:=fun s=>Ok (ZnC r1_ r13_ s) (LK J1 (fun r=>k (.tup [.c (.int .i64 r.1),.c (.own 900 false),.c (.own 901 false)]) [(900,.sl 3 y0_ r.2.1 .shallow),(901,.sl 96 y9_ r.2.2 (.deep true .no))]))) ?_ ?_
        ·rintro⟨i_11,i_01⟩ he
         refine And.intro (by kernel_rfl) ?_
         obtain⟨r16_,hq1,he⟩:=Zb1 he
         have he:=ZU he
         have hq2:=he.1
         have he:=he.2
         refine Y5 ?_ ?_
         ·skip
          refine⟨r16_,hq1,?_⟩
          refine Y4 ?_
          refine Y4 ?_
          refine Y4 ?_
          refine And.intro hq2 ?_
          have he:=ZU he
          have hne0:=he.1
          have he:=he.2
          have he:=Zb he
          exact⟨((r16_++[(i_01,i_11)]),r13_.2),he,((Zfg [81]).trans (Za [(10000000,10002000),(10000001,10002001)] (l:=[(1,.c (.imm y0_ a1)),(2,.c (.int .i64 a2)),(3,.c (.ptr 10000000 0)),(9,.c (.imm y6_ r1_.2)),(11,.c (.own 10000001 true)),(12,.c (.imm y6_ (r16_++[(i_01,i_11)])))]) (st':=[(10000000,.rc [.imm y0_ (a0_0,a0_1).1,.imm y4_ (a0_0,a0_1).2]),(10000001,.sl 3 y0_ r13_.2 .shallow)]) rfl rfl ⟨⟨.inl rfl,.inl rfl,Y1⟩,Y2,Y1⟩ ⟨.inl rfl,rfl,⟨Y2,rfl⟩,.inl rfl,⟨Y2,hne0⟩,.inr (.inr ⟨_,_,_,rfl,rfl⟩),Y1⟩))⟩
         ·skip
          refine Y5 ?_ ?_
          ·skip
           refine⟨r16_,hq1,?_⟩
           refine Y4 ?_
           refine Y4 ?_
           refine And.intro hq2 ?_
           have he:=ZU he
           have hne0:=he.1
           have he:=he.2
           have he:=Zb he
           exact⟨((r16_++[(i_01,i_11)]),r13_.2),he,((Zfg [81]).trans (Za [(10000000,10002000),(10000001,10002001)] (l:=[(1,.c (.imm y0_ a1)),(2,.c (.int .i64 a2)),(3,.c (.ptr 10000000 0)),(9,.c (.imm y6_ r1_.2)),(11,.c (.own 10000001 true)),(12,.c (.imm y6_ (r16_++[(i_01,i_11)])))]) (st':=[(10000000,.rc [.imm y0_ (a0_0,a0_1).1,.imm y4_ (a0_0,a0_1).2]),(10000001,.sl 3 y0_ r13_.2 .shallow)]) rfl rfl ⟨⟨.inl rfl,.inl rfl,Y1⟩,Y2,Y1⟩ ⟨.inl rfl,rfl,⟨Y2,rfl⟩,.inl rfl,⟨Y2,hne0⟩,.inr (.inr ⟨_,_,_,rfl,rfl⟩),Y1⟩))⟩
          ·skip
           refine Y4 ?_
           refine⟨r16_,hq1,?_⟩
           refine Y4 ?_
           refine And.intro hq2 ?_
           have he:=ZU he
           have hne0:=he.1
           have he:=he.2
           have he:=Zb he
           exact⟨((r16_++[(i_01,i_11)]),r13_.2),he,((Zfg [81]).trans (Za [(10000000,10002000),(10000001,10002001)] (l:=[(1,.c (.imm y0_ a1)),(2,.c (.int .i64 a2)),(3,.c (.ptr 10000000 0)),(9,.c (.imm y6_ r1_.2)),(11,.c (.own 10000001 true)),(12,.c (.imm y6_ (r16_++[(i_01,i_11)])))]) (st':=[(10000000,.rc [.imm y0_ (a0_0,a0_1).1,.imm y4_ (a0_0,a0_1).2]),(10000001,.sl 3 y0_ r13_.2 .shallow)]) rfl rfl ⟨⟨.inl rfl,.inl rfl,Y1⟩,Y2,Y1⟩ ⟨.inl rfl,rfl,⟨Y2,rfl⟩,.inl rfl,⟨Y2,hne0⟩,.inr (.inr ⟨_,_,_,rfl,rfl⟩),Y1⟩))⟩
        ·skip
         refine And.intro (by kernel_rfl) ?_
         obtain⟨r14_,hq1,he⟩:=Zb1 he
         have he:=ZU he
         have hq2:=he.1
         have he:=he.2
         obtain⟨r15_,hq3,he⟩:=Zb1 he
         refine And.intro ?_ (And.intro ?_ (And.intro ?_ (Y1)))
         ·skip
          refine Y5 ?_ ?_
          ·skip
           refine⟨r14_,hq1,?_⟩
           refine And.intro hq2 ?_
           refine Y5 ?_ ?_
           ·skip
            refine⟨r15_,hq3,?_⟩
            refine Y4 ?_
            refine Y4 ?_
            exact⟨(r15_.2.1,r15_.2.2),he,(Za [(10002000,10000000),(10002001,65900),(10002002,16),(10002003,75901)] rfl rfl ⟨⟨.inl rfl,.inl rfl,Y1⟩,Y2,⟨Y3,rfl,Y1⟩,Y2,Y1⟩ ⟨.inl rfl,rfl,⟨Y2,rfl⟩,.inl rfl,Y3,⟨Y2,rfl⟩,Y1⟩)⟩
           ·skip
            refine Y4 ?_
            refine⟨r15_,hq3,?_⟩
            refine Y4 ?_
            exact⟨(r15_.2.1,r15_.2.2),he,(Za [(10002000,10000000),(10002001,65900),(10002002,16),(10002003,75901)] rfl rfl ⟨⟨.inl rfl,.inl rfl,Y1⟩,Y2,⟨Y3,rfl,Y1⟩,Y2,Y1⟩ ⟨.inl rfl,rfl,⟨Y2,rfl⟩,.inl rfl,Y3,⟨Y2,rfl⟩,Y1⟩)⟩
          ·skip
           refine Y4 ?_
           refine⟨r14_,hq1,?_⟩
           refine And.intro hq2 ?_
           refine Y4 ?_
           refine⟨r15_,hq3,?_⟩
           refine Y4 ?_
           exact⟨(r15_.2.1,r15_.2.2),he,(Za [(10002000,10000000),(10002001,65900),(10002002,16),(10002003,75901)] rfl rfl ⟨⟨.inl rfl,.inl rfl,Y1⟩,Y2,⟨Y3,rfl,Y1⟩,Y2,Y1⟩ ⟨.inl rfl,rfl,⟨Y2,rfl⟩,.inl rfl,Y3,⟨Y2,rfl⟩,Y1⟩)⟩
         ·skip
          refine⟨r14_,hq1,?_⟩
          refine And.intro hq2 ?_
          refine Y5 ?_ ?_
          ·skip
           refine Y5 ?_ ?_
           ·skip
            refine⟨r15_,hq3,?_⟩
            refine Y4 ?_
            refine Y4 ?_
            exact⟨(r15_.2.1,r15_.2.2),he,(Za [(10002000,10000000),(10002001,65900),(10002002,16),(10002003,75901)] rfl rfl ⟨⟨.inl rfl,.inl rfl,Y1⟩,Y2,⟨Y3,rfl,Y1⟩,Y2,Y1⟩ ⟨.inl rfl,rfl,⟨Y2,rfl⟩,.inl rfl,Y3,⟨Y2,rfl⟩,Y1⟩)⟩
           ·skip
            refine Y4 ?_
            refine⟨r15_,hq3,?_⟩
            refine Y4 ?_
            exact⟨(r15_.2.1,r15_.2.2),he,(Za [(10002000,10000000),(10002001,65900),(10002002,16),(10002003,75901)] rfl rfl ⟨⟨.inl rfl,.inl rfl,Y1⟩,Y2,⟨Y3,rfl,Y1⟩,Y2,Y1⟩ ⟨.inl rfl,rfl,⟨Y2,rfl⟩,.inl rfl,Y3,⟨Y2,rfl⟩,Y1⟩)⟩
          ·skip
           refine Y4 ?_
           refine Y4 ?_
           refine⟨r15_,hq3,?_⟩
           refine Y4 ?_
           exact⟨(r15_.2.1,r15_.2.2),he,(Za [(10002000,10000000),(10002001,65900),(10002002,16),(10002003,75901)] rfl rfl ⟨⟨.inl rfl,.inl rfl,Y1⟩,Y2,⟨Y3,rfl,Y1⟩,Y2,Y1⟩ ⟨.inl rfl,rfl,⟨Y2,rfl⟩,.inl rfl,Y3,⟨Y2,rfl⟩,Y1⟩)⟩
         ·skip
          refine Y5 ?_ ?_
          ·skip
           refine Y4 ?_
           refine⟨r14_,hq1,?_⟩
           refine And.intro hq2 ?_
           refine Y4 ?_
           refine⟨r15_,hq3,?_⟩
           refine Y4 ?_
           exact⟨(r15_.2.1,r15_.2.2),he,(Za [(10002000,10000000),(10002001,65900),(10002002,16),(10002003,75901)] rfl rfl ⟨⟨.inl rfl,.inl rfl,Y1⟩,Y2,⟨Y3,rfl,Y1⟩,Y2,Y1⟩ ⟨.inl rfl,rfl,⟨Y2,rfl⟩,.inl rfl,Y3,⟨Y2,rfl⟩,Y1⟩)⟩
          ·skip
           refine⟨r14_,hq1,?_⟩
           refine And.intro hq2 ?_
           refine Y4 ?_
           refine Y4 ?_
           refine⟨r15_,hq3,?_⟩
           refine Y4 ?_
           exact⟨(r15_.2.1,r15_.2.2),he,(Za [(10002000,10000000),(10002001,65900),(10002002,16),(10002003,75901)] rfl rfl ⟨⟨.inl rfl,.inl rfl,Y1⟩,Y2,⟨Y3,rfl,Y1⟩,Y2,Y1⟩ ⟨.inl rfl,rfl,⟨Y2,rfl⟩,.inl rfl,Y3,⟨Y2,rfl⟩,Y1⟩)⟩
    ·refine Zh he (fun he=>?_) fun he=>?_
     ·have he:=Zb he
      exact⟨rfl,_,_,(Za [(900,10000001),(901,41901)] (l:=[(6,.c (.int .i64 (1:Int))),(7,.c (.own 900 false)),(8,.c (.own 901 false))]) (st':=[(900,.sl 3 y0_ i1 .shallow),(901,.sl 96 y9_ r12_.2.2 (.deep true .no))]) rfl rfl ⟨Y2,Y2,Y1⟩ ⟨rfl,Y3,Y3,Y1⟩),he⟩
     ·refine Zh he (fun he=>?_) fun he=>?_
      ·have he:=Zb he
       exact⟨rfl,_,_,(Za [(900,10000001)] (l:=[(6,.c (.int .i64 (0:Int))),(7,.c (.own 900 false)),(8,.c (.own 901 false))]) (st':=[(900,.sl 3 y0_ i1 .shallow),(901,.sl 96 y9_ ([]:List D9_) (.deep true .no))]) rfl rfl ⟨Y2,Y1,Y1⟩ ⟨rfl,Y3,⟨rfl,Y1⟩,Y1⟩),he⟩
      ·refine Zk he fun r17_ he=>?_
       refine Zt mixed Ze Zg1 (S:=Int×(List D5_)) (I:=(fun (i_12,i_02)=>(Zo [(1,.c (.imm y0_ a1)),(2,.c (.int .i64 a2)),(3,.c (.ptr 10003000 0)),(9,.c (.imm y6_ r1_.2)),(11,.c (.own 10003001 false)),(16,.c (.ptr 10003002 0))],[(10003000,.rc [.imm y0_ (a0_0,a0_1).1,.imm y4_ (a0_0,a0_1).2]),(10003001,.sl 3 y0_ r17_.2 .shallow),(10003002,.rc [.own 10003003 false,.int .i64 i_12]),(10003003,.sl 155 y5_ i_02 .shallow)]))) (B:=fun s=>Ok (ZiQ r1_ r17_ s) (LK J1 (fun r=>k (.tup [.c (.int .i64 r.1),.c (.own 900 false),.c (.own 901 false)]) [(900,.sl 3 y0_ r.2.1 .shallow),(901,.sl 96 y9_ r.2.2 (.deep true .no))]))) ?_ ?_
       ·rintro⟨i_12,i_02⟩ he
        refine And.intro (by kernel_rfl) ?_
        obtain⟨r20_,hq1,he⟩:=Zb1 he
        have he:=ZU he
        have hq2:=he.1
        have he:=he.2
        refine Y5 ?_ ?_
        ·skip
         refine⟨r20_,hq1,?_⟩
         refine Y4 ?_
         refine Y4 ?_
         refine Y4 ?_
         refine And.intro hq2 ?_
         have he:=ZU he
         have hne0:=he.1
         have he:=he.2
         have he:=Zb he
         exact⟨((r20_++[(i_02,i_12)]),r17_.2),he,((Zfg [81]).trans (Za [(10000000,10003000),(10000001,10003001)] (l:=[(1,.c (.imm y0_ a1)),(2,.c (.int .i64 a2)),(3,.c (.ptr 10000000 0)),(9,.c (.imm y6_ r1_.2)),(11,.c (.own 10000001 true)),(12,.c (.imm y6_ (r20_++[(i_02,i_12)])))]) (st':=[(10000000,.rc [.imm y0_ (a0_0,a0_1).1,.imm y4_ (a0_0,a0_1).2]),(10000001,.sl 3 y0_ r17_.2 .shallow)]) rfl rfl ⟨⟨.inl rfl,.inl rfl,Y1⟩,Y2,Y1⟩ ⟨.inl rfl,rfl,⟨Y2,rfl⟩,.inl rfl,⟨Y2,hne0⟩,.inr (.inr ⟨_,_,_,rfl,rfl⟩),Y1⟩))⟩
        ·skip
         refine Y5 ?_ ?_
         ·skip
          refine⟨r20_,hq1,?_⟩
          refine Y4 ?_
          refine Y4 ?_
          refine And.intro hq2 ?_
          have he:=ZU he
          have hne0:=he.1
          have he:=he.2
          have he:=Zb he
          exact⟨((r20_++[(i_02,i_12)]),r17_.2),he,((Zfg [81]).trans (Za [(10000000,10003000),(10000001,10003001)] (l:=[(1,.c (.imm y0_ a1)),(2,.c (.int .i64 a2)),(3,.c (.ptr 10000000 0)),(9,.c (.imm y6_ r1_.2)),(11,.c (.own 10000001 true)),(12,.c (.imm y6_ (r20_++[(i_02,i_12)])))]) (st':=[(10000000,.rc [.imm y0_ (a0_0,a0_1).1,.imm y4_ (a0_0,a0_1).2]),(10000001,.sl 3 y0_ r17_.2 .shallow)]) rfl rfl ⟨⟨.inl rfl,.inl rfl,Y1⟩,Y2,Y1⟩ ⟨.inl rfl,rfl,⟨Y2,rfl⟩,.inl rfl,⟨Y2,hne0⟩,.inr (.inr ⟨_,_,_,rfl,rfl⟩),Y1⟩))⟩
         ·skip
          refine Y4 ?_
          refine⟨r20_,hq1,?_⟩
          refine Y4 ?_
          refine And.intro hq2 ?_
          have he:=ZU he
          have hne0:=he.1
          have he:=he.2
          have he:=Zb he
          exact⟨((r20_++[(i_02,i_12)]),r17_.2),he,((Zfg [81]).trans (Za [(10000000,10003000),(10000001,10003001)] (l:=[(1,.c (.imm y0_ a1)),(2,.c (.int .i64 a2)),(3,.c (.ptr 10000000 0)),(9,.c (.imm y6_ r1_.2)),(11,.c (.own 10000001 true)),(12,.c (.imm y6_ (r20_++[(i_02,i_12)])))]) (st':=[(10000000,.rc [.imm y0_ (a0_0,a0_1).1,.imm y4_ (a0_0,a0_1).2]),(10000001,.sl 3 y0_ r17_.2 .shallow)]) rfl rfl ⟨⟨.inl rfl,.inl rfl,Y1⟩,Y2,Y1⟩ ⟨.inl rfl,rfl,⟨Y2,rfl⟩,.inl rfl,⟨Y2,hne0⟩,.inr (.inr ⟨_,_,_,rfl,rfl⟩),Y1⟩))⟩
       ·skip
        refine And.intro (by kernel_rfl) ?_
        obtain⟨r18_,hq1,he⟩:=Zb1 he
        have he:=ZU he
        have hq2:=he.1
        have he:=he.2
        obtain⟨r19_,hq3,he⟩:=Zb1 he
        refine And.intro ?_ (And.intro ?_ (And.intro ?_ (Y1)))
        ·skip
         refine Y5 ?_ ?_
         ·skip
          refine⟨r18_,hq1,?_⟩
          refine And.intro hq2 ?_
          refine Y5 ?_ ?_
          ·skip
           refine⟨r19_,hq3,?_⟩
           refine Y4 ?_
           refine Y4 ?_
           exact⟨(r19_.2.1,r19_.2.2),he,(Za [(10003000,10000000),(10003001,65900),(10003002,16),(10003003,75901)] rfl rfl ⟨⟨.inl rfl,.inl rfl,Y1⟩,Y2,⟨Y3,rfl,Y1⟩,Y2,Y1⟩ ⟨.inl rfl,rfl,⟨Y2,rfl⟩,.inl rfl,Y3,⟨Y2,rfl⟩,Y1⟩)⟩
          ·skip
           refine Y4 ?_
           refine⟨r19_,hq3,?_⟩
           refine Y4 ?_
           exact⟨(r19_.2.1,r19_.2.2),he,(Za [(10003000,10000000),(10003001,65900),(10003002,16),(10003003,75901)] rfl rfl ⟨⟨.inl rfl,.inl rfl,Y1⟩,Y2,⟨Y3,rfl,Y1⟩,Y2,Y1⟩ ⟨.inl rfl,rfl,⟨Y2,rfl⟩,.inl rfl,Y3,⟨Y2,rfl⟩,Y1⟩)⟩
         ·skip
          refine Y4 ?_
          refine⟨r18_,hq1,?_⟩
          refine And.intro hq2 ?_
          refine Y4 ?_
          refine⟨r19_,hq3,?_⟩
          refine Y4 ?_
          exact⟨(r19_.2.1,r19_.2.2),he,(Za [(10003000,10000000),(10003001,65900),(10003002,16),(10003003,75901)] rfl rfl ⟨⟨.inl rfl,.inl rfl,Y1⟩,Y2,⟨Y3,rfl,Y1⟩,Y2,Y1⟩ ⟨.inl rfl,rfl,⟨Y2,rfl⟩,.inl rfl,Y3,⟨Y2,rfl⟩,Y1⟩)⟩
        ·skip
         refine⟨r18_,hq1,?_⟩
         refine And.intro hq2 ?_
         refine Y5 ?_ ?_
         ·skip
          refine Y5 ?_ ?_
          ·skip
           refine⟨r19_,hq3,?_⟩
           refine Y4 ?_
           refine Y4 ?_
           exact⟨(r19_.2.1,r19_.2.2),he,(Za [(10003000,10000000),(10003001,65900),(10003002,16),(10003003,75901)] rfl rfl ⟨⟨.inl rfl,.inl rfl,Y1⟩,Y2,⟨Y3,rfl,Y1⟩,Y2,Y1⟩ ⟨.inl rfl,rfl,⟨Y2,rfl⟩,.inl rfl,Y3,⟨Y2,rfl⟩,Y1⟩)⟩
          ·skip
           refine Y4 ?_
           refine⟨r19_,hq3,?_⟩
           refine Y4 ?_
           exact⟨(r19_.2.1,r19_.2.2),he,(Za [(10003000,10000000),(10003001,65900),(10003002,16),(10003003,75901)] rfl rfl ⟨⟨.inl rfl,.inl rfl,Y1⟩,Y2,⟨Y3,rfl,Y1⟩,Y2,Y1⟩ ⟨.inl rfl,rfl,⟨Y2,rfl⟩,.inl rfl,Y3,⟨Y2,rfl⟩,Y1⟩)⟩
         ·skip
          refine Y4 ?_
          refine Y4 ?_
          refine⟨r19_,hq3,?_⟩
          refine Y4 ?_
          exact⟨(r19_.2.1,r19_.2.2),he,(Za [(10003000,10000000),(10003001,65900),(10003002,16),(10003003,75901)] rfl rfl ⟨⟨.inl rfl,.inl rfl,Y1⟩,Y2,⟨Y3,rfl,Y1⟩,Y2,Y1⟩ ⟨.inl rfl,rfl,⟨Y2,rfl⟩,.inl rfl,Y3,⟨Y2,rfl⟩,Y1⟩)⟩
        ·skip
         refine Y5 ?_ ?_
         ·skip
          refine Y4 ?_
          refine⟨r18_,hq1,?_⟩
          refine And.intro hq2 ?_
          refine Y4 ?_
          refine⟨r19_,hq3,?_⟩
          refine Y4 ?_
          exact⟨(r19_.2.1,r19_.2.2),he,(Za [(10003000,10000000),(10003001,65900),(10003002,16),(10003003,75901)] rfl rfl ⟨⟨.inl rfl,.inl rfl,Y1⟩,Y2,⟨Y3,rfl,Y1⟩,Y2,Y1⟩ ⟨.inl rfl,rfl,⟨Y2,rfl⟩,.inl rfl,Y3,⟨Y2,rfl⟩,Y1⟩)⟩
         ·skip
          refine⟨r18_,hq1,?_⟩
          refine And.intro hq2 ?_
          refine Y4 ?_
          refine Y4 ?_
          refine⟨r19_,hq3,?_⟩
          refine Y4 ?_
          exact⟨(r19_.2.1,r19_.2.2),he,(Za [(10003000,10000000),(10003001,65900),(10003002,16),(10003003,75901)] rfl rfl ⟨⟨.inl rfl,.inl rfl,Y1⟩,Y2,⟨Y3,rfl,Y1⟩,Y2,Y1⟩ ⟨.inl rfl,rfl,⟨Y2,rfl⟩,.inl rfl,Y3,⟨Y2,rfl⟩,Y1⟩)⟩
  ·have he:=Zb he
   exact⟨rfl,_,_,(Za [] (l:=[(6,.c (.int .i64 (3:Int))),(7,.c (.own 900 false)),(8,.c (.own 901 false))]) (st':=[(900,.sl 3 y0_ ([]:List Int) .shallow),(901,.sl 96 y9_ ([]:List D9_) (.deep true .no))]) rfl rfl ⟨Y1,Y1,Y1⟩ ⟨rfl,⟨rfl,Y1⟩,⟨rfl,Y1⟩,Y1⟩),he⟩
 ·have he:=Zb he
  exact⟨rfl,_,_,(Za [] (l:=[(6,.c (.int .i64 (3:Int))),(7,.c (.own 900 false)),(8,.c (.own 901 false))]) (st':=[(900,.sl 3 y0_ ([]:List Int) .shallow),(901,.sl 96 y9_ ([]:List D9_) (.deep true .no))]) rfl rfl ⟨Y1,Y1,Y1⟩ ⟨rfl,⟨rfl,Y1⟩,⟨rfl,Y1⟩,Y1⟩),he⟩
def Zhd:Con:=fun args st=>match args,st with
  |[.c (.imm (.int .i64) a),.c (.imm (.int .i64) b)],[]=>.opt (Bool) (Zdm a b) (fun r=>.ret (.c (.bool r)) [])
  |_,_=>.fail
def Zs1:Cfg:={ y:=tys,n:=26,h:=0,tab:=[],cut:=[],hand:=[],good:=[],deep:=[],sched:=[] }
theorem Ztj:Zs Tryz.prog Zs1:=Zn (fun p h=>by cases h)
theorem Zmm:Zq Tryz.prog 26 Zhd:=by
 refine Zm (C:=Zs1) mixed Ze Ztj (fn:=Tryz.f26) (c:=bd Tryz.f26) (by kernel_rfl) (by kernel_rfl) (by kernel_rfl) (by kernel_rfl) ?_
 intro args st k he
 unfold Zhd at he
 split at he
 rotate_left
 ·exact he.elim
 rename_i a b
 have he:Ok (Zdm a b) (fun r=>k (.c (.bool r)) []):=he
 refine⟨rfl,rfl,?_⟩
 refine Zh he (fun he=>?_) fun he=>?_
 ·have he:=Zb he
  exact⟨rfl,_,_,Leads.refl _ _,he⟩
 ·refine Zl mixed Ze Ztj (S:=Int) (I:=(fun i=>(Zo [(0,.c (.imm y0_ a)),(1,.c (.imm y0_ b)),(5,.c (.int .i64 i))],[]))) (f:=Zlq a b) (K:=(fun r=>k (.c (.bool r)) [])) he (Za [] rfl rfl trivial ⟨.inl rfl,.inl rfl,rfl,Y1⟩) ?_
  rintro i J1 he
  refine Zh he (fun he=>?_) fun he=>?_
  ·refine And.intro (by kernel_rfl) ?_
   refine Zc he fun he=>?_
   refine Zc he fun he=>?_
   refine Zh he (fun he=>?_) fun he=>?_
   ·have he:=Zb he
    exact⟨rfl,_,_,Leads.refl _ _,he⟩
   ·refine Zc he fun he=>?_
    have he:=Zb he
    exact⟨(i+(1:Int)),he,(Za [] rfl rfl trivial ⟨.inl rfl,.inl rfl,rfl,Y1⟩)⟩
  ·have he:=Zb he
   exact⟨rfl,_,_,Leads.refl _ _,he⟩
def Zpv:Con:=fun args st=>match args,st with
  |[.agg [.int .i64 a_0,.int .i64 a_1],.agg [.int .i64 b_0,.int .i64 b_1]],[]=>.opt (Bool) (ZoU (a_0,a_1) (b_0,b_1)) (fun r=>.ret (.c (.bool r)) [])
  |_,_=>.fail
def Zs2:Cfg:={ y:=tys,n:=15,h:=0,tab:=[],cut:=[],hand:=[],good:=[],deep:=[],sched:=[] }
theorem ZyV:Zs Tryz.prog Zs2:=Zn (fun p h=>by cases h)
theorem ZyC:Zq Tryz.prog 218 Zpv:=by
 refine Zm (C:=Zs2) mixed Ze ZyV (fn:=Tryz.f218) (c:=bd Tryz.f218) (by kernel_rfl) (by kernel_rfl) (by kernel_rfl) (by kernel_rfl) ?_
 intro args st k he
 unfold Zpv at he
 split at he
 rotate_left
 ·exact he.elim
 rename_i a_0 a_1 b_0 b_1
 have he:Ok (ZoU (a_0,a_1) (b_0,b_1)) (fun r=>k (.c (.bool r)) []):=he
 refine⟨rfl,rfl,?_⟩
 refine Zh he (fun he=>?_) fun he=>?_
 ·have he:=Zb he
  exact⟨rfl,_,_,(Za [] (l:=[(4,.c (.bool false))]) (st':=[]) rfl rfl trivial ⟨.inr rfl,Y1⟩),he⟩
 ·refine Zh he (fun he=>?_) fun he=>?_
  ·have he:=Zb he
   exact⟨rfl,_,_,(Za [] (l:=[(4,.c (.bool false))]) (st':=[]) rfl rfl trivial ⟨.inr rfl,Y1⟩),he⟩
  ·have he:=Zb he
   exact⟨rfl,_,_,(Za [] (l:=[(4,.c (.bool true))]) (st':=[]) rfl rfl trivial ⟨.inr rfl,Y1⟩),he⟩
def Zov:Con:=fun args st=>match args,st with
  |[.c (.imm (.pair (.int .i64) (.int .i64)) a),.c (.imm (.pair (.int .i64) (.int .i64)) b)],[]=>.opt (Bool) (ZkW a b) (fun r=>.ret (.c (.bool r)) [])
  |_,_=>.fail
def Zod:Cfg:={ y:=tys,n:=27,h:=0,tab:=[(218,Zpv)],cut:=[],hand:=[],good:=[],deep:=[],sched:=[(6,(.first 0 (.first 1 (.first 2 (.first 3 (.first 4 (.first 5 (.first 6 (.first 7 (.alt 8 (.first 9 .done) .stop))))))))))] }
theorem Zr8:Zs Tryz.prog Zod:=by
  refine Zn ?_
  simp only[Zod,List.forall_mem_cons]
  exact⟨ZyC,fun p h=>by cases h⟩
theorem Zxp:Zq Tryz.prog 156 Zov:=by
 refine Zm (C:=Zod) mixed Ze Zr8 (fn:=Tryz.f156) (c:=bd Tryz.f156) (by kernel_rfl) (by kernel_rfl) (by kernel_rfl) (by kernel_rfl) ?_
 intro args st k he
 unfold Zov at he
 split at he
 rotate_left
 ·exact he.elim
 rename_i a b
 have he:Ok (ZkW a b) (fun r=>k (.c (.bool r)) []):=he
 refine⟨rfl,rfl,?_⟩
 refine Zh he (fun he=>?_) fun he=>?_
 ·have he:=Zb he
  exact⟨rfl,_,_,Leads.refl _ _,he⟩
 ·refine Zl mixed Ze Zr8 (S:=Int) (I:=(fun i=>(Zo [(0,.c (.imm y5_ a)),(1,.c (.imm y5_ b)),(5,.c (.int .i64 i))],[]))) (f:=Zkf a b) (K:=(fun r=>k (.c (.bool r)) [])) he (Za [] rfl rfl trivial ⟨.inl rfl,.inl rfl,rfl,Y1⟩) ?_
  rintro i J1 he
  refine Zh he (fun he=>?_) fun he=>?_
  ·refine And.intro (by kernel_rfl) ?_
   refine Zc he fun he=>?_
   refine Zc he fun he=>?_
   refine Y4 ?_
   refine Zk he fun r2_ he=>?_
   refine Zh he (fun he=>?_) fun he=>?_
   ·have he:=Zb he
    exact⟨rfl,_,_,Leads.refl _ _,he⟩
   ·refine Zc he fun he=>?_
    have he:=Zb he
    exact⟨(i+(1:Int)),he,(Za [] rfl rfl trivial ⟨.inl rfl,.inl rfl,rfl,Y1⟩)⟩
  ·have he:=Zb he
   exact⟨rfl,_,_,Leads.refl _ _,he⟩
def ZjU:Con:=fun args st=>match args,st with
  |[.agg [.imm (.pair (.int .i64) (.int .i64)) a_0,.int .i64 a_1],.agg [.imm (.pair (.int .i64) (.int .i64)) b_0,.int .i64 b_1]],[]=>.opt (Bool) (Zh0 (a_0,a_1) (b_0,b_1)) (fun r=>.ret (.c (.bool r)) [])
  |_,_=>.fail
def ZjH:Cfg:={ y:=tys,n:=16,h:=0,tab:=[(156,Zov)],cut:=[],hand:=[],good:=[],deep:=[],sched:=[] }
theorem ZtK:Zs Tryz.prog ZjH:=by
  refine Zn ?_
  simp only[ZjH,List.forall_mem_cons]
  exact⟨Zxp,fun p h=>by cases h⟩
theorem Ztz:Zq Tryz.prog 95 ZjU:=by
 refine Zm (C:=ZjH) mixed Ze ZtK (fn:=Tryz.f95) (c:=bd Tryz.f95) (by kernel_rfl) (by kernel_rfl) (by kernel_rfl) (by kernel_rfl) ?_
 intro args st k he
 unfold ZjU at he
 split at he
 rotate_left
 ·exact he.elim
 rename_i a_0 a_1 b_0 b_1
 have he:Ok (Zh0 (a_0,a_1) (b_0,b_1)) (fun r=>k (.c (.bool r)) []):=he
 refine⟨rfl,rfl,?_⟩
 refine Zk he fun r1_ he=>?_
 refine Zh he (fun he=>?_) fun he=>?_
 ·have he:=Zb he
  exact⟨rfl,_,_,(Za [] (l:=[(4,.c (.bool false))]) (st':=[]) rfl rfl trivial ⟨.inr rfl,Y1⟩),he⟩
 ·refine Zh he (fun he=>?_) fun he=>?_
  ·have he:=Zb he
   exact⟨rfl,_,_,(Za [] (l:=[(4,.c (.bool false))]) (st':=[]) rfl rfl trivial ⟨.inr rfl,Y1⟩),he⟩
  ·have he:=Zb he
   exact⟨rfl,_,_,(Za [] (l:=[(4,.c (.bool true))]) (st':=[]) rfl rfl trivial ⟨.inr rfl,Y1⟩),he⟩
end
end Go.AE.Y
