/-
  FnExactCheckOptimum returns true for every input, and its arguments read behind the call as they did before. No conditions.
-/
import Derived.Test.YtaeeiddjpigemaaGreatR8W10
import Derived.Test.YtaeeiddjpigemaaGreatPx3
import Derived.Test.YtaeeiddjpigemaaGreatAEx3
import Derived.Test.YtaeeiddjpigemaaGreatR8H
import Derived.Test.YtaeeiddjpigemaaGreatRows
import Derived.WalkKit
import Derived.ProofKit
import Derived.OpenShut
namespace Go.Proofs.YtaeeiddjpigemaaGreat
open Go.ChangeShapes Go.WideShapes Go.ChangeAt Go.RowKit Go.AE Go.AE.Y
theorem ZKX:joinedFacts Tryz.checked.prog 4 Tryz.f4 Rows.fnExactCheckOptimumSpec Rows.fnExactCheckOptimumRow=true:=by
  rw[ZHO]
  unfold joinedFacts
  rw[ZLG,ZLH,ZLI]
  kernel_rfl
theorem ZIH:ZlS Tryz.prog (.sl (.int .i64)) 23:=⟨3,Tryz.underlying23,by kernel_rfl,Tryz.underlying3,rfl⟩
theorem ZLr:ZlS Tryz.prog (.pair (.sl (.int .i64)) (.sl (.pair (.int .i64) (.pair (.sl (.int .i64)) (.pair (.sl (.int .i64)) (.pair (.int .i64) (.sl (.sl (.int .i64))))))))) 42:=⟨_,Tryz.underlying42,by kernel_rfl,_,_,rfl,by kernel_rfl,by kernel_rfl,⟨3,Tryz.underlying23,by kernel_rfl,Tryz.underlying3,rfl⟩,⟨_,rfl,by kernel_rfl,by kernel_rfl,171,Tryz.underlying40,by kernel_rfl,_,Tryz.underlying171,by kernel_rfl,_,_,rfl,by kernel_rfl,by kernel_rfl,⟨Tryz.underlying3,rfl⟩,.inl ⟨_,_,rfl,by kernel_rfl,by kernel_rfl,⟨3,Tryz.underlying23,by kernel_rfl,Tryz.underlying3,rfl⟩,.inl ⟨_,_,rfl,by kernel_rfl,by kernel_rfl,⟨3,Tryz.underlying23,by kernel_rfl,Tryz.underlying3,rfl⟩,.inl ⟨_,_,rfl,by kernel_rfl,by kernel_rfl,⟨Tryz.underlying3,rfl⟩,⟨_,rfl,by kernel_rfl,by kernel_rfl,23,Tryz.underlying143,by kernel_rfl,3,Tryz.underlying23,by kernel_rfl,Tryz.underlying3,rfl⟩⟩⟩⟩⟩⟩
theorem ZLs:ZlS Tryz.prog (.sl (.pair (.int .i64) (.pair (.int .i64) (.pair (.int .i64) (.pair (.sl (.pair (.int .i64) (.int .i64))) (.int .i64)))))) 43:=⟨108,Tryz.underlying43,by kernel_rfl,_,Tryz.underlying108,by kernel_rfl,_,_,rfl,by kernel_rfl,by kernel_rfl,⟨Tryz.underlying3,rfl⟩,.inl ⟨_,_,rfl,by kernel_rfl,by kernel_rfl,⟨Tryz.underlying3,rfl⟩,.inl ⟨_,_,rfl,by kernel_rfl,by kernel_rfl,⟨Tryz.underlying3,rfl⟩,.inr ⟨_,rfl,by kernel_rfl,by kernel_rfl,_,Tryz.underlying106,by kernel_rfl,_,_,rfl,by kernel_rfl,by kernel_rfl,⟨218,Tryz.underlying104,by kernel_rfl,_,Tryz.underlying218,by kernel_rfl,_,_,rfl,by kernel_rfl,by kernel_rfl,⟨Tryz.underlying3,rfl⟩,⟨_,rfl,by kernel_rfl,by kernel_rfl,Tryz.underlying3,rfl⟩⟩,⟨_,rfl,by kernel_rfl,by kernel_rfl,Tryz.underlying3,rfl⟩⟩⟩⟩⟩
theorem ZMl (l:List (Sigma Ty.den)) (h:l.map (·.1)=[(.pair (.sl (.int .i64)) (.sl (.pair (.int .i64) (.pair (.sl (.int .i64)) (.pair (.sl (.int .i64)) (.pair (.int .i64) (.sl (.sl (.int .i64))))))))),(.sl (.int .i64)),(.sl (.int .i64)),(.sl (.pair (.int .i64) (.pair (.int .i64) (.pair (.int .i64) (.pair (.sl (.pair (.int .i64) (.int .i64))) (.int .i64))))))]) (hk:∀p∈l,Go.AE.okD p.1 p.2):Zbj (Zff (l.map avS) []) (fun av _=>av = .c (.bool true)):=by
  match l,h with
  |[⟨t0,d0⟩,⟨t1,d1⟩,⟨t2,d2⟩,⟨t3,d3⟩],h=>
    simp only[List.map_cons,List.map_nil,List.cons.injEq,and_true]at h
    obtain⟨rfl,rfl,rfl,rfl⟩:=h
    have hk0:=hk ⟨_,d0⟩ (by simp)
    have hk1:=hk ⟨_,d1⟩ (by simp)
    have hk2:=hk ⟨_,d2⟩ (by simp)
    have hk3:=hk ⟨_,d3⟩ (by simp)
    exact⟨true,ZsK d0 d1 d2 d3 hk0 hk3,rfl⟩
set_option maxRecDepth 100000 in
theorem ZK0 (os:Os) (started:os.Started) (H:Type) (enc:TypeId×Value→H) :
    ReturnsInHanded {} Tryz.checked os 4 .any (Rows.fnExactCheckOptimumSpec.pre6 enc Tryz.prog Tryz.f4 Rows.fnExactCheckOptimumRow.domain false) (Rows.fnExactCheckOptimumSpec.post enc Tryz.prog Tryz.f4 false true false false):=by
  refine returnsInHanded_of_change (C:=Tryz.checked) own started (by kernel_rfl) Tryz.func4
    (ChangeSpec.witness6 (enc:=enc) (C:=Tryz.checked) false ⟨#[],#[.agg #[.slice none 0 0,.slice none 0 0],.slice none 0 0,.slice none 0 0,.slice none 0 0],[]⟩ 8 (by kernel_rfl) (by kernel_rfl) (by kernel_rfl) (by kernel_rfl)) ?_
  intro W base args ds gs before hval0 hW hcnd _
  have hval:∀(j:Nat) t v,Tryz.f4.params[j]? = some t→args[j]? = some v→Value.okWide Tryz.prog W .any base t v:=hval0
  have hW':=hW
  obtain⟨p,q,hA0,hV,e,hfz,hnd⟩:=hW
  have hA:DataW.TrodAll enc Tryz.prog W 0 (fun _=>true) true Tryz.f4.params.toList args.toList ds p:=hA0
  refine(ZI3 (ids:=Tryz.f4.params.toList) Zqs ZMl (by rw[Tryz.params4];exact⟨ZLr,ZIH,ZIH,ZLs,trivial⟩) (fun j t v a b=>hval j t v (by simpa using a) b) hA).mono ?_
  rintro e W' ⟨rfl,hb⟩
  refine⟨_,rfl,ZKu (tb:=4) laid (by kernel_rfl) rfl (by kernel_rfl) Tryz.underlying4 (fun ds hd=>?_) hW' hb⟩
  have hd:ds.length=4:=hd
  match ds,hd with
  |[d0,d1,d2,d3],_=>rfl
theorem holds4:Rows.FnExactCheckOptimumSaid:=
  OpenClaim.holds_of_wide 4 Tryz.f4 rfl rfl rfl rfl rfl rfl rfl ⟨rfl,rfl,rfl,rfl,rfl⟩ rfl rfl rfl rfl rfl (by kernel_rfl) Tryz.func4 ZKX
    (of_decide_eq_true (by kernel_rfl)) (by unfold Func.isWrapper;first|(rw[if_pos (by decide +kernel)];kernel_rfl)|(rw[if_neg (by decide +kernel)];exact⟨rfl,rfl⟩))
    (fun os started H enc _=>ZK0 os started H enc)
#print axioms holds4
end Go.Proofs.YtaeeiddjpigemaaGreat
