/-
  FnExactProveOptimum returns true for every input, and its arguments read behind the call as they did before. No conditions.
-/
import Derived.Test.YtaeeiddjpigemaaGreatR8W7
import Derived.Test.YtaeeiddjpigemaaGreatPx3
import Derived.Test.YtaeeiddjpigemaaGreatAEx3
import Derived.Test.YtaeeiddjpigemaaGreatR8H
import Derived.Test.YtaeeiddjpigemaaGreatRows
import Derived.WalkKit
import Derived.ProofKit
import Derived.OpenShut
namespace Go.Proofs.YtaeeiddjpigemaaGreat
open Go.ChangeShapes Go.WideShapes Go.ChangeAt Go.RowKit Go.AE Go.AE.Y
theorem ZEh:joinedFacts Tryz.checked.prog 9 Tryz.f9 Rows.fnExactProveOptimumSpec Rows.fnExactProveOptimumRow=true:=by
  rw[ZBQ]
  unfold joinedFacts
  rw[ZES,ZET,ZEU]
  kernel_rfl
theorem ZE3:ZlK Tryz.prog (.int .i64) 3:=⟨Tryz.underlying3,rfl⟩
theorem ZEG:ZlK Tryz.prog (.sl (.int .i64)) 23:=⟨3,Tryz.underlying23,by kernel_rfl,Tryz.underlying3,rfl⟩
theorem ZEH:ZlK Tryz.prog (.pair (.sl (.int .i64)) (.sl (.pair (.int .i64) (.pair (.sl (.int .i64)) (.pair (.sl (.int .i64)) (.pair (.int .i64) (.sl (.sl (.int .i64))))))))) 42:=⟨_,Tryz.underlying42,by kernel_rfl,_,_,rfl,by kernel_rfl,by kernel_rfl,⟨3,Tryz.underlying23,by kernel_rfl,Tryz.underlying3,rfl⟩,⟨_,rfl,by kernel_rfl,by kernel_rfl,171,Tryz.underlying40,by kernel_rfl,_,Tryz.underlying171,by kernel_rfl,_,_,rfl,by kernel_rfl,by kernel_rfl,⟨Tryz.underlying3,rfl⟩,.inl ⟨_,_,rfl,by kernel_rfl,by kernel_rfl,⟨3,Tryz.underlying23,by kernel_rfl,Tryz.underlying3,rfl⟩,.inl ⟨_,_,rfl,by kernel_rfl,by kernel_rfl,⟨3,Tryz.underlying23,by kernel_rfl,Tryz.underlying3,rfl⟩,.inl ⟨_,_,rfl,by kernel_rfl,by kernel_rfl,⟨Tryz.underlying3,rfl⟩,⟨_,rfl,by kernel_rfl,by kernel_rfl,23,Tryz.underlying143,by kernel_rfl,3,Tryz.underlying23,by kernel_rfl,Tryz.underlying3,rfl⟩⟩⟩⟩⟩⟩
theorem ZFt (l:List (Sigma Ty.den)) (h:l.map (·.1)=[(.pair (.sl (.int .i64)) (.sl (.pair (.int .i64) (.pair (.sl (.int .i64)) (.pair (.sl (.int .i64)) (.pair (.int .i64) (.sl (.sl (.int .i64))))))))),(.sl (.int .i64)),(.int .i64)]) (hk:∀p∈l,Go.AE.okD p.1 p.2):Zbg (Zfy (l.map avS) []) (fun av _=>av = .c (.bool true)):=by
  match l,h with
  |[⟨t0,d0⟩,⟨t1,d1⟩,⟨t2,d2⟩],h=>
    simp only[List.map_cons,List.map_nil,List.cons.injEq,and_true]at h
    obtain⟨rfl,rfl,rfl⟩:=h
    have hk0:=hk ⟨_,d0⟩ (by simp)
    have hk1:=hk ⟨_,d1⟩ (by simp)
    have hk2:=hk ⟨_,d2⟩ (by simp)
    exact⟨true,ZqR d0 d1 d2 hk0,rfl⟩
set_option maxRecDepth 100000 in
theorem ZEk (os:Os) (started:os.Started) (H:Type) (enc:TypeId×Value→H) :
    ReturnsInHanded {} Tryz.checked os 9 .any (Rows.fnExactProveOptimumSpec.pre6 enc Tryz.prog Tryz.f9 Rows.fnExactProveOptimumRow.domain false) (Rows.fnExactProveOptimumSpec.post enc Tryz.prog Tryz.f9 false true false false):=by
  refine returnsInHanded_of_change (C:=Tryz.checked) own started (by kernel_rfl) Tryz.func9
    (ChangeSpec.witness6 (enc:=enc) (C:=Tryz.checked) false ⟨#[],#[.agg #[.slice none 0 0,.slice none 0 0],.slice none 0 0,.int .i64 0],[]⟩ 8 (by kernel_rfl) (by kernel_rfl) (by kernel_rfl) (by kernel_rfl)) ?_
  intro W base args ds gs before hval0 hW hcnd _
  have hval:∀(j:Nat) t v,Tryz.f9.params[j]? = some t→args[j]? = some v→Value.okWide Tryz.prog W .any base t v:=hval0
  have hW':=hW
  obtain⟨p,q,hA0,hV,e,hfz,hnd⟩:=hW
  have hA:DataW.TrodAll enc Tryz.prog W 0 (fun _=>true) true Tryz.f9.params.toList args.toList ds p:=hA0
  refine(ZC0 (ids:=Tryz.f9.params.toList) ZpI ZFt (by rw[Tryz.params9];exact⟨ZEH,ZEG,ZE3,trivial⟩) (fun j t v a b=>hval j t v (by simpa using a) b) hA).mono ?_
  rintro e W' ⟨rfl,hb⟩
  refine⟨_,rfl,ZDN (tb:=4) laid (by kernel_rfl) rfl (by kernel_rfl) Tryz.underlying4 (fun ds hd=>?_) hW' hb⟩
  have hd:ds.length=3:=hd
  match ds,hd with
  |[d0,d1,d2],_=>rfl
theorem holds9:Rows.FnExactProveOptimumSaid:=
  OpenClaim.holds_of_wide 9 Tryz.f9 rfl rfl rfl rfl rfl rfl rfl ⟨rfl,rfl,rfl,rfl,rfl⟩ rfl rfl rfl rfl rfl (by kernel_rfl) Tryz.func9 ZEh
    (of_decide_eq_true (by kernel_rfl)) (by unfold Func.isWrapper;first|(rw[if_pos (by decide +kernel)];kernel_rfl)|(rw[if_neg (by decide +kernel)];exact⟨rfl,rfl⟩))
    (fun os started H enc _=>ZEk os started H enc)
#print axioms holds9
end Go.Proofs.YtaeeiddjpigemaaGreat
