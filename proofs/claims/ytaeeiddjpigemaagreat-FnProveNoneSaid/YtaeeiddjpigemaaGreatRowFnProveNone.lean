/-
  FnProveNone returns true for every input, and its arguments read behind the call as they did before. No conditions.
-/
import Derived.Test.YtaeeiddjpigemaaGreatR8W8
import Derived.Test.YtaeeiddjpigemaaGreatPx3
import Derived.Test.YtaeeiddjpigemaaGreatAEx3
import Derived.Test.YtaeeiddjpigemaaGreatR8H
import Derived.Test.YtaeeiddjpigemaaGreatRows
import Derived.WalkKit
import Derived.ProofKit
import Derived.OpenShut
namespace Go.Proofs.YtaeeiddjpigemaaGreat
open Go.ChangeShapes Go.WideShapes Go.ChangeAt Go.RowKit Go.AE Go.AE.Y
theorem ZK2:joinedFacts Tryz.checked.prog 10 Tryz.f10 Rows.fnProveNoneSpec Rows.fnProveNoneRow=true:=by
  rw[ZIi]
  unfold joinedFacts
  rw[ZMC,ZMD,ZME]
  kernel_rfl
theorem ZMj:ZoT Tryz.prog (.sl (.int .u8)) 22:=⟨5,Tryz.underlying22,by kernel_rfl,Tryz.underlying5,rfl⟩
theorem ZMM (l:List (Sigma Ty.den)) (h:l.map (·.1)=[(.sl (.int .u8))]) (hk:∀p∈l,Go.AE.okD p.1 p.2):ZbA (Zl6 (l.map avS) []) (fun av _=>av = .c (.bool true)):=by
  match l,h with
  |[⟨t0,d0⟩],h=>
    simp only[List.map_cons,List.map_nil,List.cons.injEq,and_true]at h
    obtain rfl:=h
    have hk0:=hk ⟨_,d0⟩ (by simp)
    exact⟨true,ZAO (fun x hx=>hk0.2 x hx),rfl⟩
set_option maxRecDepth 100000 in
theorem ZK4 (os:Os) (started:os.Started) (H:Type) (enc:TypeId×Value→H) :
    ReturnsInHanded {} Tryz.checked os 10 .any (Rows.fnProveNoneSpec.pre6 enc Tryz.prog Tryz.f10 Rows.fnProveNoneRow.domain false) (Rows.fnProveNoneSpec.post enc Tryz.prog Tryz.f10 false true false false):=by
  refine returnsInHanded_of_change (C:=Tryz.checked) own started (by kernel_rfl) Tryz.func10
    (ChangeSpec.witness6 (enc:=enc) (C:=Tryz.checked) false ⟨#[],#[.slice none 0 0],[]⟩ 8 (by kernel_rfl) (by kernel_rfl) (by kernel_rfl) (by kernel_rfl)) ?_
  intro W base args ds gs before hval0 hW hcnd _
  have hval:∀(j:Nat) t v,Tryz.f10.params[j]? = some t→args[j]? = some v→Value.okWide Tryz.prog W .any base t v:=hval0
  have hW':=hW
  obtain⟨p,q,hA0,hV,e,hfz,hnd⟩:=hW
  have hA:DataW.TrodAll enc Tryz.prog W 0 (fun _=>true) true Tryz.f10.params.toList args.toList ds p:=hA0
  refine(ZJB (ids:=Tryz.f10.params.toList) Zxw ZMM (by rw[Tryz.params10];exact⟨ZMj,trivial⟩) (fun j t v a b=>hval j t v (by simpa using a) b) hA).mono ?_
  rintro e W' ⟨rfl,hb⟩
  refine⟨_,rfl,ZLg (tb:=4) laid (by kernel_rfl) rfl (by kernel_rfl) Tryz.underlying4 (fun ds hd=>?_) hW' hb⟩
  have hd:ds.length=1:=hd
  match ds,hd with
  |[d0],_=>rfl
theorem holds10:Rows.FnProveNoneSaid:=
  OpenClaim.holds_of_wide 10 Tryz.f10 rfl rfl rfl rfl rfl rfl rfl ⟨rfl,rfl,rfl,rfl,rfl⟩ rfl rfl rfl rfl rfl (by kernel_rfl) Tryz.func10 ZK2
    (of_decide_eq_true (by kernel_rfl)) (by unfold Func.isWrapper;first|(rw[if_pos (by decide +kernel)];kernel_rfl)|(rw[if_neg (by decide +kernel)];exact⟨rfl,rfl⟩))
    (fun os started H enc _=>ZK4 os started H enc)
#print axioms holds10
end Go.Proofs.YtaeeiddjpigemaaGreat
