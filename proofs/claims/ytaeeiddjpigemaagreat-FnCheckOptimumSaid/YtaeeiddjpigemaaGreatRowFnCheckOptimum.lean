/-
  FnCheckOptimum returns true for every input, and its arguments read behind the call as they did before. No conditions.
-/
import Derived.Test.YtaeeiddjpigemaaGreatR8W9
import Derived.Test.YtaeeiddjpigemaaGreatPx4
import Derived.Test.YtaeeiddjpigemaaGreatAEx3
import Derived.Test.YtaeeiddjpigemaaGreatR8H
import Derived.Test.YtaeeiddjpigemaaGreatRows
import Derived.WalkKit
import Derived.ProofKit
import Derived.OpenShut
namespace Go.Proofs.YtaeeiddjpigemaaGreat
open Go.ChangeShapes Go.WideShapes Go.ChangeAt Go.RowKit Go.AE Go.AE.Y
theorem ZPC:joinedFacts Tryz.checked.prog 5 Tryz.f5 Rows.fnCheckOptimumSpec Rows.fnCheckOptimumRow=true:=by
  rw[ZMc]
  unfold joinedFacts
  rw[ZQi,ZQj,ZQk]
  kernel_rfl
theorem ZP2:Zqz Tryz.prog (.sl (.int .u8)) 22:=⟨5,Tryz.underlying22,by kernel_rfl,Tryz.underlying5,rfl⟩
theorem ZQX (l:List (Sigma Ty.den)) (h:l.map (·.1)=[(.sl (.int .u8))]) (hk:∀p∈l,Go.AE.okD p.1 p.2):Zby (ZkB (l.map avS) []) (fun av _=>av = .c (.bool true)):=by
  match l,h with
  |[⟨t0,d0⟩],h=>
    simp only[List.map_cons,List.map_nil,List.cons.injEq,and_true]at h
    obtain rfl:=h
    have hk0:=hk ⟨_,d0⟩ (by simp)
    exact⟨true,ZAK (fun x hx=>hk0.2 x hx),rfl⟩
set_option maxRecDepth 100000 in
theorem ZPF (os:Os) (started:os.Started) (H:Type) (enc:TypeId×Value→H) :
    ReturnsInHanded {} Tryz.checked os 5 .any (Rows.fnCheckOptimumSpec.pre6 enc Tryz.prog Tryz.f5 Rows.fnCheckOptimumRow.domain false) (Rows.fnCheckOptimumSpec.post enc Tryz.prog Tryz.f5 false true false false):=by
  refine returnsInHanded_of_change (C:=Tryz.checked) own started (by kernel_rfl) Tryz.func5
    (ChangeSpec.witness6 (enc:=enc) (C:=Tryz.checked) false ⟨#[],#[.slice none 0 0],[]⟩ 8 (by kernel_rfl) (by kernel_rfl) (by kernel_rfl) (by kernel_rfl)) ?_
  intro W base args ds gs before hval0 hW hcnd _
  have hval:∀(j:Nat) t v,Tryz.f5.params[j]? = some t→args[j]? = some v→Value.okWide Tryz.prog W .any base t v:=hval0
  have hW':=hW
  obtain⟨p,q,hA0,hV,e,hfz,hnd⟩:=hW
  have hA:DataW.TrodAll enc Tryz.prog W 0 (fun _=>true) true Tryz.f5.params.toList args.toList ds p:=hA0
  refine(ZNv (ids:=Tryz.f5.params.toList) Zxz ZQX (by rw[Tryz.params5];exact⟨ZP2,trivial⟩) (fun j t v a b=>hval j t v (by simpa using a) b) hA).mono ?_
  rintro e W' ⟨rfl,hb⟩
  refine⟨_,rfl,ZO2 (tb:=4) laid (by kernel_rfl) rfl (by kernel_rfl) Tryz.underlying4 (fun ds hd=>?_) hW' hb⟩
  have hd:ds.length=1:=hd
  match ds,hd with
  |[d0],_=>rfl
theorem holds5:Rows.FnCheckOptimumSaid:=
  OpenClaim.holds_of_wide 5 Tryz.f5 rfl rfl rfl rfl rfl rfl rfl ⟨rfl,rfl,rfl,rfl,rfl⟩ rfl rfl rfl rfl rfl (by kernel_rfl) Tryz.func5 ZPC
    (of_decide_eq_true (by kernel_rfl)) (by unfold Func.isWrapper;first|(rw[if_pos (by decide +kernel)];kernel_rfl)|(rw[if_neg (by decide +kernel)];exact⟨rfl,rfl⟩))
    (fun os started H enc _=>ZPF os started H enc)
#print axioms holds5
end Go.Proofs.YtaeeiddjpigemaaGreat
