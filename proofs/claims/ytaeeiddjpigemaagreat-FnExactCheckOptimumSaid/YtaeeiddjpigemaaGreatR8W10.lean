/-
  Walks: each function keeps the contract that its model gives. No conditions.
-/
import Derived.Test.YtaeeiddjpigemaaGreatR8Tab
import Derived.Test.YtaeeiddjpigemaaGreatR8W9
import Derived.Test.YtaeeiddjpigemaaGreatR8S
namespace Go.AE.Y
open Go Go.AE Go.Proofs
set_option linter.unusedVariables false
set_option maxHeartbeats 2000000
set_option maxRecDepth 100000
noncomputable section
def Zoz:Con:=fun
  |[.c (.imm (.pair (.int .i64) (.pair (.int .i64) (.pair (.int .i64) (.pair (.sl (.pair (.int .i64) (.int .i64))) (.int .i64))))) a),.c (.imm (.pair (.int .i64) (.pair (.int .i64) (.pair (.int .i64) (.pair (.sl (.pair (.int .i64) (.int .i64))) (.int .i64))))) b)],[]=>.opt _ (ZnU a b) (fun r=>.ret (.c (.bool r)) [])
  |_,_=>.fail
def ZAL:Cfg:={ y:=tys,n:=27,h:=0,tab:=[(86,Zp7)],sched:=[(6,(Zv [0,1,2,3,4,5,6,7] (.alt 8 (.first 9 .done) .stop)))] }
theorem ZBq:Zl Tryz.prog 27 Zoz:=by
 refine Zn (C:=ZAL) Tryz.f27 (Zj ZDj Zo) fun _ a b k he=>?_
 unfold Zoz at he;split at he;rotate_left;exact he.elim
 rename_i a b
 refine Zq he fun he=>?_
 refine Zf he (fun he=>?_) fun he=>?_
 ·exact Z6
 ·refine Zr (Zko a b) (fun i=>(Zm [(0,.c (.imm y9_ a)),(1,.c (.imm y9_ b)),(5,.c (.int .i64 i))],[])) he (Za []) ?_
  exact Zx6
def Zff:Con:=fun
  |[.agg [.imm (.int .i64) a0_0,.imm (.pair (.int .i64) (.pair (.sl (.int .i64)) (.pair (.sl (.int .i64)) (.pair (.int .i64) (.sl (.sl (.int .i64))))))) a0_1],.c (.imm (.int .i64) a1),.c (.imm (.int .i64) a2),.c (.imm (.pair (.int .i64) (.pair (.int .i64) (.pair (.int .i64) (.pair (.sl (.pair (.int .i64) (.int .i64))) (.int .i64))))) a3)],[]=>.opt _ (Zgf (a0_0,a0_1) a1 a2 a3) (fun r=>.ret (.c (.bool r)) [])
  |_,_=>.fail
def ZhI:Sched:=.alt 3 (.first 4 .done) .stop
def ZhJ:Sched:=.alt 2 ZhI .stop
def Zp4:Cfg:={ y:=tys,n:=77,h:=0,tab:=[(18,ZjR),(19,ZoC),(20,ZoE),(21,Zj2),(22,ZoH),(23,Zg2),(24,ZoJ),(25,Zox),(26,Zg1),(27,Zoz)],cut:=[22],sched:=[(20,(.alt 0 (.alt 1 ZhJ .stop) (.alt 1 (.alt 0 ZhJ (.alt 2 (.alt 0 ZhI .stop) .stop)) .stop)))] }
theorem ZCg {P:Prop} (h:P:=by
  refine Y4 ?_
  refine⟨r16_,hq2,?_⟩
  refine Zf he (fun he=>?_) fun he=>?_
  ·exact Zc2
  ·exact⟨_,he,(Za [(10000000,45900),(10000001,47900),(10000002,49900)])⟩):P:=h
theorem Zqs:Zl Tryz.prog 4 Zff:=by
 refine Zn (C:=Zp4) Tryz.f4 (Zj Zv8 (Zj ZBt (Zj ZBv (Zj Zwj (Zj ZBy (Zj ZmC (Zj ZBA (Zj ZBo (Zj ZmB (Zj ZBq Zo)))))))))) fun _ a b k he=>?_
 unfold Zff at he;split at he;rotate_left;exact he.elim
 rename_i a0_0 a0_1 a1 a2 a3
 refine Zq he fun he=>?_
 refine Zf he (fun he=>?_) fun he=>?_
 ·exact Zc2
 ·refine Zf he (fun he=>?_) fun he=>?_
  ·exact Zc2
  ·refine Zh he fun r1_ he=>?_
   refine Zf he (fun he=>?_) fun he=>?_
   ·exact Zc2
   ·refine Zh he fun r2_ he=>?_
    refine Zf he (fun he=>?_) fun he=>?_
    ·exact Zc2
    ·refine Zh he fun r3_ he=>?_
     refine Zh he fun r4_ he=>?_
     refine Zh he fun r5_ he=>?_
     refine Zh he fun r6_ he=>?_
     refine Zh he fun r7_ he=>?_
     refine Zh he fun r8_ he=>?_
     refine Zh he fun r9_ he=>?_
     refine Zh he fun r10_ he=>?_
     refine Zh he fun r11_ he=>?_
     refine Zh he fun r12_ he=>?_
     refine Zf he (fun he=>?_) fun he=>?_
     ·exact Zc2
     ·refine ZT (ZeQ a1 a2 a3 r9_ r10_ r11_) (fun _=>(Zm [(1,.c (.imm y0_ a1)),(2,.c (.imm y0_ a2)),(3,.c (.imm y9_ a3)),(12,.c (.own 10000000 false)),(13,.c (.own 10000001 false)),(14,.c (.own 10000002 false))],[(10000000,.sl 3 y0_ r9_ .shallow),(10000001,.sl 3 y0_ r10_ .shallow),(10000002,.sl 96 y9_ r11_ (.deep true .no))])) he ?_ ?_
      ·rintro⟨⟩ he
       refine Zh he fun r17_ he=>?_
       refine Zh he fun r18_ he=>?_
       refine Zf he (fun he=>?_) fun he=>?_
       ·exact Zc2
       ·refine Zh he fun r19_ he=>?_
        refine Zh he fun r20_ he=>?_
        refine Zf he (fun he=>?_) fun he=>?_
        ·exact Zc2
        ·refine Zh he fun r21_ he=>?_
         refine Zh he fun r22_ he=>?_
         refine Zf he (fun he=>?_) fun he=>?_
         ·exact Zc2
         ·exact Zc2
      ·skip
       refine And.intro (by kernel_rfl) ?_
       obtain⟨r15_,hq1,he⟩:=Z5 he
       obtain⟨r16_,hq2,he⟩:=Z5 he
       refine Y5 ?_ ?_
       ·skip
        refine Y4 ?_
        refine Y4 ?_
        refine⟨r15_,hq1,?_⟩
        exact ZCg
       ·skip
        refine Y5 ?_ ?_
        ·skip
         refine Y4 ?_
         refine⟨r15_,hq1,?_⟩
         exact ZCg
        ·skip
         refine⟨r15_,hq1,?_⟩
         refine Y4 ?_
         exact ZCg
end
end Go.AE.Y
