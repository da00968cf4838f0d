/-
  Models of the functions: what each computes, as a Lean function into Option. Definitions alone.
-/
import Derived.Test.YtaeeiddjpigemaaGreatAEx3
namespace Go.AE.Y
open Go Go.AE
set_option linter.unusedVariables false
noncomputable section
abbrev y0_:Ty:=(.int .i64)
abbrev y1_:Ty:=(.pair y0_ (.sl (.sl y0_)))
abbrev D1_:Type:=Int×(List (List Int))
abbrev y2_:Ty:=(.pair (.sl y0_) y1_)
abbrev D2_:Type:=(List Int)×Int×(List (List Int))
abbrev y3_:Ty:=(.pair (.sl y0_) y2_)
abbrev D3_:Type:=(List Int)×(List Int)×Int×(List (List Int))
abbrev y4_:Ty:=(.pair y0_ y3_)
abbrev D4_:Type:=Int×(List Int)×(List Int)×Int×(List (List Int))
abbrev y5_:Ty:=(.pair y0_ y0_)
abbrev D5_:Type:=Int×Int
abbrev y6_:Ty:=(.pair (.sl y5_) y0_)
abbrev D6_:Type:=(List (Int×Int))×Int
abbrev y7_:Ty:=(.pair y0_ y6_)
abbrev D7_:Type:=Int×(List (Int×Int))×Int
abbrev y8_:Ty:=(.pair y0_ y7_)
abbrev D8_:Type:=Int×Int×(List (Int×Int))×Int
abbrev y9_:Ty:=(.pair y0_ y8_)
abbrev D9_:Type:=Int×Int×Int×(List (Int×Int))×Int
/-- laws.szIntS -/
def ZhC (a:List Int) (left:Int):Option Int:=
 rq (i64 (left - (a.length:Int))) <|
 cond (decide ((left - (a.length:Int))<(0:Int))) (
  some (-1:Int)) (
  some (left - (a.length:Int)))
/-- laws.szIntSS -/
def ZnX (a:List (List Int)):Int×Int→Option ((Int×Int)⊕Int):=fun (left1,i)=>
 cond (decide (i<(a.length:Int))) (
  rq (0≤i∧i<a.length) <|
  (ZhC (a.getD i.toNat []) left1).bind fun r1_=>
  cond (decide (r1_<(0:Int))) (
   some (.inr (-1:Int))) (
   rq (i64 (i+(1:Int))) <|
   some (.inl (r1_,(i+(1:Int)))))) (
  some (.inr left1))
def ZnW (a:List (List Int)) (left:Int):Option Int:=
 rq (i64 (left - (a.length:Int))) <|
 cond (decide ((left - (a.length:Int))<(0:Int))) (
  some (-1:Int)) (
  loop (ZnX a) ((left - (a.length:Int)),(0:Int)))
/-- laws.szRule -/
def Zo6 (a:Int×(List Int)×(List Int)×Int×(List (List Int))) (left:Int):Option Int:=
 (ZhC a.2.1 left).bind fun r1_=>
 cond (decide (r1_<(0:Int))) (
  some (-1:Int)) (
  (ZhC a.2.2.1 r1_).bind fun r2_=>
  cond (decide (r2_<(0:Int))) (
   some (-1:Int)) (
   (ZnW a.2.2.2.2 r2_).bind fun r3_=>
   cond (decide (r3_<(0:Int))) (
    some (-1:Int)) (
    some r3_)))
/-- laws.szRuleS -/
def Zn0 (a:List D4_):Int×Int→Option ((Int×Int)⊕Int):=fun (left1,i)=>
 cond (decide (i<(a.length:Int))) (
  rq (0≤i∧i<a.length) <|
  (Zo6 (a.getD i.toNat (0,([],([],(0,[]))))) left1).bind fun r1_=>
  cond (decide (r1_<(0:Int))) (
   some (.inr (-1:Int))) (
   rq (i64 (i+(1:Int))) <|
   some (.inl (r1_,(i+(1:Int)))))) (
  some (.inr left1))
def ZnZ (a:List D4_) (left:Int):Option Int:=
 rq (i64 (left - (a.length:Int))) <|
 cond (decide ((left - (a.length:Int))<(0:Int))) (
  some (-1:Int)) (
  loop (Zn0 a) ((left - (a.length:Int)),(0:Int)))
/-- laws.szModel -/
def ZnY (a:(List Int)×(List D4_)) (left:Int):Option Int:=
 (ZhC a.1 left).bind fun r1_=>
 cond (decide (r1_<(0:Int))) (
  some (-1:Int)) (
  (ZnZ a.2 r1_).bind fun r2_=>
  cond (decide (r2_<(0:Int))) (
   some (-1:Int)) (
   some r2_))
/-- laws.szTermS -/
def Zn2 (a:List D5_) (left:Int):Option Int:=
 rq (i64 (left - (a.length:Int))) <|
 cond (decide ((left - (a.length:Int))<(0:Int))) (
  some (-1:Int)) (
  some (left - (a.length:Int)))
/-- laws.szConstraint -/
def Zl4 (a:(List D5_)×Int) (left:Int):Option Int:=
 (Zn2 a.1 left).bind fun r1_=>
 cond (decide (r1_<(0:Int))) (
  some (-1:Int)) (
  some r1_)
/-- laws.szStep -/
def Zo7 (a:Int×Int×Int×(List D5_)×Int) (left:Int):Option Int:=
 (Zl4 a.2.2.2 left).bind fun r1_=>
 cond (decide (r1_<(0:Int))) (
  some (-1:Int)) (
  some r1_)
/-- laws.szStepS -/
def Zkq (a:List D9_):Int×Int→Option ((Int×Int)⊕Int):=fun (left1,i)=>
 cond (decide (i<(a.length:Int))) (
  rq (0≤i∧i<a.length) <|
  (Zo7 (a.getD i.toNat (0,(0,(0,([],0))))) left1).bind fun r1_=>
  cond (decide (r1_<(0:Int))) (
   some (.inr (-1:Int))) (
   rq (i64 (i+(1:Int))) <|
   some (.inl (r1_,(i+(1:Int)))))) (
  some (.inr left1))
def Zn1 (a:List D9_) (left:Int):Option Int:=
 rq (i64 (left - (a.length:Int))) <|
 cond (decide ((left - (a.length:Int))<(0:Int))) (
  some (-1:Int)) (
  loop (Zkq a) ((left - (a.length:Int)),(0:Int)))
/-- laws.toIntS -/
def ZlA (a:List Int):Int×(List Int)→Option ((Int×(List Int))⊕(List Int)):=fun (i,out)=>
 cond (decide (i<(a.length:Int))) (
  rq (0≤i∧i<a.length) <|
  rq (0≤i∧i<out.length) <|
  rq (i64 (i+(1:Int))) <|
  some (.inl ((i+(1:Int)),(out.set i.toNat (a.getD i.toNat 0))))) (
  some (.inr out))
def ZcU (a:List Int):Option (List Int):=
 rq (0≤(a.length:Int)∧(a.length:Int)≤Zp∧(a.length:Int)=(a.length:Int)) <|
 loop (ZlA a) ((0:Int),(List.replicate (a.length:Int).toNat 0))
/-- laws.toIntSS -/
def Zkr (a:List (List Int)):Int×(List (List Int))→Option ((Int×(List (List Int)))⊕(List (List Int))):=fun (i,out)=>
 cond (decide (i<(a.length:Int))) (
  rq (0≤i∧i<a.length) <|
  (ZcU (a.getD i.toNat [])).bind fun r2_=>
  rq (0≤i∧i<out.length) <|
  rq (i64 (i+(1:Int))) <|
  some (.inl ((i+(1:Int)),(out.set i.toNat r2_)))) (
  some (.inr out))
def Zn3 (a:List (List Int)):Option (List (List Int)):=
 rq (0≤(a.length:Int)∧(a.length:Int)≤Zp∧(a.length:Int)=(a.length:Int)) <|
 loop (Zkr a) ((0:Int),(List.replicate (a.length:Int).toNat []))
/-- laws.toRule -/
def Zo8 (a:Int×(List Int)×(List Int)×Int×(List (List Int))):Option (Int×Int×(List Int)×(List Int)×(List (List Int))):=
 (ZcU a.2.1).bind fun r1_=>
 (ZcU a.2.2.1).bind fun r2_=>
 (Zn3 a.2.2.2.2).bind fun r3_=>
 some (a.1,a.2.2.2.1,r1_,r2_,r3_)
/-- laws.toRuleS -/
def Zks (a:List D4_):Int×(List D4_)→Option ((Int×(List D4_))⊕(List D4_)):=fun (i,out)=>
 cond (decide (i<(a.length:Int))) (
  rq (0≤i∧i<a.length) <|
  (Zo8 (a.getD i.toNat (0,([],([],(0,[])))))).bind fun r2_=>
  rq (0≤i∧i<out.length) <|
  rq (i64 (i+(1:Int))) <|
  some (.inl ((i+(1:Int)),(out.set i.toNat (r2_.1,(r2_.2.2.1,(r2_.2.2.2.1,(r2_.2.1,r2_.2.2.2.2)))))))) (
  some (.inr out))
def Zn4 (a:List D4_):Option (List D4_):=
 rq (0≤(a.length:Int)∧(a.length:Int)≤Zp∧(a.length:Int)=(a.length:Int)) <|
 loop (Zks a) ((0:Int),(List.replicate (a.length:Int).toNat (0,([],([],(0,[]))))))
/-- laws.toModel -/
def Ziq (a:(List Int)×(List D4_)):Option ((List Int)×(List D4_)):=
 (ZcU a.1).bind fun r1_=>
 (Zn4 a.2).bind fun r2_=>
 some (r1_,r2_)
/-- laws.toTerm -/
def ZtQ (a:Int×Int):Option D5_:=
 some a
/-- laws.toTermS -/
def Zkt (a:List D5_):Int×(List D5_)→Option ((Int×(List D5_))⊕(List D5_)):=fun (i,out)=>
 cond (decide (i<(a.length:Int))) (
  rq (0≤i∧i<a.length) <|
  (ZtQ (a.getD i.toNat (0,0))).bind fun r2_=>
  rq (0≤i∧i<out.length) <|
  rq (i64 (i+(1:Int))) <|
  some (.inl ((i+(1:Int)),(out.set i.toNat r2_)))) (
  some (.inr out))
def Zn5 (a:List D5_):Option (List D5_):=
 rq (0≤(a.length:Int)∧(a.length:Int)≤Zp∧(a.length:Int)=(a.length:Int)) <|
 loop (Zkt a) ((0:Int),(List.replicate (a.length:Int).toNat (0,0)))
/-- laws.toConstraint -/
def Zl5 (a:(List D5_)×Int):Option (Int×(List D5_)):=
 (Zn5 a.1).bind fun r1_=>
 some (a.2,r1_)
/-- laws.toStep -/
def Zo9 (a:Int×Int×Int×(List D5_)×Int):Option (Int×Int×Int×Int×(List D5_)):=
 (Zl5 a.2.2.2).bind fun r1_=>
 some (a.1,a.2.1,a.2.2.1,r1_.1,r1_.2)
/-- laws.toStepS -/
def Zhk (a:List D9_):Int×(List D9_)→Option ((Int×(List D9_))⊕(List D9_)):=fun (i,out)=>
 cond (decide (i<(a.length:Int))) (
  rq (0≤i∧i<a.length) <|
  (Zo9 (a.getD i.toNat (0,(0,(0,([],0)))))).bind fun r2_=>
  rq (0≤i∧i<out.length) <|
  rq (i64 (i+(1:Int))) <|
  some (.inl ((i+(1:Int)),(out.set i.toNat (r2_.1,(r2_.2.1,(r2_.2.2.1,(r2_.2.2.2.2,r2_.2.2.2.1)))))))) (
  some (.inr out))
def Zir (a:List D9_):Option (List D9_):=
 rq (0≤(a.length:Int)∧(a.length:Int)≤Zp∧(a.length:Int)=(a.length:Int)) <|
 loop (Zhk a) ((0:Int),(List.replicate (a.length:Int).toNat (0,(0,(0,([],0))))))
/-- spec.l6Vars -/
def Zix (list_:List Int) (i:Int):Int→Option (Int⊕(Int⊕Bool)):=fun k_=>
 cond (decide (k_<i)) (
  rq (0≤k_∧k_<list_.length) <|
  rq (0≤i∧i<list_.length) <|
  cond ((list_.getD k_.toNat 0)==(list_.getD i.toNat 0)) (
   some (.inr (.inr false))) (
   rq (i64 (k_+(1:Int))) <|
   some (.inl (k_+(1:Int))))) (
  rq (i64 (i+(1:Int))) <|
  some (.inr (.inl (i+(1:Int)))))
def ZlL (m:(List Int)×(List D4_)) (list_:List Int):Int→Option (Int⊕Bool):=fun i=>
 cond (decide (i<(list_.length:Int))) (
  rq (0≤i∧i<list_.length) <|
  cond (decide ((list_.getD i.toNat 0)<(0:Int))) (
   some (.inr false)) (
   rq (0≤i∧i<list_.length) <|
   cond (decide ((m.1.length:Int)≤(list_.getD i.toNat 0))) (
    some (.inr false)) (
    loop (Zix list_ i) (0:Int)))) (
  some (.inr (decide ((1:Int)≤(list_.length:Int)))))
def Zpj (m:(List Int)×(List D4_)) (list_:List Int):Option Bool:=
 loop (ZlL m list_) (0:Int)
/-- spec.l6Linear -/
def Zjd (r_:Int×(List Int)×(List Int)×Int×(List (List Int))):Int→Option (Int⊕Bool):=fun i=>
 cond (decide (i<(r_.2.2.1.length:Int))) (
  rq (0≤i∧i<r_.2.2.1.length) <|
  cond (decide ((r_.2.2.1.getD i.toNat 0)<(-9:Int))) (
   some (.inr false)) (
   rq (0≤i∧i<r_.2.2.1.length) <|
   cond (decide ((9:Int)<(r_.2.2.1.getD i.toNat 0))) (
    some (.inr false)) (
    rq (0≤i∧i<r_.2.2.1.length) <|
    cond ((r_.2.2.1.getD i.toNat 0)==(0:Int)) (
     some (.inr false)) (
     rq (i64 (i+(1:Int))) <|
     some (.inl (i+(1:Int))))))) (
  cond ((r_.2.2.1.length:Int)==(r_.2.1.length:Int)) (
   cond (decide ((-1000:Int)≤r_.2.2.2.1)) (
    some (.inr (decide (r_.2.2.2.1≤(1000:Int))))) (
    some (.inr false))) (
   some (.inr false)))
def ZmG (r_:Int×(List Int)×(List Int)×Int×(List (List Int))):Option Bool:=
 loop (Zjd r_) (0:Int)
/-- spec.l6Table -/
def Zhr (r_:Int×(List Int)×(List Int)×Int×(List (List Int))) (i:Int):Int→Option (Int⊕(Int⊕Bool)):=fun k_=>
 rq (0≤i∧i<r_.2.2.2.2.length) <|
 cond (decide (k_<((r_.2.2.2.2.getD i.toNat []).length:Int))) (
  rq (0≤i∧i<r_.2.2.2.2.length) <|
  rq (0≤k_∧k_<(r_.2.2.2.2.getD i.toNat []).length) <|
  cond (decide (((r_.2.2.2.2.getD i.toNat []).getD k_.toNat 0)<(0:Int))) (
   some (.inr (.inr false))) (
   rq (0≤i∧i<r_.2.2.2.2.length) <|
   rq (0≤k_∧k_<(r_.2.2.2.2.getD i.toNat []).length) <|
   cond (decide ((3:Int)<((r_.2.2.2.2.getD i.toNat []).getD k_.toNat 0))) (
    some (.inr (.inr false))) (
    rq (i64 (k_+(1:Int))) <|
    some (.inl (k_+(1:Int)))))) (
  rq (i64 (i+(1:Int))) <|
  some (.inr (.inl (i+(1:Int)))))
def ZkD (r_:Int×(List Int)×(List Int)×Int×(List (List Int))):Int→Option (Int⊕Bool):=fun i=>
 cond (decide (i<(r_.2.2.2.2.length:Int))) (
  rq (0≤i∧i<r_.2.2.2.2.length) <|
  cond (((r_.2.2.2.2.getD i.toNat []).length:Int) != (r_.2.1.length:Int)) (
   some (.inr false)) (
   loop (Zhr r_ i) (0:Int))) (
  some (.inr (decide ((r_.2.2.2.2.length:Int)≤(8:Int)))))
def Zoi (r_:Int×(List Int)×(List Int)×Int×(List (List Int))):Option Bool:=
 loop (ZkD r_) (0:Int)
/-- spec.l6Rule -/
def Zet (r_:Int×(List Int)×(List Int)×Int×(List (List Int))):Unit→Option Bool:=fun _=>
 cond (r_.1==(1:Int)) (
  (ZmG r_).bind fun r2_=>
  some r2_) (
  cond (r_.1==(2:Int)) (
   some true) (
   cond (r_.1==(3:Int)) (
    (Zoi r_).bind fun r3_=>
    some r3_) (
    cond (r_.1==(4:Int)) (
     some ((r_.2.1.length:Int)==(2:Int))) (
     some false))))
def Zpi (m:(List Int)×(List D4_)) (r_:Int×(List Int)×(List Int)×Int×(List (List Int))):Option Bool:=
 (Zpj m r_.2.1).bind fun r1_=>
 cond (!r1_) (
  some false) (
  cond (r_.1 != (1:Int)) (
   cond ((r_.2.2.1.length:Int) != (0:Int)) (
    some false) (
    cond (r_.2.2.2.1 != (0:Int)) (
     some false) (
     cond (r_.1 != (3:Int)) (
      cond ((r_.2.2.2.2.length:Int) != (0:Int)) (
       some false) (
       Zet r_ ())) (
      Zet r_ ())))) (
   cond (r_.1 != (3:Int)) (
    cond ((r_.2.2.2.2.length:Int) != (0:Int)) (
     some false) (
     Zet r_ ())) (
    Zet r_ ())))
/-- spec.ModelValid -/
def Zhn (a0:(List Int)×(List D4_)):Int→Option (Int⊕Bool):=fun i3=>
 cond (decide (i3<(a0.2.length:Int))) (
  rq (0≤i3∧i3<a0.2.length) <|
  (Zpi a0 (a0.2.getD i3.toNat (0,([],([],(0,[])))))).bind fun r2_=>
  cond (!r2_) (
   some (.inr false)) (
   rq (i64 (i3+(1:Int))) <|
   some (.inl (i3+(1:Int))))) (
  some (.inr true))
def ZeU (a0:(List Int)×(List D4_)):Int→Option Bool:=fun i2=>
 cond (decide ((a0.1.length:Int)<(1:Int))) (
  some false) (
  cond (decide ((5:Int)<(a0.1.length:Int))) (
   some false) (
   cond (decide ((12:Int)<i2)) (
    some false) (
    cond (decide ((8:Int)<(a0.2.length:Int))) (
     some false) (
     loop (Zhn a0) (0:Int)))))
def Zld (a0:(List Int)×(List D4_)):Int×Int→Option ((Int×Int)⊕Bool):=fun (i,i1)=>
 cond (decide (i1<(a0.1.length:Int))) (
  cond (decide (i1<(5:Int))) (
   rq (0≤i1∧i1<a0.1.length) <|
   cond (decide ((a0.1.getD i1.toNat 0)<(0:Int))) (
    some (.inr false)) (
    rq (0≤i1∧i1<a0.1.length) <|
    cond (decide ((3:Int)<(a0.1.getD i1.toNat 0))) (
     some (.inr false)) (
     rq (0≤i1∧i1<a0.1.length) <|
     rq (i64 (i+(a0.1.getD i1.toNat 0))) <|
     rq (i64 ((i+(a0.1.getD i1.toNat 0))+(1:Int))) <|
     rq (i64 (i1+(1:Int))) <|
     some (.inl (((i+(a0.1.getD i1.toNat 0))+(1:Int)),(i1+(1:Int))))))) (
   up (ZeU a0 i))) (
  up (ZeU a0 i))
def Ze8 (a0:(List Int)×(List D4_)):Option Bool:=
 loop (Zld a0) ((0:Int),(0:Int))
/-- spec.l7Var -/
def ZqD (m:(List Int)×(List D4_)) (cell:Int):Int×Int→Option ((Int×Int)⊕Int):=fun (n,i)=>
 cond (decide (i<cell)) (
  rq (0≤i∧i<m.1.length) <|
  rq (i64 (n+(m.1.getD i.toNat 0))) <|
  rq (i64 ((n+(m.1.getD i.toNat 0))+(1:Int))) <|
  rq (i64 (i+(1:Int))) <|
  some (.inl (((n+(m.1.getD i.toNat 0))+(1:Int)),(i+(1:Int))))) (
  some (.inr n))
def Zhs (m:(List Int)×(List D4_)) (cell:Int) (value:Int):Option Int:=
 rq (i64 ((1:Int)+value)) <|
 loop (ZqD m cell) (((1:Int)+value),(0:Int))
/-- spec.l1Lit -/
def ZlG (n:Int):Option Bool:=
 cond (n != (0:Int)) (
  cond (decide ((-12:Int)≤n)) (
   some (decide (n≤(12:Int)))) (
   some false)) (
  some false)
/-- spec.l1Abs -/
def Zja (n:Int):Option Int:=
 cond (decide (n<(0:Int))) (
  rq (i64 (0 - n)) <|
  some (0 - n)) (
  some n)
/-- spec.ClauseOf -/
def Zgj (i2:List Int):Int×(List D5_)→Option ((Int×(List D5_))⊕(Bool×Int×(List D5_))):=fun (i3,i_0)=>
 cond (decide (i3≤(12:Int))) (
  rq (0≤i3∧i3<i2.length) <|
  cond ((i2.getD i3.toNat 0) != (0:Int)) (
   rq (0≤i3∧i3<i2.length) <|
   rq (i_0.length+[((1:Int),(i2.getD i3.toNat 0))].length≤Zp) <|
   rq (i64 (i3+(1:Int))) <|
   some (.inl ((i3+(1:Int)),(i_0++[((1:Int),(i2.getD i3.toNat 0))])))) (
   rq (i64 (i3+(1:Int))) <|
   some (.inl ((i3+(1:Int)),i_0)))) (
  some (.inr (true,(1:Int),i_0)))
def Zm6:(List Int)→Option (Bool×Int×(List D5_)):=fun i2=>
 loop (Zgj i2) ((1:Int),([]:List D5_))
def Zi8 (a0:List Int):Int×(List Int)→Option ((Int×(List Int))⊕(Bool×Int×(List D5_))):=fun (i,i1)=>
 cond (decide (i<(a0.length:Int))) (
  rq (0≤i∧i<a0.length) <|
  (ZlG (a0.getD i.toNat 0)).bind fun r3_=>
  cond (!r3_) (
   some (.inr (false,(0:Int),([]:List D5_)))) (
   rq (0≤i∧i<a0.length) <|
   (Zja (a0.getD i.toNat 0)).bind fun r4_=>
   rq (0≤r4_∧r4_<i1.length) <|
   rq (0≤i∧i<a0.length) <|
   rq (i64 (0 - (a0.getD i.toNat 0))) <|
   cond ((i1.getD r4_.toNat 0)==(0 - (a0.getD i.toNat 0))) (
    some (.inr (false,(0:Int),([]:List D5_)))) (
    rq (0≤i∧i<a0.length) <|
    rq (0≤r4_∧r4_<i1.length) <|
    rq (i64 (i+(1:Int))) <|
    some (.inl ((i+(1:Int)),(i1.set r4_.toNat (a0.getD i.toNat 0))))))) (
  up (Zm6 i1))
def ZjK (a0:List Int):Option (Bool×Int×(List D5_)):=
 rq (0≤(13:Int)∧(13:Int)≤Zp∧(13:Int)=(13:Int)) <|
 cond (decide ((40:Int)<(a0.length:Int))) (
  some (false,(0:Int),([]:List D5_))) (
  loop (Zi8 a0) ((0:Int),(List.replicate (13:Int).toNat 0)))
/-- spec.l7Most -/
def ZiA (vars:List Int):Int×(List D5_)→Option ((Int×(List D5_))⊕(Int×(List D5_))):=fun (i,c_0)=>
 cond (decide (i<(vars.length:Int))) (
  rq (0≤i∧i<vars.length) <|
  rq (i64 (0 - (vars.getD i.toNat 0))) <|
  rq (c_0.length+[((1:Int),(0 - (vars.getD i.toNat 0)))].length≤Zp) <|
  rq (i64 (i+(1:Int))) <|
  some (.inl ((i+(1:Int)),(c_0++[((1:Int),(0 - (vars.getD i.toNat 0)))])))) (
  some (.inr (((vars.length:Int) - (1:Int)),c_0)))
def Zmt (vars:List Int):Option (Int×(List D5_)):=
 rq (i64 ((vars.length:Int) - (1:Int))) <|
 loop (ZiA vars) ((0:Int),([]:List D5_))
/-- spec.l7Cell -/
def Ziy:(List Int)→Option (List D6_):=fun vars1=>
 (ZjK vars1).bind fun r3_=>
 (Zmt vars1).bind fun r5_=>
 some [(r3_.2.2,r3_.2.1),(r5_.2,r5_.1)]
def Ziz (m:(List Int)×(List D4_)) (cell:Int):Int×(List Int)→Option ((Int×(List Int))⊕(List D6_)):=fun (k_,vars)=>
 rq (0≤cell∧cell<m.1.length) <|
 cond (decide (k_≤(m.1.getD cell.toNat 0))) (
  (Zhs m cell k_).bind fun r2_=>
  rq (vars.length+[r2_].length≤Zp) <|
  rq (i64 (k_+(1:Int))) <|
  some (.inl ((k_+(1:Int)),(vars++[r2_])))) (
  up (Ziy vars))
def Zpk (m:(List Int)×(List D4_)) (cell:Int):Option (List D6_):=
 loop (Ziz m cell) ((0:Int),([]:List Int))
/-- spec.ConstraintValid -/
def Zec (c_:(List D5_)×Int):Int→Option (Int⊕Bool):=fun i=>
 cond (decide (i<(c_.1.length:Int))) (
  rq (0≤i∧i<c_.1.length) <|
  (ZlG (c_.1.getD i.toNat (0,0)).2).bind fun r4_=>
  cond (!r4_) (
   some (.inr false)) (
   cond (decide ((c_.1.getD i.toNat (0,0)).1<(1:Int))) (
    some (.inr false)) (
    cond (decide ((1000:Int)<(c_.1.getD i.toNat (0,0)).1)) (
     some (.inr false)) (
     cond (decide ((0:Int)<i)) (
      rq (i64 (i - (1:Int))) <|
      rq (0≤(i - (1:Int))∧(i - (1:Int))<c_.1.length) <|
      (Zja (c_.1.getD (i - (1:Int)).toNat (0,0)).2).bind fun r5_=>
      (Zja (c_.1.getD i.toNat (0,0)).2).bind fun r6_=>
      cond (decide (r6_≤r5_)) (
       some (.inr false)) (
       rq (i64 (i+(1:Int))) <|
       some (.inl (i+(1:Int))))) (
      rq (i64 (i+(1:Int))) <|
      some (.inl (i+(1:Int)))))))) (
  cond (decide ((0:Int)≤c_.2)) (
   some (.inr (decide (c_.2≤(20000:Int))))) (
   some (.inr false)))
def ZM (c_:(List D5_)×Int):Option Bool:=
 loop (Zec c_) (0:Int)
/-- spec.l1Normal -/
def Zdx (c_03:List D5_):Int→Option (Bool×Int×(List D5_)):=fun bound_3=>
 (ZM (c_03,bound_3)).bind fun r1_=>
 cond (!r1_) (
  some (false,(0:Int),([]:List D5_))) (
  some (true,bound_3,c_03))
def Zjb:Int×(List D5_)→Option (Bool×Int×(List D5_)):=fun (bound_2,c_03)=>
 cond (decide (bound_2<(0:Int))) (
  Zdx c_03 (0:Int)) (
  Zdx c_03 bound_2)
def Zjc (net:List Int) (bound_1:Int) (v:Int) (c_02:List D5_):Unit→Option ((Int×Int×(List D5_))⊕(Bool×Int×(List D5_))):=fun _=>
 rq (0≤v∧v<net.length) <|
 rq (i64 (bound_1 - (net.getD v.toNat 0))) <|
 rq (i64 (v+(1:Int))) <|
 some (.inl ((bound_1 - (net.getD v.toNat 0)),(v+(1:Int)),(c_02++[((0 - (net.getD v.toNat 0)),(0 - v))])))
def Zgq (net:List Int) (bound_1:Int) (v:Int):(List D5_)→Option ((Int×Int×(List D5_))⊕(Bool×Int×(List D5_))):=fun c_02=>
 rq (0≤v∧v<net.length) <|
 cond (decide ((net.getD v.toNat 0)<(0:Int))) (
  rq (0≤v∧v<net.length) <|
  rq (i64 (0 - (net.getD v.toNat 0))) <|
  rq (i64 (0 - v)) <|
  rq (c_02.length+[((0 - (net.getD v.toNat 0)),(0 - v))].length≤Zp) <|
  Zjc net bound_1 v c_02 ()) (
  rq (i64 (v+(1:Int))) <|
  some (.inl (bound_1,(v+(1:Int)),c_02)))
def Zes (net:List Int):Int×Int×(List D5_)→Option ((Int×Int×(List D5_))⊕(Bool×Int×(List D5_))):=fun (bound_1,v,c_01)=>
 cond (decide (v≤(12:Int))) (
  rq (0≤v∧v<net.length) <|
  cond (decide ((0:Int)<(net.getD v.toNat 0))) (
   rq (0≤v∧v<net.length) <|
   rq (c_01.length+[((net.getD v.toNat 0),v)].length≤Zp) <|
   Zgq net bound_1 v (c_01++[((net.getD v.toNat 0),v)])) (
   Zgq net bound_1 v c_01)) (
  up (Zjb (bound_1,c_01)))
def Zd3 (net:List Int) (bound_:Int):Option (Bool×Int×(List D5_)):=
 loop (Zes net) (bound_,(1:Int),([]:List D5_))
/-- spec.l7Linear -/
def Zji (r_:Int×(List Int)×(List Int)×Int×(List (List Int))):(List Int)→Option (List D6_):=fun net3=>
 (Zd3 net3 r_.2.2.2.1).bind fun r6_=>
 some [(r6_.2.2,r6_.2.1)]
def Zjj (m:(List Int)×(List D4_)) (r_:Int×(List Int)×(List Int)×Int×(List (List Int))) (i:Int):Int×(List Int)→Option ((Int×(List Int))⊕((Int×(List Int))⊕(List D6_))):=fun (k_1,net2)=>
 rq (0≤i∧i<r_.2.1.length) <|
 rq (0≤(r_.2.1.getD i.toNat 0)∧(r_.2.1.getD i.toNat 0)<m.1.length) <|
 cond (decide (k_1≤(m.1.getD (r_.2.1.getD i.toNat 0).toNat 0))) (
  rq (0≤i∧i<r_.2.1.length) <|
  (Zhs m (r_.2.1.getD i.toNat 0) k_1).bind fun r5_=>
  rq (0≤i∧i<r_.2.2.1.length) <|
  rq (i64 ((r_.2.2.1.getD i.toNat 0)*k_1)) <|
  rq (0≤r5_∧r5_<net2.length) <|
  rq (i64 (k_1+(1:Int))) <|
  some (.inl ((k_1+(1:Int)),(net2.set r5_.toNat ((r_.2.2.1.getD i.toNat 0)*k_1))))) (
  rq (i64 (i+(1:Int))) <|
  some (.inr (.inl ((i+(1:Int)),net2))))
def Zm8 (m:(List Int)×(List D4_)) (r_:Int×(List Int)×(List Int)×Int×(List (List Int))):Int×(List Int)→Option ((Int×(List Int))⊕(List D6_)):=fun (i,net1)=>
 cond (decide (i<(r_.2.1.length:Int))) (
  loop (Zjj m r_ i) ((0:Int),net1)) (
  up (Zji r_ net1))
def ZmJ (m:(List Int)×(List D4_)) (r_:Int×(List Int)×(List Int)×Int×(List (List Int))):Option (List D6_):=
 rq (0≤(13:Int)∧(13:Int)≤Zp∧(13:Int)=(13:Int)) <|
 loop (Zm8 m r_) ((0:Int),(List.replicate (13:Int).toNat 0))
/-- spec.l7Sorted -/
def Zjl (i:Int):Int×(List Int)→Option ((Int×(List Int))⊕((Int×(List Int))⊕(List Int))):=fun (k_1,out2)=>
 cond (decide ((0:Int)<k_1)) (
  rq (0≤k_1∧k_1<out2.length) <|
  rq (i64 (k_1 - (1:Int))) <|
  rq (0≤(k_1 - (1:Int))∧(k_1 - (1:Int))<out2.length) <|
  cond (decide ((out2.getD k_1.toNat 0)<(out2.getD (k_1 - (1:Int)).toNat 0))) (
   rq (0≤k_1∧k_1<out2.length) <|
   rq (i64 (k_1 - (1:Int))) <|
   rq (0≤(k_1 - (1:Int))∧(k_1 - (1:Int))<out2.length) <|
   rq (0≤k_1∧k_1<out2.length) <|
   rq (i64 (k_1 - (1:Int))) <|
   rq (0≤(k_1 - (1:Int))∧(k_1 - (1:Int))<(out2.set k_1.toNat (out2.getD (k_1 - (1:Int)).toNat 0)).length) <|
   rq (i64 (k_1 - (1:Int))) <|
   some (.inl ((k_1 - (1:Int)),((out2.set k_1.toNat (out2.getD (k_1 - (1:Int)).toNat 0)).set (k_1 - (1:Int)).toNat (out2.getD k_1.toNat 0))))) (
   rq (i64 (i+(1:Int))) <|
   some (.inr (.inl ((i+(1:Int)),out2))))) (
  rq (i64 (i+(1:Int))) <|
  some (.inr (.inl ((i+(1:Int)),out2))))
def Zjk:Int×(List Int)→Option ((Int×(List Int))⊕(List Int)):=fun (i,out1)=>
 cond (decide (i<(out1.length:Int))) (
  loop (Zjl i) (i,out1)) (
  some (.inr out1))
def ZmK (list_:List Int):Option (List Int):=
 rq (([]:List Int).length+list_.length≤Zp) <|
 loop (Zjk) ((0:Int),(([]:List Int)++list_))
/-- spec.l7Different -/
def Zei (k_:Int) (out:List D6_):(List Int)→Option ((Int×(List D6_))⊕(List D6_)):=fun vars3=>
 cond (decide ((1:Int)<(vars3.length:Int))) (
  (ZmK vars3).bind fun r8_=>
  (Zmt r8_).bind fun r9_=>
  rq (out.length+[(r9_.2,r9_.1)].length≤Zp) <|
  rq (i64 (k_+(1:Int))) <|
  some (.inl ((k_+(1:Int)),(out++[(r9_.2,r9_.1)])))) (
  rq (i64 (k_+(1:Int))) <|
  some (.inl ((k_+(1:Int)),out)))
def Zej (m:(List Int)×(List D4_)) (r_:Int×(List Int)×(List Int)×Int×(List (List Int))) (k_:Int) (out:List D6_):Int×(List Int)→Option ((Int×(List Int))⊕((Int×(List D6_))⊕(List D6_))):=fun (i1,vars2)=>
 cond (decide (i1<(r_.2.1.length:Int))) (
  rq (0≤i1∧i1<r_.2.1.length) <|
  rq (0≤(r_.2.1.getD i1.toNat 0)∧(r_.2.1.getD i1.toNat 0)<m.1.length) <|
  cond (decide (k_≤(m.1.getD (r_.2.1.getD i1.toNat 0).toNat 0))) (
   rq (0≤i1∧i1<r_.2.1.length) <|
   (Zhs m (r_.2.1.getD i1.toNat 0) k_).bind fun r7_=>
   rq (vars2.length+[r7_].length≤Zp) <|
   rq (i64 (i1+(1:Int))) <|
   some (.inl ((i1+(1:Int)),(vars2++[r7_])))) (
   rq (i64 (i1+(1:Int))) <|
   some (.inl ((i1+(1:Int)),vars2)))) (
  up (Zei k_ out vars2))
def Zka (m:(List Int)×(List D4_)) (r_:Int×(List Int)×(List Int)×Int×(List (List Int))):Int×(List D6_)→Option ((Int×(List D6_))⊕(List D6_)):=fun (k_,out)=>
 cond (decide (k_≤(3:Int))) (
  loop (Zej m r_ k_ out) ((0:Int),([]:List Int))) (
  some (.inr out))
def Zjf (m:(List Int)×(List D4_)) (r_:Int×(List Int)×(List Int)×Int×(List (List Int))):Option (List D6_):=
 loop (Zka m r_) ((0:Int),([]:List D6_))
/-- spec.l6Ints -/
def ZlJ (a:List Int) (b:List Int):Int→Option (Int⊕Bool):=fun i=>
 cond (decide (i<(a.length:Int))) (
  rq (0≤i∧i<a.length) <|
  rq (0≤i∧i<b.length) <|
  cond ((a.getD i.toNat 0) != (b.getD i.toNat 0)) (
   some (.inr false)) (
   rq (i64 (i+(1:Int))) <|
   some (.inl (i+(1:Int))))) (
  some (.inr true))
def Zph (a:List Int) (b:List Int):Option Bool:=
 cond ((a.length:Int) != (b.length:Int)) (
  some false) (
  loop (ZlJ a b) (0:Int))
/-- spec.l6Holds -/
def Zoh (a0:Int×(List Int)×(List Int)×Int×(List (List Int))) (i2:List Int):Int×Int→Option ((Int×Int)⊕Bool):=fun (i3,i4)=>
 cond (decide (i4<(i2.length:Int))) (
  rq (0≤i4∧i4<a0.2.2.1.length) <|
  rq (0≤i4∧i4<i2.length) <|
  rq (i64 ((a0.2.2.1.getD i4.toNat 0)*(i2.getD i4.toNat 0))) <|
  rq (i64 (i3+((a0.2.2.1.getD i4.toNat 0)*(i2.getD i4.toNat 0)))) <|
  rq (i64 (i4+(1:Int))) <|
  some (.inl ((i3+((a0.2.2.1.getD i4.toNat 0)*(i2.getD i4.toNat 0))),(i4+(1:Int))))) (
  some (.inr (decide (a0.2.2.2.1≤i3))))
def Zhq (i2:List Int) (i5:Int):Int→Option (Int⊕(Int⊕Bool)):=fun i6=>
 cond (decide (i6<i5)) (
  rq (0≤i6∧i6<i2.length) <|
  rq (0≤i5∧i5<i2.length) <|
  cond ((i2.getD i6.toNat 0)==(i2.getD i5.toNat 0)) (
   some (.inr (.inr false))) (
   rq (i64 (i6+(1:Int))) <|
   some (.inl (i6+(1:Int))))) (
  rq (i64 (i5+(1:Int))) <|
  some (.inr (.inl (i5+(1:Int)))))
def Zhp (i2:List Int):Int→Option (Int⊕Bool):=fun i5=>
 cond (decide (i5<(i2.length:Int))) (
  loop (Zhq i2 i5) (0:Int)) (
  some (.inr true))
def ZkB (a0:Int×(List Int)×(List Int)×Int×(List (List Int))) (i2:List Int):Int→Option (Int⊕Bool):=fun i7=>
 cond (decide (i7<(a0.2.2.2.2.length:Int))) (
  rq (0≤i7∧i7<a0.2.2.2.2.length) <|
  (Zph (a0.2.2.2.2.getD i7.toNat []) i2).bind fun r1_=>
  cond r1_ (
   some (.inr true)) (
   rq (i64 (i7+(1:Int))) <|
   some (.inl (i7+(1:Int))))) (
  some (.inr false))
def ZkA (a0:Int×(List Int)×(List Int)×Int×(List (List Int))):(List Int)→Option Bool:=fun i2=>
 cond (a0.1==(1:Int)) (
  loop (Zoh a0 i2) ((0:Int),(0:Int))) (
  cond (a0.1==(2:Int)) (
   loop (Zhp i2) (0:Int)) (
   cond (a0.1==(4:Int)) (
    rq (0≤(0:Int)∧(0:Int)<i2.length) <|
    rq (0≤(1:Int)∧(1:Int)<i2.length) <|
    some (decide ((i2.getD (0:Int).toNat 0)<(i2.getD (1:Int).toNat 0)))) (
    loop (ZkB a0 i2) (0:Int))))
def ZkC (a0:Int×(List Int)×(List Int)×Int×(List (List Int))) (a1:List Int):Int×(List Int)→Option ((Int×(List Int))⊕Bool):=fun (i,i1)=>
 cond (decide (i<(a0.2.1.length:Int))) (
  rq (0≤i∧i<a0.2.1.length) <|
  rq (0≤(a0.2.1.getD i.toNat 0)∧(a0.2.1.getD i.toNat 0)<a1.length) <|
  rq (i1.length+[(a1.getD (a0.2.1.getD i.toNat 0).toNat 0)].length≤Zp) <|
  rq (i64 (i+(1:Int))) <|
  some (.inl ((i+(1:Int)),(i1++[(a1.getD (a0.2.1.getD i.toNat 0).toNat 0)])))) (
  up (ZkA a0 i1))
def Zli (a0:Int×(List Int)×(List Int)×Int×(List (List Int))) (a1:List Int):Option Bool:=
 loop (ZkC a0 a1) ((0:Int),([]:List Int))
/-- spec.l6Next -/
def ZlK (m:(List Int)×(List D4_)):Int×(List Int)→Option ((Int×(List Int))⊕(Bool×(List Int))):=fun (i,out)=>
 cond (decide ((0:Int)≤i)) (
  rq (0≤i∧i<out.length) <|
  rq (0≤i∧i<m.1.length) <|
  cond (decide ((out.getD i.toNat 0)<(m.1.getD i.toNat 0))) (
   rq (0≤i∧i<out.length) <|
   rq (i64 ((out.getD i.toNat 0)+(1:Int))) <|
   rq (0≤i∧i<out.length) <|
   some (.inr (true,(out.set i.toNat ((out.getD i.toNat 0)+(1:Int)))))) (
   rq (0≤i∧i<out.length) <|
   rq (i64 (i - (1:Int))) <|
   some (.inl ((i - (1:Int)),(out.set i.toNat (0:Int)))))) (
  some (.inr (false,out)))
def Zms (m:(List Int)×(List D4_)) (cells:List Int):Option (Bool×(List Int)):=
 rq (([]:List Int).length+cells.length≤Zp) <|
 rq (i64 (((([]:List Int)++cells).length:Int) - (1:Int))) <|
 loop (ZlK m) ((((([]:List Int)++cells).length:Int) - (1:Int)),(([]:List Int)++cells))
/-- spec.l7Forbid -/
def Zgu (i_01:List Int) (i9:List Int):(List D6_)→Option ((Bool×(List D6_)×(List Int))⊕(List D6_)):=fun i15=>
 (Zms (i_01,([]:List D4_)) i9).bind fun r11_=>
 some (.inl (r11_.1,i15,r11_.2))
def Zgt (a1:Int×(List Int)×(List Int)×Int×(List (List Int))) (i_01:List Int) (i8:List D6_) (i9:List Int):(List Int)×(List Int)→Option ((Bool×(List D6_)×(List Int))⊕(List D6_)):=fun (i13,i14)=>
 (Zli a1 i13).bind fun r9_=>
 cond (!r9_) (
  (ZjK i14).bind fun r10_=>
  rq (i8.length+[(r10_.2.2,r10_.2.1)].length≤Zp) <|
  Zgu i_01 i9 (i8++[(r10_.2.2,r10_.2.1)])) (
  Zgu i_01 i9 i8)
def Zm7 (a0:(List Int)×(List D4_)) (a1:Int×(List Int)×(List Int)×Int×(List (List Int))) (i9:List Int) (i10:Int) (i11:List Int) (i12:List Int):Unit→Option ((Int×(List Int)×(List Int))⊕((Bool×(List D6_)×(List Int))⊕(List D6_))):=fun _=>
 rq (0≤i10∧i10<i9.length) <|
 rq (0≤i10∧i10<a1.2.1.length) <|
 (Zhs a0 (a1.2.1.getD i10.toNat 0) (i9.getD i10.toNat 0)).bind fun r8_=>
 rq (i64 (0 - r8_)) <|
 rq (i12.length+[(0 - r8_)].length≤Zp) <|
 rq (i64 (i10+(1:Int))) <|
 some (.inl ((i10+(1:Int)),(i11.set (a1.2.1.getD i10.toNat 0).toNat (i9.getD i10.toNat 0)),(i12++[(0 - r8_)])))
def Zjh (a0:(List Int)×(List D4_)) (a1:Int×(List Int)×(List Int)×Int×(List (List Int))) (i_01:List Int) (i8:List D6_) (i9:List Int):Int×(List Int)×(List Int)→Option ((Int×(List Int)×(List Int))⊕((Bool×(List D6_)×(List Int))⊕(List D6_))):=fun (i10,i11,i12)=>
 cond (decide (i10<(i9.length:Int))) (
  rq (0≤i10∧i10<i9.length) <|
  rq (0≤i10∧i10<a1.2.1.length) <|
  rq (0≤(a1.2.1.getD i10.toNat 0)∧(a1.2.1.getD i10.toNat 0)<i11.length) <|
  Zm7 a0 a1 i9 i10 i11 i12 ()) (
  up (Zgt a1 i_01 i8 i9 (i11,i12)))
def Zjg (a0:(List Int)×(List D4_)) (a1:Int×(List Int)×(List Int)×Int×(List (List Int))) (i_01:List Int):Bool×(List D6_)×(List Int)→Option ((Bool×(List D6_)×(List Int))⊕(List D6_)):=fun (i1,i8,i9)=>
 cond i1 (
  rq (0≤(a0.1.length:Int)∧(a0.1.length:Int)≤Zp∧(a0.1.length:Int)=(a0.1.length:Int)) <|
  loop (Zjh a0 a1 i_01 i8 i9) ((0:Int),(List.replicate (a0.1.length:Int).toNat 0),([]:List Int))) (
  some (.inr i8))
def Zgs (a0:(List Int)×(List D4_)) (a1:Int×(List Int)×(List Int)×Int×(List (List Int))):(List Int)→Option (List D6_):=fun i_01=>
 rq (0≤(a1.2.1.length:Int)∧(a1.2.1.length:Int)≤Zp∧(a1.2.1.length:Int)=(a1.2.1.length:Int)) <|
 loop (Zjg a0 a1 i_01) (true,([]:List D6_),(List.replicate (a1.2.1.length:Int).toNat 0))
def Zgv (a0:(List Int)×(List D4_)) (a1:Int×(List Int)×(List Int)×Int×(List (List Int))):Int×(List Int)→Option ((Int×(List Int))⊕(List D6_)):=fun (i,i_0)=>
 cond (decide (i<(a1.2.1.length:Int))) (
  rq (0≤i∧i<a1.2.1.length) <|
  rq (0≤(a1.2.1.getD i.toNat 0)∧(a1.2.1.getD i.toNat 0)<a0.1.length) <|
  rq (i_0.length+[(a0.1.getD (a1.2.1.getD i.toNat 0).toNat 0)].length≤Zp) <|
  rq (i64 (i+(1:Int))) <|
  some (.inl ((i+(1:Int)),(i_0++[(a0.1.getD (a1.2.1.getD i.toNat 0).toNat 0)])))) (
  up (Zgs a0 a1 i_0))
def ZmI (a0:(List Int)×(List D4_)) (a1:Int×(List Int)×(List Int)×Int×(List (List Int))):Option (List D6_):=
 loop (Zgv a0 a1) ((0:Int),([]:List Int))
/-- spec.l7Rule -/
def Zpl (m:(List Int)×(List D4_)) (r_:Int×(List Int)×(List Int)×Int×(List (List Int))):Option (List D6_):=
 cond (r_.1==(1:Int)) (
  (ZmJ m r_).bind fun r1_=>
  some r1_) (
  cond (r_.1==(2:Int)) (
   (Zjf m r_).bind fun r2_=>
   some r2_) (
   (ZmI m r_).bind fun r3_=>
   some r3_))
/-- spec.EncodeModel -/
def ZgG:(List D6_)→Option (Bool×(List D6_)):=fun out3=>
 cond (decide ((400:Int)<(out3.length:Int))) (
  some (false,([]:List D6_))) (
  some (true,out3))
def ZgH (m:(List Int)×(List D4_)):Int×(List D6_)→Option ((Int×(List D6_))⊕(Bool×(List D6_))):=fun (i1,out2)=>
 cond (decide (i1<(m.2.length:Int))) (
  rq (0≤i1∧i1<m.2.length) <|
  (Zpl m (m.2.getD i1.toNat (0,([],([],(0,[])))))).bind fun r6_=>
  rq (out2.length+r6_.length≤Zp) <|
  rq (i64 (i1+(1:Int))) <|
  some (.inl ((i1+(1:Int)),(out2++r6_)))) (
  up (ZgG out2))
def ZgF (m:(List Int)×(List D4_)):(List D6_)→Option (Bool×(List D6_)):=fun out1=>
 loop (ZgH m) ((0:Int),out1)
def ZgI (m:(List Int)×(List D4_)):Int×(List D6_)→Option ((Int×(List D6_))⊕(Bool×(List D6_))):=fun (i,out)=>
 cond (decide (i<(m.1.length:Int))) (
  (Zpk m i).bind fun r3_=>
  rq (out.length+r3_.length≤Zp) <|
  rq (i64 (i+(1:Int))) <|
  some (.inl ((i+(1:Int)),(out++r3_)))) (
  up (ZgF m out))
def Zi9 (m:(List Int)×(List D4_)):Option (Bool×(List D6_)):=
 (Ze8 m).bind fun r1_=>
 cond (!r1_) (
  some (false,([]:List D6_))) (
  loop (ZgI m) ((0:Int),([]:List D6_)))
/-- spec.l9Coefs -/
def ZkE (coefs:List Int):Int→Option (Int⊕Bool):=fun i=>
 cond (decide (i<(coefs.length:Int))) (
  rq (0≤i∧i<coefs.length) <|
  cond (decide ((coefs.getD i.toNat 0)<(-9:Int))) (
   some (.inr false)) (
   rq (0≤i∧i<coefs.length) <|
   cond (decide ((9:Int)<(coefs.getD i.toNat 0))) (
    some (.inr false)) (
    rq (i64 (i+(1:Int))) <|
    some (.inl (i+(1:Int)))))) (
  some (.inr true))
def Zlj (m:(List Int)×(List D4_)) (coefs:List Int):Option Bool:=
 (Ze8 m).bind fun r1_=>
 cond (!r1_) (
  some false) (
  cond ((coefs.length:Int) != (m.1.length:Int)) (
   some false) (
   loop (ZkE coefs) (0:Int)))
/-- spec.l6Cells -/
def Zkz (m:(List Int)×(List D4_)) (cells:List Int):Int→Option (Int⊕Bool):=fun i=>
 cond (decide (i<(cells.length:Int))) (
  rq (0≤i∧i<cells.length) <|
  cond (decide ((cells.getD i.toNat 0)<(0:Int))) (
   some (.inr false)) (
   rq (0≤i∧i<cells.length) <|
   rq (0≤i∧i<m.1.length) <|
   cond (decide ((m.1.getD i.toNat 0)<(cells.getD i.toNat 0))) (
    some (.inr false)) (
    rq (i64 (i+(1:Int))) <|
    some (.inl (i+(1:Int)))))) (
  some (.inr true))
def Zog (m:(List Int)×(List D4_)) (cells:List Int):Option Bool:=
 cond ((cells.length:Int) != (m.1.length:Int)) (
  some false) (
  loop (Zkz m cells) (0:Int))
/-- spec.CellsValid -/
def Zod (m:(List Int)×(List D4_)) (cells:List Int):Option Bool:=
 (Ze8 m).bind fun r1_=>
 cond r1_ (
  (Zog m cells).bind fun r2_=>
  some r2_) (
  some false)
/-- spec.l6Solves -/
def Zje (m:(List Int)×(List D4_)) (cells:List Int):Int→Option (Int⊕Bool):=fun i=>
 cond (decide (i<(m.2.length:Int))) (
  rq (0≤i∧i<m.2.length) <|
  (Zli (m.2.getD i.toNat (0,([],([],(0,[]))))) cells).bind fun r1_=>
  cond (!r1_) (
   some (.inr false)) (
   rq (i64 (i+(1:Int))) <|
   some (.inl (i+(1:Int))))) (
  some (.inr true))
def ZmH (m:(List Int)×(List D4_)) (cells:List Int):Option Bool:=
 loop (Zje m cells) (0:Int)
/-- spec.SolvesModel -/
def Zgo (m:(List Int)×(List D4_)) (cells:List Int):Option Bool:=
 (Zod m cells).bind fun r1_=>
 cond r1_ (
  (ZmH m cells).bind fun r2_=>
  some r2_) (
  some false)
/-- spec.l9Value -/
def Zok (coefs:List Int) (cells:List Int):Int×Int→Option ((Int×Int)⊕Int):=fun (n,i)=>
 cond (decide (i<(cells.length:Int))) (
  rq (0≤i∧i<coefs.length) <|
  rq (0≤i∧i<cells.length) <|
  rq (i64 ((coefs.getD i.toNat 0)*(cells.getD i.toNat 0))) <|
  rq (i64 (n+((coefs.getD i.toNat 0)*(cells.getD i.toNat 0)))) <|
  rq (i64 (i+(1:Int))) <|
  some (.inl ((n+((coefs.getD i.toNat 0)*(cells.getD i.toNat 0))),(i+(1:Int))))) (
  some (.inr n))
def Zoj (coefs:List Int) (cells:List Int):Option Int:=
 loop (Zok coefs cells) ((0:Int),(0:Int))
/-- spec.AtMostConstraint -/
def Zgi (most:Int):(List Int)→Option (Bool×Int×(List D5_)):=fun net3=>
 rq (i64 (0 - most)) <|
 (Zd3 net3 (0 - most)).bind fun r7_=>
 some (r7_.1,r7_.2.1,r7_.2.2)
def ZdY (m:(List Int)×(List D4_)) (coefs:List Int) (i:Int):Int×(List Int)→Option ((Int×(List Int))⊕((Int×(List Int))⊕(Bool×Int×(List D5_)))):=fun (k_1,net2)=>
 rq (0≤i∧i<m.1.length) <|
 cond (decide (k_1≤(m.1.getD i.toNat 0))) (
  rq (0≤i∧i<coefs.length) <|
  rq (i64 (0 - (coefs.getD i.toNat 0))) <|
  rq (i64 ((0 - (coefs.getD i.toNat 0))*k_1)) <|
  (Zhs m i k_1).bind fun r6_=>
  rq (0≤r6_∧r6_<net2.length) <|
  rq (i64 (k_1+(1:Int))) <|
  some (.inl ((k_1+(1:Int)),(net2.set r6_.toNat ((0 - (coefs.getD i.toNat 0))*k_1))))) (
  rq (i64 (i+(1:Int))) <|
  some (.inr (.inl ((i+(1:Int)),net2))))
def ZdX (m:(List Int)×(List D4_)) (coefs:List Int) (most:Int):Int×(List Int)→Option ((Int×(List Int))⊕(Bool×Int×(List D5_))):=fun (i,net1)=>
 cond (decide (i<(coefs.length:Int))) (
  loop (ZdY m coefs i) ((0:Int),net1)) (
  up (Zgi most net1))
def Ze6 (m:(List Int)×(List D4_)) (coefs:List Int) (most:Int):Option (Bool×Int×(List D5_)):=
 (Zlj m coefs).bind fun r1_=>
 cond (!r1_) (
  some (false,(0:Int),([]:List D5_))) (
  cond (decide (most<(-1000:Int))) (
   some (false,(0:Int),([]:List D5_))) (
   cond (decide ((1000:Int)<most)) (
    some (false,(0:Int),([]:List D5_))) (
    rq (0≤(13:Int)∧(13:Int)≤Zp∧(13:Int)=(13:Int)) <|
    loop (ZdX m coefs most) ((0:Int),(List.replicate (13:Int).toNat 0)))))
/-- spec.ProblemValid -/
def ZfQ (list_:List D6_):Int→Option (Int⊕Bool):=fun i=>
 cond (decide (i<(list_.length:Int))) (
  rq (0≤i∧i<list_.length) <|
  (ZM (list_.getD i.toNat ([],0))).bind fun r1_=>
  cond (!r1_) (
   some (.inr false)) (
   rq (i64 (i+(1:Int))) <|
   some (.inl (i+(1:Int))))) (
  some (.inr (decide ((list_.length:Int)≤(400:Int)))))
def ZhX (list_:List D6_):Option Bool:=
 loop (ZfQ list_) (0:Int)
/-- spec.l4Fits -/
def ZtY (list_:List D6_) (steps:List D9_):Option Bool:=
 (ZhX list_).bind fun r1_=>
 cond r1_ (
  some (decide ((steps.length:Int)≤(1000:Int)))) (
  some false)
/-- spec.l4Parts -/
def Zlh (s_:Int×Int×Int×(List D5_)×Int):Option Bool:=
 cond ((s_.2.2.2.1.length:Int)==(0:Int)) (
  cond (s_.1==(1:Int)) (
   some (s_.2.2.2.2==(0:Int))) (
   cond (s_.1==(2:Int)) (
    some (s_.2.2.2.2==(0:Int))) (
    cond (s_.1==(3:Int)) (
     some (s_.2.2.2.2==(0:Int))) (
     cond (s_.1==(5:Int)) (
      some (s_.2.2.2.2==(0:Int))) (
      cond (s_.1==(4:Int)) (
       cond (s_.2.2.2.2==(0:Int)) (
        some (s_.2.2.1==(0:Int))) (
        some false)) (
       cond (s_.1==(6:Int)) (
        cond (s_.2.2.2.2==(0:Int)) (
         some (s_.2.2.1==(0:Int))) (
         some false)) (
        cond (s_.1==(8:Int)) (
         cond (s_.2.2.2.2==(0:Int)) (
          some (s_.2.2.1==(0:Int))) (
          some false)) (
         cond (s_.1==(7:Int)) (
          cond (s_.2.1==(0:Int)) (
           some (s_.2.2.1==(0:Int))) (
           some false)) (
          some false))))))))) (
  cond (s_.1==(1:Int)) (
   some false) (
   cond (s_.1==(2:Int)) (
    some false) (
    cond (s_.1==(3:Int)) (
     some false) (
     cond (s_.1==(5:Int)) (
      some false) (
      cond (s_.1==(4:Int)) (
       some false) (
       cond (s_.1==(6:Int)) (
        some false) (
        cond (s_.1==(8:Int)) (
         some false) (
         cond (s_.1==(7:Int)) (
          cond (s_.2.1==(0:Int)) (
           some (s_.2.2.1==(0:Int))) (
           some false)) (
          some false)))))))))
/-- spec.l4Live -/
def ZhE (d:(List D6_)×(List Bool)) (k_:Int):Option Bool:=
 cond (decide ((0:Int)≤k_)) (
  cond (decide (k_<(d.1.length:Int))) (
   rq (0≤k_∧k_<d.2.length) <|
   some (!(d.2.getD k_.toNat false))) (
   some false)) (
  some false)
/-- spec.LiteralAxiom -/
def ZhW (lit:Int):Option (Bool×Int×(List D5_)):=
 (ZlG lit).bind fun r1_=>
 cond (!r1_) (
  some (false,(0:Int),([]:List D5_))) (
  some (true,(0:Int),[((1:Int),lit)]))
/-- spec.l1Copy -/
def Zpf (c_:(List D5_)×Int):Option (Int×(List D5_)):=
 rq (([]:List D5_).length+c_.1.length≤Zp) <|
 some (c_.2,(([]:List D5_)++c_.1))
/-- spec.l4Kept -/
def ZlI (d:(List D6_)×(List Bool)):Int×(List D6_)→Option ((Int×(List D6_))⊕(List D6_)):=fun (i,out)=>
 cond (decide (i<(d.1.length:Int))) (
  rq (0≤i∧i<d.2.length) <|
  cond (!(d.2.getD i.toNat false)) (
   rq (0≤i∧i<d.1.length) <|
   rq (out.length+[(d.1.getD i.toNat ([],0))].length≤Zp) <|
   rq (i64 (i+(1:Int))) <|
   some (.inl ((i+(1:Int)),(out++[(d.1.getD i.toNat ([],0))])))) (
   rq (i64 (i+(1:Int))) <|
   some (.inl ((i+(1:Int)),out)))) (
  some (.inr out))
def Zpg (d:(List D6_)×(List Bool)):Option (List D6_):=
 loop (ZlI d) ((0:Int),([]:List D6_))
/-- spec.l1Total -/
def Zkv (c_:(List D5_)×Int):Int×Int→Option ((Int×Int)⊕Int):=fun (n,i)=>
 cond (decide (i<(c_.1.length:Int))) (
  rq (0≤i∧i<c_.1.length) <|
  rq (i64 (n+(c_.1.getD i.toNat (0,0)).1)) <|
  rq (i64 (i+(1:Int))) <|
  some (.inl ((n+(c_.1.getD i.toNat (0,0)).1),(i+(1:Int))))) (
  some (.inr n))
def Zle (c_:(List D5_)×Int):Option Int:=
 loop (Zkv c_) ((0:Int),(0:Int))
/-- spec.NegateConstraint -/
def Zgn (out_1:Int):(List D5_)→Option (Bool×Int×(List D5_)):=fun out_01=>
 cond (decide (out_1<(0:Int))) (
  some (true,(0:Int),out_01)) (
  some (true,out_1,out_01))
def Zda (c_:(List D5_)×Int) (out_1:Int):Int×(List D5_)→Option ((Int×(List D5_))⊕(Bool×Int×(List D5_))):=fun (i,out_0)=>
 cond (decide (i<(c_.1.length:Int))) (
  rq (0≤i∧i<c_.1.length) <|
  rq (0≤i∧i<c_.1.length) <|
  rq (i64 (0 - (c_.1.getD i.toNat (0,0)).2)) <|
  rq (out_0.length+[((c_.1.getD i.toNat (0,0)).1,(0 - (c_.1.getD i.toNat (0,0)).2))].length≤Zp) <|
  rq (i64 (i+(1:Int))) <|
  some (.inl ((i+(1:Int)),(out_0++[((c_.1.getD i.toNat (0,0)).1,(0 - (c_.1.getD i.toNat (0,0)).2))])))) (
  up (Zgn out_1 out_0))
def Zgm (c_:(List D5_)×Int):Int→Option (Bool×Int×(List D5_)):=fun out_1=>
 loop (Zda c_ out_1) ((0:Int),([]:List D5_))
def Zgl (c_:(List D5_)×Int):Unit→Option (Bool×Int×(List D5_)):=fun _=>
 (ZM c_).bind fun r1_=>
 cond (!r1_) (
  some (false,(0:Int),([]:List D5_))) (
  (Zle c_).bind fun r3_=>
  rq (i64 (r3_ - c_.2)) <|
  rq (i64 ((r3_ - c_.2)+(1:Int))) <|
  Zgm c_ ((r3_ - c_.2)+(1:Int)))
def Ze9 (c_:(List D5_)×Int):Option (Bool×Int×(List D5_)):=
 Zgl c_ ()
/-- spec.l3State -/
def Zlg (p:List Int) (lit:Int):Option Int:=
 cond (decide ((0:Int)<lit)) (
  rq (i64 (lit - (1:Int))) <|
  rq (0≤(lit - (1:Int))∧(lit - (1:Int))<p.length) <|
  some (p.getD (lit - (1:Int)).toNat 0)) (
  rq (i64 (0 - lit)) <|
  rq (i64 ((0 - lit) - (1:Int))) <|
  rq (0≤((0 - lit) - (1:Int))∧((0 - lit) - (1:Int))<p.length) <|
  rq (i64 (0 - (p.getD ((0 - lit) - (1:Int)).toNat 0))) <|
  some (0 - (p.getD ((0 - lit) - (1:Int)).toNat 0)))
/-- spec.l3Slack -/
def Zkx (c_:(List D5_)×Int) (p:List Int):Int×Int→Option ((Int×Int)⊕Int):=fun (n,i)=>
 cond (decide (i<(c_.1.length:Int))) (
  rq (0≤i∧i<c_.1.length) <|
  (Zlg p (c_.1.getD i.toNat (0,0)).2).bind fun r1_=>
  cond (decide ((0:Int)≤r1_)) (
   rq (0≤i∧i<c_.1.length) <|
   rq (i64 (n+(c_.1.getD i.toNat (0,0)).1)) <|
   rq (i64 (i+(1:Int))) <|
   some (.inl ((n+(c_.1.getD i.toNat (0,0)).1),(i+(1:Int))))) (
   rq (i64 (i+(1:Int))) <|
   some (.inl (n,(i+(1:Int)))))) (
  some (.inr n))
def Zlf (c_:(List D5_)×Int) (p:List Int):Option Int:=
 rq (i64 (0 - c_.2)) <|
 loop (Zkx c_ p) ((0 - c_.2),(0:Int))
/-- spec.l3Implied -/
def Zl6 (c_:(List D5_)×Int) (p:List Int) (r1_:Int):Int×(List Int)→Option ((Int×(List Int))⊕(List Int)):=fun (i,out)=>
 cond (decide (i<(c_.1.length:Int))) (
  cond (decide ((0:Int)≤r1_)) (
   rq (0≤i∧i<c_.1.length) <|
   (Zlg p (c_.1.getD i.toNat (0,0)).2).bind fun r3_=>
   cond (r3_==(0:Int)) (
    rq (0≤i∧i<c_.1.length) <|
    cond (decide (r1_<(c_.1.getD i.toNat (0,0)).1)) (
     rq (0≤i∧i<c_.1.length) <|
     rq (out.length+[(c_.1.getD i.toNat (0,0)).2].length≤Zp) <|
     rq (i64 (i+(1:Int))) <|
     some (.inl ((i+(1:Int)),(out++[(c_.1.getD i.toNat (0,0)).2])))) (
     rq (i64 (i+(1:Int))) <|
     some (.inl ((i+(1:Int)),out)))) (
    rq (i64 (i+(1:Int))) <|
    some (.inl ((i+(1:Int)),out)))) (
   some (.inr out))) (
  some (.inr out))
def ZlH (c_:(List D5_)×Int) (p:List Int):Option (List Int):=
 (Zlf c_ p).bind fun r1_=>
 loop (Zl6 c_ p r1_) ((0:Int),([]:List Int))
/-- spec.l3Assign -/
def Zqz (lit:Int) (p:List Int):Option (List Int):=
 cond (decide ((0:Int)<lit)) (
  rq (i64 (lit - (1:Int))) <|
  rq (0≤(lit - (1:Int))∧(lit - (1:Int))<p.length) <|
  some (p.set (lit - (1:Int)).toNat (1:Int))) (
  rq (i64 (0 - lit)) <|
  rq (i64 ((0 - lit) - (1:Int))) <|
  rq (0≤((0 - lit) - (1:Int))∧((0 - lit) - (1:Int))<p.length) <|
  some (p.set ((0 - lit) - (1:Int)).toNat (-1:Int)))
/-- spec.l3Propagate -/
def ZgK (i1:Int) (r14_:(List Int)):Bool×Int×(List Int)→Option ((Bool×Int×(List Int))⊕((Bool×Int×(List Int))⊕((Bool×(List Int))⊕(Int×(List Int))))):=fun (changed6,k_3,p7)=>
 cond (decide (k_3<(r14_.length:Int))) (
  rq (0≤k_3∧k_3<r14_.length) <|
  (Zqz (r14_.getD k_3.toNat 0) p7).bind fun r16_=>
  rq (i64 (k_3+(1:Int))) <|
  some (.inl (true,(k_3+(1:Int)),r16_))) (
  rq (i64 (i1+(1:Int))) <|
  some (.inr (.inl (changed6,(i1+(1:Int)),p7))))
def ZgJ (list_:List D6_):Bool×Int×(List Int)→Option ((Bool×Int×(List Int))⊕((Bool×(List Int))⊕(Int×(List Int)))):=fun (changed4,i1,p6)=>
 cond (decide (i1<(list_.length:Int))) (
  rq (0≤i1∧i1<list_.length) <|
  (Zlf (list_.getD i1.toNat ([],0)) p6).bind fun r13_=>
  cond (decide (r13_<(0:Int))) (
   some (.inr (.inr (i1,p6)))) (
   rq (0≤i1∧i1<list_.length) <|
   (ZlH (list_.getD i1.toNat ([],0)) p6).bind fun r14_=>
   loop (ZgK i1 r14_) (changed4,(0:Int),p6))) (
  some (.inr (.inl (changed4,p6))))
def Zj9 (list_:List D6_):Bool×(List Int)→Option ((Bool×(List Int))⊕(Int×(List Int))):=fun (changed,p4)=>
 cond changed (
  loop (ZgJ list_) (false,(0:Int),p4)) (
  some (.inr ((-1:Int),p4)))
def Zgr (list_:List D6_) (p:List Int):Option (Int×(List Int)):=
 loop (Zj9 list_) (true,p)
/-- spec.l3Rup -/
def ZqA (list_:List D6_) (r1_:Bool×Int×(List D5_)):Unit→Option Bool:=fun _=>
 rq (0≤(12:Int)∧(12:Int)≤Zp∧(12:Int)=(12:Int)) <|
 (Zgr ((([]:List D6_)++list_)++[(r1_.2.2,r1_.2.1)]) (List.replicate (12:Int).toNat 0)).bind fun r2_=>
 some (decide ((0:Int)≤r2_.1))
def Zra (list_:List D6_) (c_:(List D5_)×Int):Option Bool:=
 (Ze9 c_).bind fun r1_=>
 rq (([]:List D6_).length+list_.length≤Zp) <|
 rq ((([]:List D6_)++list_).length+[(r1_.2.2,r1_.2.1)].length≤Zp) <|
 ZqA list_ r1_ ()
/-- spec.l1Net -/
def Zqx:Int×(List Int)→Option (Int×(List Int)):=fun (bound_2,net2)=>
 some (bound_2,net2)
def Zqy (terms:List D5_) (bound_1:Int) (i:Int) (net1:List Int):Unit→Option ((Int×Int×(List Int))⊕(Int×(List Int))):=fun _=>
 rq (i64 (bound_1 - (terms.getD i.toNat (0,0)).1)) <|
 rq (i64 (i+(1:Int))) <|
 some (.inl ((bound_1 - (terms.getD i.toNat (0,0)).1),(i+(1:Int)),(net1.set (0 - (terms.getD i.toNat (0,0)).2).toNat ((net1.getD (0 - (terms.getD i.toNat (0,0)).2).toNat 0) - (terms.getD i.toNat (0,0)).1))))
def ZmE (terms:List D5_):Int×Int×(List Int)→Option ((Int×Int×(List Int))⊕(Int×(List Int))):=fun (bound_1,i,net1)=>
 cond (decide (i<(terms.length:Int))) (
  rq (0≤i∧i<terms.length) <|
  cond (decide ((0:Int)<(terms.getD i.toNat (0,0)).2)) (
   rq (0≤(terms.getD i.toNat (0,0)).2∧(terms.getD i.toNat (0,0)).2<net1.length) <|
   rq (i64 ((net1.getD (terms.getD i.toNat (0,0)).2.toNat 0)+(terms.getD i.toNat (0,0)).1)) <|
   rq (0≤(terms.getD i.toNat (0,0)).2∧(terms.getD i.toNat (0,0)).2<net1.length) <|
   rq (i64 (i+(1:Int))) <|
   some (.inl (bound_1,(i+(1:Int)),(net1.set (terms.getD i.toNat (0,0)).2.toNat ((net1.getD (terms.getD i.toNat (0,0)).2.toNat 0)+(terms.getD i.toNat (0,0)).1))))) (
   rq (i64 (0 - (terms.getD i.toNat (0,0)).2)) <|
   rq (i64 (0 - (terms.getD i.toNat (0,0)).2)) <|
   rq (0≤(0 - (terms.getD i.toNat (0,0)).2)∧(0 - (terms.getD i.toNat (0,0)).2)<net1.length) <|
   rq (i64 ((net1.getD (0 - (terms.getD i.toNat (0,0)).2).toNat 0) - (terms.getD i.toNat (0,0)).1)) <|
   rq (0≤(0 - (terms.getD i.toNat (0,0)).2)∧(0 - (terms.getD i.toNat (0,0)).2)<net1.length) <|
   Zqy terms bound_1 i net1 ())) (
  up (Zqx (bound_1,net1)))
def Zq9 (terms:List D5_) (bound_:Int):Option (Int×(List Int)):=
 rq (0≤(13:Int)∧(13:Int)≤Zp∧(13:Int)=(13:Int)) <|
 loop (ZmE terms) (bound_,(0:Int),(List.replicate (13:Int).toNat 0))
/-- spec.AddConstraints -/
def ZhD (a:(List D5_)×Int) (b:(List D5_)×Int):Unit→Option (Bool×Int×(List D5_)):=fun _=>
 (ZM a).bind fun r1_=>
 cond (!r1_) (
  some (false,(0:Int),([]:List D5_))) (
  (ZM b).bind fun r2_=>
  cond (!r2_) (
   some (false,(0:Int),([]:List D5_))) (
   rq (i64 (a.2+b.2)) <|
   rq (([]:List D5_).length+a.1.length≤Zp) <|
   rq ((([]:List D5_)++a.1).length+b.1.length≤Zp) <|
   (Zq9 ((([]:List D5_)++a.1)++b.1) (a.2+b.2)).bind fun r4_=>
   (Zd3 r4_.2 r4_.1).bind fun r5_=>
   some (r5_.1,r5_.2.1,r5_.2.2)))
def ZgE (a:(List D5_)×Int) (b:(List D5_)×Int):Option (Bool×Int×(List D5_)):=
 ZhD a b ()
/-- spec.MultiplyConstraint -/
def Zfj (c_:(List D5_)×Int) (k_:Int):(List D5_)→Option (Bool×Int×(List D5_)):=fun out_01=>
 (ZM (out_01,(c_.2*k_))).bind fun r2_=>
 cond (!r2_) (
  some (false,(0:Int),([]:List D5_))) (
  some (true,(c_.2*k_),out_01))
def ZcS (c_:(List D5_)×Int) (k_:Int):Int×(List D5_)→Option ((Int×(List D5_))⊕(Bool×Int×(List D5_))):=fun (i,out_0)=>
 cond (decide (i<(c_.1.length:Int))) (
  rq (0≤i∧i<c_.1.length) <|
  rq (i64 ((c_.1.getD i.toNat (0,0)).1*k_)) <|
  rq (0≤i∧i<c_.1.length) <|
  rq (out_0.length+[(((c_.1.getD i.toNat (0,0)).1*k_),(c_.1.getD i.toNat (0,0)).2)].length≤Zp) <|
  rq (i64 (i+(1:Int))) <|
  some (.inl ((i+(1:Int)),(out_0++[(((c_.1.getD i.toNat (0,0)).1*k_),(c_.1.getD i.toNat (0,0)).2)])))) (
  up (Zfj c_ k_ out_0))
def Zed (c_:(List D5_)×Int) (k_:Int):Option (Bool×Int×(List D5_)):=
 (ZM c_).bind fun r1_=>
 cond (!r1_) (
  some (false,(0:Int),([]:List D5_))) (
  cond (decide (k_<(1:Int))) (
   some (false,(0:Int),([]:List D5_))) (
   cond (decide ((1000:Int)<k_)) (
    some (false,(0:Int),([]:List D5_))) (
    rq (i64 (c_.2*k_)) <|
    loop (ZcS c_ k_) ((0:Int),([]:List D5_)))))
/-- spec.l2Up -/
def ZpZ (n:Int) (k_:Int):Option Int:=
 rq (i64 (n+k_)) <|
 rq (i64 ((n+k_) - (1:Int))) <|
 rq (1≤k_∧0≤((n+k_) - (1:Int))) <|
 some (((n+k_) - (1:Int)) / k_)
/-- spec.DivideConstraint -/
def Zc9 (c_:(List D5_)×Int) (k_:Int) (r2_:Int):Int×(List D5_)→Option ((Int×(List D5_))⊕(Bool×Int×(List D5_))):=fun (i,out_0)=>
 cond (decide (i<(c_.1.length:Int))) (
  rq (0≤i∧i<c_.1.length) <|
  rq (0≤i∧i<c_.1.length) <|
  (ZpZ (c_.1.getD i.toNat (0,0)).1 k_).bind fun r5_=>
  rq (out_0.length+[(r5_,(c_.1.getD i.toNat (0,0)).2)].length≤Zp) <|
  rq (i64 (i+(1:Int))) <|
  some (.inl ((i+(1:Int)),(out_0++[(r5_,(c_.1.getD i.toNat (0,0)).2)])))) (
  some (.inr (true,r2_,out_0)))
def Zgk (c_:(List D5_)×Int) (k_:Int):Unit→Option (Bool×Int×(List D5_)):=fun _=>
 (ZM c_).bind fun r1_=>
 cond (!r1_) (
  some (false,(0:Int),([]:List D5_))) (
  cond (decide (k_<(1:Int))) (
   some (false,(0:Int),([]:List D5_))) (
   cond (decide ((1000:Int)<k_)) (
    some (false,(0:Int),([]:List D5_))) (
    (ZpZ c_.2 k_).bind fun r2_=>
    loop (Zc9 c_ k_ r2_) ((0:Int),([]:List D5_)))))
def Ze7 (c_:(List D5_)×Int) (k_:Int):Option (Bool×Int×(List D5_)):=
 Zgk c_ k_ ()
/-- spec.l2Saturate -/
def Zho (i:Int) (out_0:List D5_):D5_→Option ((Int×(List D5_))⊕(Int×(List D5_))):=fun t_1=>
 rq (out_0.length+[t_1].length≤Zp) <|
 rq (i64 (i+(1:Int))) <|
 some (.inl ((i+(1:Int)),(out_0++[t_1])))
def ZdE (c_:(List D5_)×Int):Int×(List D5_)→Option ((Int×(List D5_))⊕(Int×(List D5_))):=fun (i,out_0)=>
 cond (decide (i<(c_.1.length:Int))) (
  cond (decide ((0:Int)<c_.2)) (
   rq (0≤i∧i<c_.1.length) <|
   cond (decide (c_.2<(c_.1.getD i.toNat (0,0)).1)) (
    Zho i out_0 (c_.2,(c_.1.getD i.toNat (0,0)).2)) (
    Zho i out_0 (c_.1.getD i.toNat (0,0)))) (
   some (.inr (c_.2,out_0)))) (
  some (.inr (c_.2,out_0)))
def Zkw (c_:(List D5_)×Int):Option (Int×(List D5_)):=
 loop (ZdE c_) ((0:Int),([]:List D5_))
/-- spec.SaturateConstraint -/
def Zee (c_:(List D5_)×Int):Option (Bool×Int×(List D5_)):=
 (ZM c_).bind fun r1_=>
 cond (!r1_) (
  some (false,(0:Int),([]:List D5_))) (
  (Zkw c_).bind fun r2_=>
  some (true,r2_.1,r2_.2))
/-- spec.WeakenConstraint -/
def Zgp:Int×(List D5_)→Option (Bool×Int×(List D5_)):=fun (out_11,out_01)=>
 cond (decide (out_11<(0:Int))) (
  some (true,(0:Int),out_01)) (
  some (true,out_11,out_01))
def Zd0 (c_:(List D5_)×Int) (variable_:Int):Int×Int×(List D5_)→Option ((Int×Int×(List D5_))⊕(Bool×Int×(List D5_))):=fun (i,out_1,out_0)=>
 cond (decide (i<(c_.1.length:Int))) (
  rq (0≤i∧i<c_.1.length) <|
  (Zja (c_.1.getD i.toNat (0,0)).2).bind fun r3_=>
  cond (r3_==variable_) (
   rq (0≤i∧i<c_.1.length) <|
   rq (i64 (out_1 - (c_.1.getD i.toNat (0,0)).1)) <|
   rq (i64 (i+(1:Int))) <|
   some (.inl ((i+(1:Int)),(out_1 - (c_.1.getD i.toNat (0,0)).1),out_0))) (
   rq (0≤i∧i<c_.1.length) <|
   rq (out_0.length+[(c_.1.getD i.toNat (0,0))].length≤Zp) <|
   rq (i64 (i+(1:Int))) <|
   some (.inl ((i+(1:Int)),out_1,(out_0++[(c_.1.getD i.toNat (0,0))]))))) (
  up (Zgp (out_1,out_0)))
def Zfa (c_:(List D5_)×Int) (variable_:Int):Option (Bool×Int×(List D5_)):=
 (ZM c_).bind fun r1_=>
 cond (!r1_) (
  some (false,(0:Int),([]:List D5_))) (
  cond (decide (variable_<(1:Int))) (
   some (false,(0:Int),([]:List D5_))) (
   cond (decide ((12:Int)<variable_)) (
    some (false,(0:Int),([]:List D5_))) (
    loop (Zd0 c_ variable_) ((0:Int),c_.2,([]:List D5_)))))
/-- spec.l4Derive -/
def ZjL (a0:(List D6_)×(List Bool)) (a1:Int×Int×Int×(List D5_)×Int):Option (Bool×Int×(List D5_)):=
 cond (a1.1==(6:Int)) (
  (ZhW a1.2.1).bind fun r1_=>
  some (r1_.1,r1_.2.1,r1_.2.2)) (
  cond (a1.1==(7:Int)) (
   (Zpf a1.2.2.2).bind fun r6_=>
   (ZM a1.2.2.2).bind fun r7_=>
   cond r7_ (
    (Zpg a0).bind fun r8_=>
    (Zra r8_ a1.2.2.2).bind fun r9_=>
    some (r9_,r6_.1,r6_.2)) (
    some (false,r6_.1,r6_.2))) (
   (ZhE a0 a1.2.1).bind fun r10_=>
   cond (!r10_) (
    some (false,(0:Int),([]:List D5_))) (
    rq (0≤a1.2.1∧a1.2.1<a0.1.length) <|
    cond (a1.1==(1:Int)) (
     (ZhE a0 a1.2.2.1).bind fun r11_=>
     cond (!r11_) (
      some (false,(0:Int),([]:List D5_))) (
      rq (0≤a1.2.2.1∧a1.2.2.1<a0.1.length) <|
      (ZgE (a0.1.getD a1.2.1.toNat ([],0)) (a0.1.getD a1.2.2.1.toNat ([],0))).bind fun r13_=>
      some (r13_.1,r13_.2.1,r13_.2.2))) (
     cond (a1.1==(2:Int)) (
      (Zed (a0.1.getD a1.2.1.toNat ([],0)) a1.2.2.1).bind fun r14_=>
      some (r14_.1,r14_.2.1,r14_.2.2)) (
      cond (a1.1==(3:Int)) (
       (Ze7 (a0.1.getD a1.2.1.toNat ([],0)) a1.2.2.1).bind fun r15_=>
       some (r15_.1,r15_.2.1,r15_.2.2)) (
       cond (a1.1==(4:Int)) (
        (Zee (a0.1.getD a1.2.1.toNat ([],0))).bind fun r16_=>
        some (r16_.1,r16_.2.1,r16_.2.2)) (
        (Zfa (a0.1.getD a1.2.1.toNat ([],0)) a1.2.2.1).bind fun r17_=>
        some (r17_.1,r17_.2.1,r17_.2.2))))))))
/-- spec.l4Run -/
def ZqC (a1:List D9_) (i:Int) (i_0:List D6_) (i_1:List Bool):Unit→Option ((Int×(List D6_)×(List Bool))⊕(Int×(List D6_)×(List Bool))):=fun _=>
 (Zlh (a1.getD i.toNat (0,(0,(0,([],0)))))).bind fun r4_=>
 cond (!r4_) (
  some (.inr (i,i_0,i_1))) (
  cond ((a1.getD i.toNat (0,(0,(0,([],0))))).1==(8:Int)) (
   (ZhE (i_0,i_1) (a1.getD i.toNat (0,(0,(0,([],0))))).2.1).bind fun r5_=>
   cond (!r5_) (
    some (.inr (i,i_0,i_1))) (
    rq (0≤(a1.getD i.toNat (0,(0,(0,([],0))))).2.1∧(a1.getD i.toNat (0,(0,(0,([],0))))).2.1<i_1.length) <|
    rq (i64 (i+(1:Int))) <|
    some (.inl ((i+(1:Int)),i_0,(i_1.set (a1.getD i.toNat (0,(0,(0,([],0))))).2.1.toNat true))))) (
   (ZjL (i_0,i_1) (a1.getD i.toNat (0,(0,(0,([],0)))))).bind fun r6_=>
   cond (!r6_.1) (
    some (.inr (i,i_0,i_1))) (
    rq (i_0.length+[(r6_.2.2,r6_.2.1)].length≤Zp) <|
    rq (i_1.length+[false].length≤Zp) <|
    rq (i64 (i+(1:Int))) <|
    some (.inl ((i+(1:Int)),(i_0++[(r6_.2.2,r6_.2.1)]),(i_1++[false]))))))
def ZmF (a1:List D9_):Int×(List D6_)×(List Bool)→Option ((Int×(List D6_)×(List Bool))⊕(Int×(List D6_)×(List Bool))):=fun (i,i_0,i_1)=>
 cond (decide (i<(a1.length:Int))) (
  rq (0≤i∧i<a1.length) <|
  ZqC a1 i i_0 i_1 ()) (
  some (.inr ((-1:Int),i_0,i_1)))
def ZqB (a0:List D6_) (a1:List D9_):Unit→Option (Int×(List D6_)×(List Bool)):=fun _=>
 loop (ZmF a1) ((0:Int),(([]:List D6_)++a0),(List.replicate (a0.length:Int).toNat false))
def Zrb (a0:List D6_) (a1:List D9_):Option (Int×(List D6_)×(List Bool)):=
 rq (([]:List D6_).length+a0.length≤Zp) <|
 rq (0≤(a0.length:Int)∧(a0.length:Int)≤Zp∧(a0.length:Int)=(a0.length:Int)) <|
 ZqB a0 a1 ()
/-- spec.ConstraintFalse -/
def ZdZ (c_:(List D5_)×Int):Option Bool:=
 (ZM c_).bind fun r3_=>
 cond r3_ (
  (Zle c_).bind fun r4_=>
  some (decide (r4_<c_.2))) (
  some false)
/-- spec.l4False -/
def Zky (d:(List D6_)×(List Bool)):Int→Option (Int⊕Int):=fun i=>
 cond (decide (i<(d.1.length:Int))) (
  rq (0≤i∧i<d.2.length) <|
  cond (!(d.2.getD i.toNat false)) (
   rq (0≤i∧i<d.1.length) <|
   (ZdZ (d.1.getD i.toNat ([],0))).bind fun r1_=>
   cond r1_ (
    some (.inr i)) (
    rq (i64 (i+(1:Int))) <|
    some (.inl (i+(1:Int))))) (
   rq (i64 (i+(1:Int))) <|
   some (.inl (i+(1:Int))))) (
  some (.inr (-1:Int)))
def Zof (d:(List D6_)×(List Bool)):Option Int:=
 loop (Zky d) (0:Int)
/-- spec.CheckRefutation -/
def ZfP (list_:List D6_) (steps:List D9_):Option Bool:=
 (ZtY list_ steps).bind fun r1_=>
 cond (!r1_) (
  some false) (
  (Zrb list_ steps).bind fun r2_=>
  cond (decide (r2_.1<(0:Int))) (
   (Zof r2_.2).bind fun r3_=>
   some (decide ((0:Int)≤r3_))) (
   some false))
/-- spec.CheckOptimum -/
def Zi7 (steps:List D9_) (r1_:Bool×(List D6_)):Int×(List D5_)→Option Bool:=fun (c_1,c_0)=>
 rq (([]:List D6_).length+r1_.2.length≤Zp) <|
 rq ((([]:List D6_)++r1_.2).length+[(c_0,c_1)].length≤Zp) <|
 (ZfP ((([]:List D6_)++r1_.2)++[(c_0,c_1)]) steps).bind fun r9_=>
 some r9_
def ZhV (m:(List Int)×(List D4_)) (coefs:List Int) (cells:List Int) (steps:List D9_):Option Bool:=
 (Zi9 m).bind fun r1_=>
 cond (!r1_.1) (
  some false) (
  (Zlj m coefs).bind fun r2_=>
  cond (!r2_) (
   some false) (
   (Zgo m cells).bind fun r3_=>
   cond (!r3_) (
    some false) (
    cond (decide ((400:Int)≤(r1_.2.length:Int))) (
     some false) (
     (Zoj coefs cells).bind fun r6_=>
     rq (i64 (r6_ - (1:Int))) <|
     (Ze6 m coefs (r6_ - (1:Int))).bind fun r7_=>
     Zi7 steps r1_ (r7_.2.1,r7_.2.2)))))
/-- impl.within -/
def Zbr (n:Int) (low:Int) (high:Int):Option Bool:=
 cond (decide (low≤n)) (
  some (decide (n≤high))) (
  some false)
/-- slices.Index[[]int,int] -/
def Zch (s_:List Int) (v:Int):Int→Option (Int⊕Int):=fun i=>
 cond (decide (i<(s_.length:Int))) (
  rq (0≤i∧i<s_.length) <|
  cond (v==(s_.getD i.toNat 0)) (
   some (.inr i)) (
   rq (i64 (i+(1:Int))) <|
   some (.inl (i+(1:Int))))) (
  some (.inr (-1:Int)))
def Zi6 (s_:List Int) (v:Int):Option Int:=
 loop (Zch s_ v) (0:Int)
/-- slices.Contains[[]int,int] -/
def ZbZ (s_:List Int) (v:Int):Option Bool:=
 (Zi6 s_ v).bind fun r1_=>
 some (decide ((0:Int)≤r1_))
/-- impl.ruleValid$1 -/
def ZmV (n:Int):Option Bool:=
 cond (n==(0:Int)) (
  some true) (
  (Zbr n (-9:Int) (9:Int)).bind fun r1_=>
  some (!r1_))
/-- slices.IndexFunc[[]int,int] -/
def Zbh (s_:List Int):Int→Option (Int⊕Int):=fun i=>
 cond (decide (i<(s_.length:Int))) (
  rq (0≤i∧i<s_.length) <|
  (ZmV (s_.getD i.toNat 0)).bind fun r1_=>
  cond r1_ (
   some (.inr i)) (
   rq (i64 (i+(1:Int))) <|
   some (.inl (i+(1:Int))))) (
  some (.inr (-1:Int)))
def ZcW (s_:List Int):Option Int:=
 loop (Zbh s_) (0:Int)
/-- slices.ContainsFunc[[]int,int] -/
def ZbJ (s_:List Int):Option Bool:=
 (ZcW s_).bind fun r1_=>
 some (decide ((0:Int)≤r1_))
/-- impl.ruleValid$2$1 -/
def Zk5 (n:Int):Option Bool:=
 (Zbr n (0:Int) (3:Int)).bind fun r1_=>
 some (!r1_)
/-- slices.IndexFunc[[]int,int] -/
def Zbb (s_:List Int):Int→Option (Int⊕Int):=fun i=>
 cond (decide (i<(s_.length:Int))) (
  rq (0≤i∧i<s_.length) <|
  (Zk5 (s_.getD i.toNat 0)).bind fun r1_=>
  cond r1_ (
   some (.inr i)) (
   rq (i64 (i+(1:Int))) <|
   some (.inl (i+(1:Int))))) (
  some (.inr (-1:Int)))
def ZcL (s_:List Int):Option Int:=
 loop (Zbb s_) (0:Int)
/-- slices.ContainsFunc[[]int,int] -/
def ZbA (s_:List Int):Option Bool:=
 (ZcL s_).bind fun r1_=>
 some (decide ((0:Int)≤r1_))
/-- impl.ruleValid$2 -/
def ZmW (row:List Int) (o0:Int×(List Int)×(List Int)×Int×(List (List Int))):Option Bool:=
 cond ((row.length:Int) != (o0.2.1.length:Int)) (
  some true) (
  (ZbA row).bind fun r1_=>
  some r1_)
/-- slices.IndexFunc[[][]int,[]int] -/
def Zbc (s_:List (List Int)) (o0:Int×(List Int)×(List Int)×Int×(List (List Int))):Int→Option (Int⊕Int):=fun i=>
 cond (decide (i<(s_.length:Int))) (
  rq (0≤i∧i<s_.length) <|
  (ZmW (s_.getD i.toNat []) o0).bind fun r1_=>
  cond r1_ (
   some (.inr i)) (
   rq (i64 (i+(1:Int))) <|
   some (.inl (i+(1:Int))))) (
  some (.inr (-1:Int)))
def ZcM (s_:List (List Int)) (o0:Int×(List Int)×(List Int)×Int×(List (List Int))):Option Int:=
 loop (Zbc s_ o0) (0:Int)
/-- slices.ContainsFunc[[][]int,[]int] -/
def ZbB (s_:List (List Int)) (o0:Int×(List Int)×(List Int)×Int×(List (List Int))):Option Bool:=
 (ZcM s_ o0).bind fun r1_=>
 some (decide ((0:Int)≤r1_))
/-- impl.ruleValid -/
def Zdl (a0:Int×(List Int)×(List Int)×Int×(List (List Int))):Unit→Option (Int⊕Bool):=fun _=>
 cond (a0.1==(1:Int)) (
  cond ((a0.2.2.1.length:Int)==(a0.2.1.length:Int)) (
   (Zbr a0.2.2.2.1 (-1000:Int) (1000:Int)).bind fun r3_=>
   cond r3_ (
    (ZbJ a0.2.2.1).bind fun r4_=>
    some (.inr (!r4_))) (
    some (.inr false))) (
   some (.inr false))) (
  cond (a0.1==(3:Int)) (
   cond (decide ((a0.2.2.2.2.length:Int)≤(8:Int))) (
    (ZbB a0.2.2.2.2 a0).bind fun r5_=>
    some (.inr (!r5_))) (
    some (.inr false))) (
   cond (a0.1==(4:Int)) (
    some (.inr ((a0.2.1.length:Int)==(2:Int)))) (
    some (.inr (a0.1==(2:Int))))))
def ZhU (a0:Int×(List Int)×(List Int)×Int×(List (List Int))) (a1:Int):Int→Option (Int⊕Bool):=fun i=>
 cond (decide (i<(a0.2.1.length:Int))) (
  rq (0≤i∧i<a0.2.1.length) <|
  rq (i64 (a1 - (1:Int))) <|
  (Zbr (a0.2.1.getD i.toNat 0) (0:Int) (a1 - (1:Int))).bind fun r1_=>
  cond (!r1_) (
   some (.inr false)) (
   rq (0≤i∧i≤a0.2.1.length) <|
   (ZbZ (a0.2.1.take i.toNat) (a0.2.1.getD i.toNat 0)).bind fun r2_=>
   cond r2_ (
    some (.inr false)) (
    rq (i64 (i+(1:Int))) <|
    some (.inl (i+(1:Int)))))) (
  cond ((a0.2.1.length:Int)==(0:Int)) (
   some (.inr false)) (
   cond (a0.1 != (1:Int)) (
    cond (decide ((0:Int)<(a0.2.2.1.length:Int))) (
     some (.inr false)) (
     cond (a0.2.2.2.1 != (0:Int)) (
      some (.inr false)) (
      cond (a0.1 != (3:Int)) (
       cond (decide ((0:Int)<(a0.2.2.2.2.length:Int))) (
        some (.inr false)) (
        Zdl a0 ())) (
       Zdl a0 ())))) (
    cond (a0.1 != (3:Int)) (
     cond (decide ((0:Int)<(a0.2.2.2.2.length:Int))) (
      some (.inr false)) (
      Zdl a0 ())) (
     Zdl a0 ()))))
def Zly (a0:Int×(List Int)×(List Int)×Int×(List (List Int))) (a1:Int):Option Bool:=
 loop (ZhU a0 a1) (0:Int)
/-- impl.ModelValid$1 -/
def ZlX (r_:Int×(List Int)×(List Int)×Int×(List (List Int))) (o0:(List Int)×(List D4_)):Option Bool:=
 (Zly r_ (o0.1.length:Int)).bind fun r1_=>
 some (!r1_)
/-- slices.IndexFunc[[]impl.Rule,impl.Rule] -/
def Z0 (s_:List D4_) (o0:(List Int)×(List D4_)):Int→Option (Int⊕Int):=fun i=>
 cond (decide (i<(s_.length:Int))) (
  rq (0≤i∧i<s_.length) <|
  (ZlX (s_.getD i.toNat (0,([],([],(0,[]))))) o0).bind fun r1_=>
  cond r1_ (
   some (.inr i)) (
   rq (i64 (i+(1:Int))) <|
   some (.inl (i+(1:Int))))) (
  some (.inr (-1:Int)))
def Zca (s_:List D4_) (o0:(List Int)×(List D4_)):Option Int:=
 loop (Z0 s_ o0) (0:Int)
/-- slices.ContainsFunc[[]impl.Rule,impl.Rule] -/
def Zbo (s_:List D4_) (o0:(List Int)×(List D4_)):Option Bool:=
 (Zca s_ o0).bind fun r1_=>
 some (decide ((0:Int)≤r1_))
/-- impl.ModelValid -/
def Zk2 (m:(List Int)×(List D4_)):Int×Int→Option ((Int×Int)⊕Bool):=fun (count,i)=>
 cond (decide (i<(m.1.length:Int))) (
  rq (0≤i∧i<m.1.length) <|
  (Zbr (m.1.getD i.toNat 0) (0:Int) (3:Int)).bind fun r2_=>
  cond (!r2_) (
   some (.inr false)) (
   rq (i64 ((m.1.getD i.toNat 0)+(1:Int))) <|
   rq (i64 (count+((m.1.getD i.toNat 0)+(1:Int)))) <|
   rq (i64 (i+(1:Int))) <|
   some (.inl ((count+((m.1.getD i.toNat 0)+(1:Int))),(i+(1:Int)))))) (
  cond (decide (count≤(12:Int))) (
   (Zbo m.2 m).bind fun r3_=>
   some (.inr (!r3_))) (
   some (.inr false)))
def Ze1 (m:(List Int)×(List D4_)):Option Bool:=
 (Zbr (m.1.length:Int) (1:Int) (5:Int)).bind fun r1_=>
 cond (!r1_) (
  some false) (
  cond (decide ((8:Int)<(m.2.length:Int))) (
   some false) (
   loop (Zk2 m) ((0:Int),(0:Int))))
/-- (impl.Model).boolVar -/
def Zii (m:(List Int)×(List D4_)) (cell:Int):Int×Int→Option ((Int×Int)⊕Int):=fun (v,i)=>
 cond (decide (i<((m.1.take cell.toNat).length:Int))) (
  rq (0≤i∧i<(m.1.take cell.toNat).length) <|
  rq (i64 (((m.1.take cell.toNat).getD i.toNat 0)+(1:Int))) <|
  rq (i64 (v+(((m.1.take cell.toNat).getD i.toNat 0)+(1:Int)))) <|
  rq (i64 (i+(1:Int))) <|
  some (.inl ((v+(((m.1.take cell.toNat).getD i.toNat 0)+(1:Int))),(i+(1:Int))))) (
  some (.inr v))
def ZcD (m:(List Int)×(List D4_)) (cell:Int) (value:Int):Option Int:=
 rq (i64 ((1:Int)+value)) <|
 rq (0≤cell∧cell≤m.1.length) <|
 loop (Zii m cell) (((1:Int)+value),(0:Int))
/-- (impl.Model).varsOf -/
def ZdT (m:(List Int)×(List D4_)) (cell:Int):Int×(List Int)→Option ((Int×(List Int))⊕(List Int)):=fun (i,out)=>
 cond (decide (i<((m.1.getD cell.toNat 0)+(1:Int)))) (
  (ZcD m cell i).bind fun r2_=>
  rq (out.length+[r2_].length≤Zp) <|
  rq (i64 (i+(1:Int))) <|
  some (.inl ((i+(1:Int)),(out++[r2_])))) (
  some (.inr out))
def ZhS (m:(List Int)×(List D4_)) (cell:Int):Option (List Int):=
 rq (0≤cell∧cell<m.1.length) <|
 rq (i64 ((m.1.getD cell.toNat 0)+(1:Int))) <|
 loop (ZdT m cell) ((0:Int),([]:List Int))
/-- impl.isLiteral -/
def ZfX (l:Int):Option Bool:=
 cond (l != (0:Int)) (
  (Zbr l (-12:Int) (12:Int)).bind fun r1_=>
  some r1_) (
  some false)
/-- slices.Clone[[]int,int] -/
def Zcb (s_:List Int):Option (List Int):=
 nt (s_=[]) (
  some ([]:List Int)) (
  rq (([]:List Int).length+s_.length≤Zp) <|
  some (([]:List Int)++s_))
/-- impl.variableOf -/
def Zdm (l:Int):Option Int:=
 rq (i64 (0 - l)) <|
 some (max l (0 - l))
/-- impl.ClauseOf$1 -/
def Zhd (a:Int) (b:Int):Option Int:=
 (Zdm a).bind fun r1_=>
 (Zdm b).bind fun r2_=>
 rq (i64 (r1_ - r2_)) <|
 some (r1_ - r2_)
/-- slices.Compact[[]int,int] -/
def Ziv:Int×(List Int)→Option (Int⊕(List Int)):=fun (k_2,s_2)=>
 rq (0≤k_2∧k_2≤s_2.length) <|
 rq (0≤k_2∧k_2≤(s_2.take k_2.toNat++List.replicate (s_2.length - k_2.toNat) (0:Int)).length) <|
 some (.inr ((s_2.take k_2.toNat++List.replicate (s_2.length - k_2.toNat) (0:Int)).take k_2.toNat))
def Ze4 (k_:Int):Int×Int×(List Int)→Option ((Int×Int×(List Int))⊕(Int⊕(List Int))):=fun (k_1,k2_,s_1)=>
 cond (decide (k2_<((s_1.length:Int) - k_))) (
  rq (0≤k2_∧k_+k2_<s_1.length) <|
  rq (i64 (k2_ - (1:Int))) <|
  rq (0≤(k2_ - (1:Int))∧k_+(k2_ - (1:Int))<s_1.length) <|
  cond ((s_1.getD (k_+k2_).toNat 0) != (s_1.getD (k_+(k2_ - (1:Int))).toNat 0)) (
   rq (0≤k2_∧k_+k2_<s_1.length) <|
   rq (0≤k_1∧k_1<s_1.length) <|
   rq (i64 (k_1+(1:Int))) <|
   rq (i64 (k2_+(1:Int))) <|
   some (.inl ((k_1+(1:Int)),(k2_+(1:Int)),(s_1.set k_1.toNat (s_1.getD (k_+k2_).toNat 0))))) (
   rq (i64 (k2_+(1:Int))) <|
   some (.inl (k_1,(k2_+(1:Int)),s_1)))) (
  up (Ziv (k_1,s_1)))
def Ze3 (s_:List Int):Int→Option (Int⊕(List Int)):=fun k_=>
 cond (decide (k_<(s_.length:Int))) (
  rq (0≤k_∧k_<s_.length) <|
  rq (i64 (k_ - (1:Int))) <|
  rq (0≤(k_ - (1:Int))∧(k_ - (1:Int))<s_.length) <|
  cond ((s_.getD k_.toNat 0)==(s_.getD (k_ - (1:Int)).toNat 0)) (
   rq (0≤k_∧k_≤s_.length) <|
   loop (Ze4 k_) (k_,(1:Int),s_)) (
   rq (i64 (k_+(1:Int))) <|
   some (.inl (k_+(1:Int))))) (
  some (.inr s_))
def Zhm (s_:List Int):Option (List Int):=
 cond (decide ((s_.length:Int)<(2:Int))) (
  some s_) (
  loop (Ze3 s_) (1:Int))
/-- impl.ClauseOf -/
def ZiV (r5_:(List Int)):Int×(List D5_)→Option ((Int×(List D5_))⊕(Int⊕(Bool×Int×(List D5_)))):=fun (i1,c_0)=>
 cond (decide (i1<(r5_.length:Int))) (
  rq (0≤i1∧i1<r5_.length) <|
  rq (c_0.length+[((1:Int),(r5_.getD i1.toNat 0))].length≤Zp) <|
  rq (i64 (i1+(1:Int))) <|
  some (.inl ((i1+(1:Int)),(c_0++[((1:Int),(r5_.getD i1.toNat 0))])))) (
  some (.inr (.inr (true,(1:Int),c_0))))
def ZiU (lits:List Int):Int→Option (Int⊕(Bool×Int×(List D5_))):=fun i=>
 cond (decide (i<(lits.length:Int))) (
  rq (0≤i∧i<lits.length) <|
  (ZfX (lits.getD i.toNat 0)).bind fun r1_=>
  cond (!r1_) (
   some (.inr (false,(0:Int),([]:List D5_)))) (
   rq (i64 (0 - (lits.getD i.toNat 0))) <|
   (ZbZ lits (0 - (lits.getD i.toNat 0))).bind fun r2_=>
   cond r2_ (
    some (.inr (false,(0:Int),([]:List D5_)))) (
    rq (i64 (i+(1:Int))) <|
    some (.inl (i+(1:Int)))))) (
  (Zcb lits).bind fun r3_=>
  (ZxW Zhd r3_).bind fun r4_=>
  (Zhm r4_).bind fun r5_=>
  loop (ZiV r5_) ((0:Int),([]:List D5_)))
def ZjH (lits:List Int):Option (Bool×Int×(List D5_)):=
 cond (decide ((40:Int)<(lits.length:Int))) (
  some (false,(0:Int),([]:List D5_))) (
  loop (ZiU lits) (0:Int))
/-- impl.atMostOne -/
def Zfo (vars:List Int):Int×(List D5_)→Option ((Int×(List D5_))⊕(Int×(List D5_))):=fun (i,c_0)=>
 cond (decide (i<(vars.length:Int))) (
  rq (0≤i∧i<vars.length) <|
  rq (i64 (0 - (vars.getD i.toNat 0))) <|
  rq (c_0.length+[((1:Int),(0 - (vars.getD i.toNat 0)))].length≤Zp) <|
  rq (i64 (i+(1:Int))) <|
  some (.inl ((i+(1:Int)),(c_0++[((1:Int),(0 - (vars.getD i.toNat 0)))])))) (
  some (.inr (((vars.length:Int) - (1:Int)),c_0)))
def Zij (vars:List Int):Option (Int×(List D5_)):=
 rq (i64 ((vars.length:Int) - (1:Int))) <|
 loop (Zfo vars) ((0:Int),([]:List D5_))
/-- impl.ConstraintValid -/
def ZgY (c_:(List D5_)×Int):Int×Int→Option ((Int×Int)⊕Bool):=fun (before,i)=>
 cond (decide (i<(c_.1.length:Int))) (
  rq (0≤i∧i<c_.1.length) <|
  (ZfX (c_.1.getD i.toNat (0,0)).2).bind fun r1_=>
  cond (!r1_) (
   some (.inr false)) (
   (Zdm (c_.1.getD i.toNat (0,0)).2).bind fun r2_=>
   cond (decide (r2_≤before)) (
    some (.inr false)) (
    (Zbr (c_.1.getD i.toNat (0,0)).1 (1:Int) (1000:Int)).bind fun r3_=>
    cond (!r3_) (
     some (.inr false)) (
     (Zdm (c_.1.getD i.toNat (0,0)).2).bind fun r4_=>
     rq (i64 (i+(1:Int))) <|
     some (.inl (r4_,(i+(1:Int)))))))) (
  (Zbr c_.2 (0:Int) (20000:Int)).bind fun r5_=>
  some (.inr r5_))
def ZV (c_:(List D5_)×Int):Option Bool:=
 loop (ZgY c_) ((0:Int),(0:Int))
/-- (impl.Constraint).valid -/
def Zcr (c_1:Int) (o0:List D5_):Option (Bool×Int×(List D5_)):=
 (ZV (o0,c_1)).bind fun r1_=>
 cond (!r1_) (
  some (false,(0:Int),([]:List D5_))) (
  some (true,c_1,o0))
/-- impl.normal -/
def Zlw:Int×(List D5_)→Option (Bool×Int×(List D5_)):=fun (i9,i_03)=>
 (Zcr (max (0:Int) i9) i_03).bind fun r1_=>
 some (r1_.1,r1_.2.1,r1_.2.2)
def Zlx (i5:Int) (i6:Int):Int×(List D5_)→Option ((Int×Int×(List D5_))⊕(Bool×Int×(List D5_))):=fun (i8,i_02)=>
 rq (i64 (i5 - i8)) <|
 rq (i64 (i6+(1:Int))) <|
 some (.inl ((i5 - i8),(i6+(1:Int)),i_02))
def Zeq (i4:List Int):Int×Int×(List D5_)→Option ((Int×Int×(List D5_))⊕(Bool×Int×(List D5_))):=fun (i5,i6,i_01)=>
 cond (decide (i6<(13:Int))) (
  rq ((0≤i6∧i6<13)∧13≤[(i4.getD 0 0),(i4.getD 1 0),(i4.getD 2 0),(i4.getD 3 0),(i4.getD 4 0),(i4.getD 5 0),(i4.getD 6 0),(i4.getD 7 0),(i4.getD 8 0),(i4.getD 9 0),(i4.getD 10 0),(i4.getD 11 0),(i4.getD 12 0)].length) <|
  cond (decide ((0:Int)<([(i4.getD 0 0),(i4.getD 1 0),(i4.getD 2 0),(i4.getD 3 0),(i4.getD 4 0),(i4.getD 5 0),(i4.getD 6 0),(i4.getD 7 0),(i4.getD 8 0),(i4.getD 9 0),(i4.getD 10 0),(i4.getD 11 0),(i4.getD 12 0)].getD i6.toNat 0))) (
   rq (i_01.length+[(([(i4.getD 0 0),(i4.getD 1 0),(i4.getD 2 0),(i4.getD 3 0),(i4.getD 4 0),(i4.getD 5 0),(i4.getD 6 0),(i4.getD 7 0),(i4.getD 8 0),(i4.getD 9 0),(i4.getD 10 0),(i4.getD 11 0),(i4.getD 12 0)].getD i6.toNat 0),i6)].length≤Zp) <|
   rq (i64 (i6+(1:Int))) <|
   some (.inl (i5,(i6+(1:Int)),(i_01++[(([(i4.getD 0 0),(i4.getD 1 0),(i4.getD 2 0),(i4.getD 3 0),(i4.getD 4 0),(i4.getD 5 0),(i4.getD 6 0),(i4.getD 7 0),(i4.getD 8 0),(i4.getD 9 0),(i4.getD 10 0),(i4.getD 11 0),(i4.getD 12 0)].getD i6.toNat 0),i6)])))) (
   cond (decide (([(i4.getD 0 0),(i4.getD 1 0),(i4.getD 2 0),(i4.getD 3 0),(i4.getD 4 0),(i4.getD 5 0),(i4.getD 6 0),(i4.getD 7 0),(i4.getD 8 0),(i4.getD 9 0),(i4.getD 10 0),(i4.getD 11 0),(i4.getD 12 0)].getD i6.toNat 0)<(0:Int))) (
    rq (i64 (0 - ([(i4.getD 0 0),(i4.getD 1 0),(i4.getD 2 0),(i4.getD 3 0),(i4.getD 4 0),(i4.getD 5 0),(i4.getD 6 0),(i4.getD 7 0),(i4.getD 8 0),(i4.getD 9 0),(i4.getD 10 0),(i4.getD 11 0),(i4.getD 12 0)].getD i6.toNat 0))) <|
    rq (i64 (0 - i6)) <|
    rq (i_01.length+[((0 - ([(i4.getD 0 0),(i4.getD 1 0),(i4.getD 2 0),(i4.getD 3 0),(i4.getD 4 0),(i4.getD 5 0),(i4.getD 6 0),(i4.getD 7 0),(i4.getD 8 0),(i4.getD 9 0),(i4.getD 10 0),(i4.getD 11 0),(i4.getD 12 0)].getD i6.toNat 0)),(0 - i6))].length≤Zp) <|
    Zlx i5 i6 (([(i4.getD 0 0),(i4.getD 1 0),(i4.getD 2 0),(i4.getD 3 0),(i4.getD 4 0),(i4.getD 5 0),(i4.getD 6 0),(i4.getD 7 0),(i4.getD 8 0),(i4.getD 9 0),(i4.getD 10 0),(i4.getD 11 0),(i4.getD 12 0)].getD i6.toNat 0),(i_01++[((0 - ([(i4.getD 0 0),(i4.getD 1 0),(i4.getD 2 0),(i4.getD 3 0),(i4.getD 4 0),(i4.getD 5 0),(i4.getD 6 0),(i4.getD 7 0),(i4.getD 8 0),(i4.getD 9 0),(i4.getD 10 0),(i4.getD 11 0),(i4.getD 12 0)].getD i6.toNat 0)),(0 - i6))]))) (
    rq (i64 (i6+(1:Int))) <|
    some (.inl (i5,(i6+(1:Int)),i_01))))) (
  up (Zlw (i5,i_01)))
def Zik:Int×(List Int)→Option (Bool×Int×(List D5_)):=fun (i3,i4)=>
 rq ((0:Int)=0∧0=0∧13≤i4.length) <|
 loop (Zeq i4) (i3,(0:Int),([]:List D5_))
def ZfY (a0:List D5_):Int×Int×(List Int)→Option ((Int×Int×(List Int))⊕(Bool×Int×(List D5_))):=fun (i,i1,i2)=>
 cond (decide (i1<(a0.length:Int))) (
  rq (0≤i1∧i1<a0.length) <|
  cond (decide ((a0.getD i1.toNat (0,0)).2<(0:Int))) (
   rq (i64 (i - (a0.getD i1.toNat (0,0)).1)) <|
   rq (i64 (0 - (a0.getD i1.toNat (0,0)).2)) <|
   rq ((0:Int)=0∧(0≤(0 - (a0.getD i1.toNat (0,0)).2)∧(0 - (a0.getD i1.toNat (0,0)).2)<13)∧13≤i2.length) <|
   rq (i64 ((i2.getD (0 - (a0.getD i1.toNat (0,0)).2).toNat 0) - (a0.getD i1.toNat (0,0)).1)) <|
   rq ((0:Int)=0∧(0≤(0 - (a0.getD i1.toNat (0,0)).2)∧(0 - (a0.getD i1.toNat (0,0)).2)<13)∧13≤i2.length) <|
   rq (i64 (i1+(1:Int))) <|
   some (.inl ((i - (a0.getD i1.toNat (0,0)).1),(i1+(1:Int)),(i2.set (0 - (a0.getD i1.toNat (0,0)).2).toNat ((i2.getD (0 - (a0.getD i1.toNat (0,0)).2).toNat 0) - (a0.getD i1.toNat (0,0)).1))))) (
   rq ((0:Int)=0∧(0≤(a0.getD i1.toNat (0,0)).2∧(a0.getD i1.toNat (0,0)).2<13)∧13≤i2.length) <|
   rq (i64 ((i2.getD (a0.getD i1.toNat (0,0)).2.toNat 0)+(a0.getD i1.toNat (0,0)).1)) <|
   rq ((0:Int)=0∧(0≤(a0.getD i1.toNat (0,0)).2∧(a0.getD i1.toNat (0,0)).2<13)∧13≤i2.length) <|
   rq (i64 (i1+(1:Int))) <|
   some (.inl (i,(i1+(1:Int)),(i2.set (a0.getD i1.toNat (0,0)).2.toNat ((i2.getD (a0.getD i1.toNat (0,0)).2.toNat 0)+(a0.getD i1.toNat (0,0)).1)))))) (
  up (Zik (i,i2)))
def ZfU (a0:List D5_) (a1:Int):Option (Bool×Int×(List D5_)):=
 loop (ZfY a0) (a1,(0:Int),(List.replicate 13 0))
/-- slices.Equal[[]int,int] -/
def ZgD (s1_:List Int) (s2_:List Int):Int→Option (Int⊕Bool):=fun i=>
 cond (decide (i<(s1_.length:Int))) (
  rq (0≤i∧i<s1_.length) <|
  rq (0≤i∧i<s2_.length) <|
  cond ((s1_.getD i.toNat 0) != (s2_.getD i.toNat 0)) (
   some (.inr false)) (
   rq (i64 (i+(1:Int))) <|
   some (.inl (i+(1:Int))))) (
  some (.inr true))
def Zi5 (s1_:List Int) (s2_:List Int):Option Bool:=
 cond ((s1_.length:Int) != (s2_.length:Int)) (
  some false) (
  loop (ZgD s1_ s2_) (0:Int))
/-- (impl.Rule).holds$1 -/
def ZlY (row:List Int) (o0:List Int):Option Bool:=
 (Zi5 row o0).bind fun r1_=>
 some r1_
/-- slices.IndexFunc[[][]int,[]int] -/
def Z9 (s_:List (List Int)) (o0:List Int):Int→Option (Int⊕Int):=fun i=>
 cond (decide (i<(s_.length:Int))) (
  rq (0≤i∧i<s_.length) <|
  (ZlY (s_.getD i.toNat []) o0).bind fun r1_=>
  cond r1_ (
   some (.inr i)) (
   rq (i64 (i+(1:Int))) <|
   some (.inl (i+(1:Int))))) (
  some (.inr (-1:Int)))
def ZcA (s_:List (List Int)) (o0:List Int):Option Int:=
 loop (Z9 s_ o0) (0:Int)
/-- slices.ContainsFunc[[][]int,[]int] -/
def Zcc (s_:List (List Int)) (o0:List Int):Option Bool:=
 (ZcA s_ o0).bind fun r1_=>
 some (decide ((0:Int)≤r1_))
/-- (impl.Rule).holds -/
def Zk3 (r_:Int×(List Int)×(List Int)×Int×(List (List Int))) (vals:List Int):Int×Int→Option ((Int×Int)⊕Bool):=fun (sum,i)=>
 cond (decide (i<(vals.length:Int))) (
  rq (0≤i∧i<vals.length) <|
  rq (0≤i∧i<r_.2.2.1.length) <|
  rq (i64 ((r_.2.2.1.getD i.toNat 0)*(vals.getD i.toNat 0))) <|
  rq (i64 (sum+((r_.2.2.1.getD i.toNat 0)*(vals.getD i.toNat 0)))) <|
  rq (i64 (i+(1:Int))) <|
  some (.inl ((sum+((r_.2.2.1.getD i.toNat 0)*(vals.getD i.toNat 0))),(i+(1:Int))))) (
  some (.inr (decide (r_.2.2.2.1≤sum))))
def ZeO (vals:List Int):Int→Option (Int⊕Bool):=fun i1=>
 cond (decide (i1<(vals.length:Int))) (
  rq (0≤i1∧i1<vals.length) <|
  rq (0≤i1∧i1≤vals.length) <|
  (ZbZ (vals.take i1.toNat) (vals.getD i1.toNat 0)).bind fun r1_=>
  cond r1_ (
   some (.inr false)) (
   rq (i64 (i1+(1:Int))) <|
   some (.inl (i1+(1:Int))))) (
  some (.inr true))
def Zhe (r_:Int×(List Int)×(List Int)×Int×(List (List Int))) (vals:List Int):Option Bool:=
 cond (r_.1==(1:Int)) (
  loop (Zk3 r_ vals) ((0:Int),(0:Int))) (
  cond (r_.1==(2:Int)) (
   loop (ZeO vals) (0:Int)) (
   cond (r_.1==(3:Int)) (
    (Zcc r_.2.2.2.2 vals).bind fun r2_=>
    some r2_) (
    rq (0≤(0:Int)∧(0:Int)<vals.length) <|
    rq (0≤(1:Int)∧(1:Int)<vals.length) <|
    some (decide ((vals.getD (0:Int).toNat 0)<(vals.getD (1:Int).toNat 0))))))
/-- (impl.Model).encodeRule$1 -/
def ZbR (o4:List D6_):(List Int)→Option (Bool×(List D6_)):=fun lits1=>
 (ZjH lits1).bind fun r5_=>
 rq (o4.length+[(r5_.2.2,r5_.2.1)].length≤Zp) <|
 some (true,(o4++[(r5_.2.2,r5_.2.1)]))
def ZbS (o0:Int×(List Int)×(List Int)×Int×(List (List Int))) (o1:(List Int)×(List D4_)) (vals:List Int) (o4:List D6_):Int×(List Int)→Option ((Int×(List Int))⊕(Bool×(List D6_))):=fun (i,lits)=>
 cond (decide (i<(o0.2.1.length:Int))) (
  rq (0≤i∧i<o0.2.1.length) <|
  rq (0≤i∧i<vals.length) <|
  (ZcD o1 (o0.2.1.getD i.toNat 0) (vals.getD i.toNat 0)).bind fun r4_=>
  rq (i64 (0 - r4_)) <|
  rq (lits.length+[(0 - r4_)].length≤Zp) <|
  rq (i64 (i+(1:Int))) <|
  some (.inl ((i+(1:Int)),(lits++[(0 - r4_)])))) (
  up (ZbR o4 lits))
def ZcY (o0:Int×(List Int)×(List Int)×Int×(List (List Int))) (o1:(List Int)×(List D4_)) (vals:List Int) (o4:List D6_):Option (Bool×(List D6_)):=
 (Zhe o0 vals).bind fun r1_=>
 cond (!r1_) (
  loop (ZbS o0 o1 vals o4) ((0:Int),([]:List Int))) (
  some (true,o4))
/-- impl.each -/
def Zbx (r3_:Bool×(List D6_)):Int×(List Int)→Option (((List Int)×(List D6_))⊕(List D6_)):=fun (i3,cells4)=>
 cond (decide (i3<(0:Int))) (
  some (.inr r3_.2)) (
  rq (0≤i3∧i3<cells4.length) <|
  rq (i64 ((cells4.getD i3.toNat 0)+(1:Int))) <|
  rq (0≤i3∧i3<cells4.length) <|
  some (.inl ((cells4.set i3.toNat ((cells4.getD i3.toNat 0)+(1:Int))),r3_.2)))
def Zcf (sizes:List Int) (r3_:Bool×(List D6_)):Int×(List Int)→Option ((Int×(List Int))⊕(((List Int)×(List D6_))⊕(List D6_))):=fun (i2,cells3)=>
 cond (decide ((0:Int)≤i2)) (
  rq (0≤i2∧i2<cells3.length) <|
  rq (0≤i2∧i2<sizes.length) <|
  cond ((cells3.getD i2.toNat 0)==(sizes.getD i2.toNat 0)) (
   rq (0≤i2∧i2<cells3.length) <|
   rq (i64 (i2 - (1:Int))) <|
   some (.inl ((i2 - (1:Int)),(cells3.set i2.toNat (0:Int))))) (
   up (Zbx r3_ (i2,cells3)))) (
  up (Zbx r3_ (i2,cells3)))
def Zby (sizes:List Int) (o0:Int×(List Int)×(List Int)×Int×(List (List Int))) (o1:(List Int)×(List D4_)):(List Int)×(List D6_)→Option (((List Int)×(List D6_))⊕(List D6_)):=fun (cells2,cap)=>
 (ZcY o0 o1 cells2 cap).bind fun r3_=>
 cond r3_.1 (
  rq (i64 ((cells2.length:Int) - (1:Int))) <|
  loop (Zcf sizes r3_) (((cells2.length:Int) - (1:Int)),cells2)) (
  some (.inr r3_.2))
def ZbP (sizes:List Int) (from_:List Int) (o0:Int×(List Int)×(List Int)×Int×(List (List Int))) (o1:(List Int)×(List D4_)):Option (List D6_):=
 (Zcb from_).bind fun r1_=>
 loop (Zby sizes o0 o1) (r1_,([]:List D6_))
/-- (impl.Model).encodeRule -/
def ZdS (a1:Int×(List Int)×(List Int)×Int×(List (List Int))):(List D5_)→Option (List D6_):=fun i6=>
 (ZfU i6 a1.2.2.2.1).bind fun r6_=>
 some [(r6_.2.2,r6_.2.1)]
def Zcs (a0:(List Int)×(List D4_)) (a1:Int×(List Int)×(List Int)×Int×(List (List Int))) (i:Int):Int×(List D5_)→Option ((Int×(List D5_))⊕((Int×(List D5_))⊕(List D6_))):=fun (i4,i5)=>
 cond (decide (i4<((a0.1.getD (a1.2.1.getD i.toNat 0).toNat 0)+(1:Int)))) (
  rq (0≤i∧i<a1.2.2.1.length) <|
  rq (i64 ((a1.2.2.1.getD i.toNat 0)*i4)) <|
  (ZcD a0 (a1.2.1.getD i.toNat 0) i4).bind fun r5_=>
  rq (i5.length+[(((a1.2.2.1.getD i.toNat 0)*i4),r5_)].length≤Zp) <|
  rq (i64 (i4+(1:Int))) <|
  some (.inl ((i4+(1:Int)),(i5++[(((a1.2.2.1.getD i.toNat 0)*i4),r5_)])))) (
  rq (i64 (i+(1:Int))) <|
  some (.inr (.inl ((i+(1:Int)),i5))))
def Zgb (a0:(List Int)×(List D4_)) (a1:Int×(List Int)×(List Int)×Int×(List (List Int))):Int×(List D5_)→Option ((Int×(List D5_))⊕(List D6_)):=fun (i,i3)=>
 cond (decide (i<(a1.2.1.length:Int))) (
  rq (0≤i∧i<a1.2.1.length) <|
  rq (0≤(a1.2.1.getD i.toNat 0)∧(a1.2.1.getD i.toNat 0)<a0.1.length) <|
  rq (i64 ((a0.1.getD (a1.2.1.getD i.toNat 0).toNat 0)+(1:Int))) <|
  loop (Zcs a0 a1 i) ((0:Int),i3)) (
  up (ZdS a1 i3))
def Zc5 (i7:Int) (i11:List D6_):(List Int)→Option ((Int×(List D6_))⊕(List D6_)):=fun i14=>
 cond (decide ((1:Int)<(i14.length:Int))) (
  (ZDU i14).bind fun r14_=>
  (Zij r14_).bind fun r15_=>
  rq (i11.length+[(r15_.2,r15_.1)].length≤Zp) <|
  rq (i64 (i7+(1:Int))) <|
  some (.inl ((i7+(1:Int)),(i11++[(r15_.2,r15_.1)])))) (
  rq (i64 (i7+(1:Int))) <|
  some (.inl ((i7+(1:Int)),i11)))
def Zc7 (a0:(List Int)×(List D4_)) (a1:Int×(List Int)×(List Int)×Int×(List (List Int))) (i7:Int) (i11:List D6_):Int×(List Int)→Option ((Int×(List Int))⊕((Int×(List D6_))⊕(List D6_))):=fun (i12,i13)=>
 cond (decide (i12<(a1.2.1.length:Int))) (
  rq (0≤i12∧i12<a1.2.1.length) <|
  rq (0≤(a1.2.1.getD i12.toNat 0)∧(a1.2.1.getD i12.toNat 0)<a0.1.length) <|
  cond (decide (i7≤(a0.1.getD (a1.2.1.getD i12.toNat 0).toNat 0))) (
   (ZcD a0 (a1.2.1.getD i12.toNat 0) i7).bind fun r13_=>
   rq (i13.length+[r13_].length≤Zp) <|
   rq (i64 (i12+(1:Int))) <|
   some (.inl ((i12+(1:Int)),(i13++[r13_])))) (
   rq (i64 (i12+(1:Int))) <|
   some (.inl ((i12+(1:Int)),i13)))) (
  up (Zc5 i7 i11 i13))
def Zgc (a0:(List Int)×(List D4_)) (a1:Int×(List Int)×(List Int)×Int×(List (List Int))):Int×(List D6_)→Option ((Int×(List D6_))⊕(List D6_)):=fun (i7,i11)=>
 cond (decide (i7<(4:Int))) (
  loop (Zc7 a0 a1 i7 i11) ((0:Int),([]:List Int))) (
  some (.inr i11))
def Zc6 (a0:(List Int)×(List D4_)) (a1:Int×(List Int)×(List Int)×Int×(List (List Int))):(List Int)→Option (List D6_):=fun i17=>
 rq (0≤(i17.length:Int)∧(i17.length:Int)≤Zp∧(i17.length:Int)=(i17.length:Int)) <|
 (ZbP i17 (List.replicate (i17.length:Int).toNat 0) a1 a0).bind fun r16_=>
 some r16_
def Zc8 (a0:(List Int)×(List D4_)) (a1:Int×(List Int)×(List Int)×Int×(List (List Int))):Int×(List Int)→Option ((Int×(List Int))⊕(List D6_)):=fun (i15,i16)=>
 cond (decide (i15<(a1.2.1.length:Int))) (
  rq (0≤i15∧i15<a1.2.1.length) <|
  rq (0≤(a1.2.1.getD i15.toNat 0)∧(a1.2.1.getD i15.toNat 0)<a0.1.length) <|
  rq (i16.length+[(a0.1.getD (a1.2.1.getD i15.toNat 0).toNat 0)].length≤Zp) <|
  rq (i64 (i15+(1:Int))) <|
  some (.inl ((i15+(1:Int)),(i16++[(a0.1.getD (a1.2.1.getD i15.toNat 0).toNat 0)])))) (
  up (Zc6 a0 a1 i16))
def ZbD (a0:(List Int)×(List D4_)) (a1:Int×(List Int)×(List Int)×Int×(List (List Int))):Option (List D6_):=
 cond (a1.1==(1:Int)) (
  loop (Zgb a0 a1) ((0:Int),([]:List D5_))) (
  cond (a1.1==(2:Int)) (
   loop (Zgc a0 a1) ((0:Int),([]:List D6_))) (
   loop (Zc8 a0 a1) ((0:Int),([]:List Int))))
/-- impl.EncodeModel -/
def Zgz:(List D6_)→Option (Bool×(List D6_)):=fun out3=>
 cond (decide ((400:Int)<(out3.length:Int))) (
  some (false,([]:List D6_))) (
  some (true,out3))
def ZgA (m:(List Int)×(List D4_)):Int×(List D6_)→Option ((Int×(List D6_))⊕(Bool×(List D6_))):=fun (i1,out2)=>
 cond (decide (i1<(m.2.length:Int))) (
  rq (0≤i1∧i1<m.2.length) <|
  (ZbD m (m.2.getD i1.toNat (0,([],([],(0,[])))))).bind fun r10_=>
  rq (out2.length+r10_.length≤Zp) <|
  rq (i64 (i1+(1:Int))) <|
  some (.inl ((i1+(1:Int)),(out2++r10_)))) (
  up (Zgz out2))
def Zgy (m:(List Int)×(List D4_)):(List D6_)→Option (Bool×(List D6_)):=fun out1=>
 loop (ZgA m) ((0:Int),out1)
def ZgB (m:(List Int)×(List D4_)):Int×(List D6_)→Option ((Int×(List D6_))⊕(Bool×(List D6_))):=fun (i,out)=>
 cond (decide (i<(m.1.length:Int))) (
  (ZhS m i).bind fun r6_=>
  (ZjH r6_).bind fun r7_=>
  (Zij r6_).bind fun r8_=>
  rq (out.length+[(r7_.2.2,r7_.2.1),(r8_.2,r8_.1)].length≤Zp) <|
  rq (i64 (i+(1:Int))) <|
  some (.inl ((i+(1:Int)),(out++[(r7_.2.2,r7_.2.1),(r8_.2,r8_.1)])))) (
  up (Zgy m out))
def ZiW (m:(List Int)×(List D4_)):Option (Bool×(List D6_)):=
 (Ze1 m).bind fun r1_=>
 cond (!r1_) (
  some (false,([]:List D6_))) (
  loop (ZgB m) ((0:Int),([]:List D6_)))
/-- impl.encoded -/
def ZrS (m:(List Int)×(List D4_)):Option (Bool×(List D6_)):=
 (ZiW m).bind fun r1_=>
 cond r1_.1 (
  some ((decide ((r1_.2.length:Int)<(400:Int))),r1_.2)) (
  some (false,r1_.2))
/-- impl.CellsValid -/
def Zhc (m:(List Int)×(List D4_)) (cells:List Int):Int→Option (Int⊕Bool):=fun i=>
 cond (decide (i<(cells.length:Int))) (
  rq (0≤i∧i<cells.length) <|
  rq (0≤i∧i<m.1.length) <|
  (Zbr (cells.getD i.toNat 0) (0:Int) (m.1.getD i.toNat 0)).bind fun r2_=>
  cond (!r2_) (
   some (.inr false)) (
   rq (i64 (i+(1:Int))) <|
   some (.inl (i+(1:Int))))) (
  some (.inr true))
def Zkk (m:(List Int)×(List D4_)) (cells:List Int):Option Bool:=
 (Ze1 m).bind fun r1_=>
 cond (!r1_) (
  some false) (
  cond ((cells.length:Int) != (m.1.length:Int)) (
   some false) (
   loop (Zhc m cells) (0:Int)))
/-- (impl.Rule).at -/
def ZnL (r_:Int×(List Int)×(List Int)×Int×(List (List Int))):(List Int)→Option Bool:=fun vals1=>
 (Zhe r_ vals1).bind fun r1_=>
 some r1_
def Zkl (r_:Int×(List Int)×(List Int)×Int×(List (List Int))) (cells:List Int):Int×(List Int)→Option ((Int×(List Int))⊕Bool):=fun (i,vals)=>
 cond (decide (i<(r_.2.1.length:Int))) (
  rq (0≤i∧i<r_.2.1.length) <|
  rq (0≤(r_.2.1.getD i.toNat 0)∧(r_.2.1.getD i.toNat 0)<cells.length) <|
  rq (vals.length+[(cells.getD (r_.2.1.getD i.toNat 0).toNat 0)].length≤Zp) <|
  rq (i64 (i+(1:Int))) <|
  some (.inl ((i+(1:Int)),(vals++[(cells.getD (r_.2.1.getD i.toNat 0).toNat 0)])))) (
  up (ZnL r_ vals))
def ZnK (r_:Int×(List Int)×(List Int)×Int×(List (List Int))) (cells:List Int):Option Bool:=
 loop (Zkl r_ cells) ((0:Int),([]:List Int))
/-- (impl.Model).solves$1 -/
def Zj6 (r_:Int×(List Int)×(List Int)×Int×(List (List Int))) (o0:List Int):Option Bool:=
 (ZnK r_ o0).bind fun r1_=>
 some (!r1_)
/-- slices.IndexFunc[[]impl.Rule,impl.Rule] -/
def ZX (s_:List D4_) (o0:List Int):Int→Option (Int⊕Int):=fun i=>
 cond (decide (i<(s_.length:Int))) (
  rq (0≤i∧i<s_.length) <|
  (Zj6 (s_.getD i.toNat (0,([],([],(0,[]))))) o0).bind fun r1_=>
  cond r1_ (
   some (.inr i)) (
   rq (i64 (i+(1:Int))) <|
   some (.inl (i+(1:Int))))) (
  some (.inr (-1:Int)))
def Zb1 (s_:List D4_) (o0:List Int):Option Int:=
 loop (ZX s_ o0) (0:Int)
/-- slices.ContainsFunc[[]impl.Rule,impl.Rule] -/
def ZbQ (s_:List D4_) (o0:List Int):Option Bool:=
 (Zb1 s_ o0).bind fun r1_=>
 some (decide ((0:Int)≤r1_))
/-- (impl.Model).solves -/
def ZhR (m:(List Int)×(List D4_)) (cells:List Int):Option Bool:=
 (ZbQ m.2 cells).bind fun r1_=>
 some (!r1_)
/-- impl.SolvesModel -/
def ZiX (m:(List Int)×(List D4_)) (cells:List Int):Option Bool:=
 (Zkk m cells).bind fun r1_=>
 cond r1_ (
  (ZhR m cells).bind fun r2_=>
  some r2_) (
  some false)
/-- impl.isObjective$1 -/
def Zk4 (n:Int):Option Bool:=
 (Zbr n (-9:Int) (9:Int)).bind fun r1_=>
 some (!r1_)
/-- slices.IndexFunc[[]int,int] -/
def Zba (s_:List Int):Int→Option (Int⊕Int):=fun i=>
 cond (decide (i<(s_.length:Int))) (
  rq (0≤i∧i<s_.length) <|
  (Zk4 (s_.getD i.toNat 0)).bind fun r1_=>
  cond r1_ (
   some (.inr i)) (
   rq (i64 (i+(1:Int))) <|
   some (.inl (i+(1:Int))))) (
  some (.inr (-1:Int)))
def ZcK (s_:List Int):Option Int:=
 loop (Zba s_) (0:Int)
/-- slices.ContainsFunc[[]int,int] -/
def Zcg (s_:List Int):Option Bool:=
 (ZcK s_).bind fun r1_=>
 some (decide ((0:Int)≤r1_))
/-- impl.isObjective -/
def Zgd (m:(List Int)×(List D4_)) (coefs:List Int):Option Bool:=
 cond ((coefs.length:Int)==(m.1.length:Int)) (
  (Zcg coefs).bind fun r1_=>
  some (!r1_)) (
  some false)
/-- impl.valueOf -/
def ZnP (coefs:List Int) (cells:List Int):Int×Int→Option ((Int×Int)⊕Int):=fun (sum,i)=>
 cond (decide (i<(cells.length:Int))) (
  rq (0≤i∧i<cells.length) <|
  rq (0≤i∧i<coefs.length) <|
  rq (i64 ((coefs.getD i.toNat 0)*(cells.getD i.toNat 0))) <|
  rq (i64 (sum+((coefs.getD i.toNat 0)*(cells.getD i.toNat 0)))) <|
  rq (i64 (i+(1:Int))) <|
  some (.inl ((sum+((coefs.getD i.toNat 0)*(cells.getD i.toNat 0))),(i+(1:Int))))) (
  some (.inr sum))
def ZnO (coefs:List Int) (cells:List Int):Option Int:=
 loop (ZnP coefs cells) ((0:Int),(0:Int))
/-- impl.AtMostConstraint -/
def Zga (most:Int):(List D5_)→Option (Bool×Int×(List D5_)):=fun terms3=>
 rq (i64 (0 - most)) <|
 (ZfU terms3 (0 - most)).bind fun r9_=>
 some (r9_.1,r9_.2.1,r9_.2.2)
def ZdN (m:(List Int)×(List D4_)) (coefs:List Int) (i:Int):Int×(List D5_)→Option ((Int×(List D5_))⊕((Int×(List D5_))⊕(Bool×Int×(List D5_)))):=fun (i2,terms2)=>
 cond (decide (i2<((m.1.getD i.toNat 0)+(1:Int)))) (
  rq (0≤i∧i<coefs.length) <|
  rq (i64 (0 - (coefs.getD i.toNat 0))) <|
  rq (i64 ((0 - (coefs.getD i.toNat 0))*i2)) <|
  (ZcD m i i2).bind fun r8_=>
  rq (terms2.length+[(((0 - (coefs.getD i.toNat 0))*i2),r8_)].length≤Zp) <|
  rq (i64 (i2+(1:Int))) <|
  some (.inl ((i2+(1:Int)),(terms2++[(((0 - (coefs.getD i.toNat 0))*i2),r8_)])))) (
  rq (i64 (i+(1:Int))) <|
  some (.inr (.inl ((i+(1:Int)),terms2))))
def ZdM (m:(List Int)×(List D4_)) (coefs:List Int) (most:Int):Int×(List D5_)→Option ((Int×(List D5_))⊕(Bool×Int×(List D5_))):=fun (i,terms1)=>
 cond (decide (i<(m.1.length:Int))) (
  rq (0≤i∧i<m.1.length) <|
  rq (i64 ((m.1.getD i.toNat 0)+(1:Int))) <|
  loop (ZdN m coefs i) ((0:Int),terms1)) (
  up (Zga most terms1))
def ZeZ (m:(List Int)×(List D4_)) (coefs:List Int) (most:Int):Option (Bool×Int×(List D5_)):=
 (Ze1 m).bind fun r1_=>
 cond (!r1_) (
  some (false,(0:Int),([]:List D5_))) (
  (Zgd m coefs).bind fun r2_=>
  cond (!r2_) (
   some (false,(0:Int),([]:List D5_))) (
   (Zbr most (-1000:Int) (1000:Int)).bind fun r3_=>
   cond (!r3_) (
    some (false,(0:Int),([]:List D5_))) (
    loop (ZdM m coefs most) ((0:Int),([]:List D5_)))))
/-- slices.Clone[[]impl.Constraint,impl.Constraint] -/
def ZbU (s_:List D6_):Option (List D6_):=
 nt (s_=[]) (
  some ([]:List D6_)) (
  rq (([]:List D6_).length+s_.length≤Zp) <|
  some (([]:List D6_)++s_))
/-- impl.allValid$1 -/
def ZnM (c_:(List D5_)×Int):Option Bool:=
 (ZV c_).bind fun r1_=>
 some (!r1_)
/-- slices.IndexFunc[[]impl.Constraint,impl.Constraint] -/
def ZS (s_:List D6_):Int→Option (Int⊕Int):=fun i=>
 cond (decide (i<(s_.length:Int))) (
  rq (0≤i∧i<s_.length) <|
  (ZnM (s_.getD i.toNat ([],0))).bind fun r1_=>
  cond r1_ (
   some (.inr i)) (
   rq (i64 (i+(1:Int))) <|
   some (.inl (i+(1:Int))))) (
  some (.inr (-1:Int)))
def ZbV (s_:List D6_):Option Int:=
 loop (ZS s_) (0:Int)
/-- slices.ContainsFunc[[]impl.Constraint,impl.Constraint] -/
def ZbI (s_:List D6_):Option Bool:=
 (ZbV s_).bind fun r1_=>
 some (decide ((0:Int)≤r1_))
/-- impl.allValid -/
def Zqn (list_:List D6_):Option Bool:=
 (ZbI list_).bind fun r1_=>
 some (!r1_)
/-- impl.ProblemValid -/
def ZhT (list_:List D6_):Option Bool:=
 cond (decide ((list_.length:Int)≤(400:Int))) (
  (Zqn list_).bind fun r1_=>
  some r1_) (
  some false)
/-- impl.refers -/
def Zmp (kind:Int):Option (Int×Bool):=
 cond (kind==(1:Int)) (
  some ((2:Int),false)) (
  cond (kind==(2:Int)) (
   some ((1:Int),true)) (
   cond (kind==(3:Int)) (
    some ((1:Int),true)) (
    cond (kind==(5:Int)) (
     some ((1:Int),true)) (
     cond (kind==(4:Int)) (
      some ((1:Int),false)) (
      cond (kind==(8:Int)) (
       some ((1:Int),false)) (
       cond (kind==(6:Int)) (
        some ((0:Int),false)) (
        cond (kind==(7:Int)) (
         some ((0:Int),false)) (
         some ((-1:Int),false)))))))))
/-- slices.Equal[[]impl.Term,impl.Term] -/
def ZfO (s1_:List D5_) (s2_:List D5_):Int→Option (Int⊕Bool):=fun i=>
 cond (decide (i<(s1_.length:Int))) (
  rq (0≤i∧i<s1_.length) <|
  rq (0≤i∧i<s2_.length) <|
  cond (!((s1_.getD i.toNat (0,0)).1==(s2_.getD i.toNat (0,0)).1&&(s1_.getD i.toNat (0,0)).2==(s2_.getD i.toNat (0,0)).2)) (
   some (.inr false)) (
   rq (i64 (i+(1:Int))) <|
   some (.inl (i+(1:Int))))) (
  some (.inr true))
def Zez (s1_:List D5_) (s2_:List D5_):Option Bool:=
 cond ((s1_.length:Int) != (s2_.length:Int)) (
  some false) (
  loop (ZfO s1_ s2_) (0:Int))
/-- impl.ConstraintSame -/
def Zbg (a:(List D5_)×Int) (b:(List D5_)×Int):Option Bool:=
 cond (a.2==b.2) (
  (Zez a.1 b.1).bind fun r1_=>
  some r1_) (
  some false)
/-- (impl.Step).shaped -/
def ZiY (s_:Int×Int×Int×(List D5_)×Int):Option Bool:=
 (Zmp s_.1).bind fun r1_=>
 cond (decide ((0:Int)≤r1_.1)) (
  cond (decide ((0:Int)<r1_.1)) (
   cond (r1_.1==(2:Int)) (
    cond (s_.1==(7:Int)) (
     some true) (
     (Zbg s_.2.2.2 (([]:List D5_),(0:Int))).bind fun r10_=>
     some r10_)) (
    cond r1_.2 (
     cond (s_.1==(7:Int)) (
      some true) (
      (Zbg s_.2.2.2 (([]:List D5_),(0:Int))).bind fun r9_=>
      some r9_)) (
     cond (s_.2.2.1==(0:Int)) (
      cond (s_.1==(7:Int)) (
       some true) (
       (Zbg s_.2.2.2 (([]:List D5_),(0:Int))).bind fun r8_=>
       some r8_)) (
      some false)))) (
   cond (s_.1==(6:Int)) (
    cond (r1_.1==(2:Int)) (
     cond (s_.1==(7:Int)) (
      some true) (
      (Zbg s_.2.2.2 (([]:List D5_),(0:Int))).bind fun r7_=>
      some r7_)) (
     cond r1_.2 (
      cond (s_.1==(7:Int)) (
       some true) (
       (Zbg s_.2.2.2 (([]:List D5_),(0:Int))).bind fun r6_=>
       some r6_)) (
      cond (s_.2.2.1==(0:Int)) (
       cond (s_.1==(7:Int)) (
        some true) (
        (Zbg s_.2.2.2 (([]:List D5_),(0:Int))).bind fun r5_=>
        some r5_)) (
       some false)))) (
    cond (s_.2.1==(0:Int)) (
     cond (r1_.1==(2:Int)) (
      cond (s_.1==(7:Int)) (
       some true) (
       (Zbg s_.2.2.2 (([]:List D5_),(0:Int))).bind fun r4_=>
       some r4_)) (
      cond r1_.2 (
       cond (s_.1==(7:Int)) (
        some true) (
        (Zbg s_.2.2.2 (([]:List D5_),(0:Int))).bind fun r3_=>
        some r3_)) (
       cond (s_.2.2.1==(0:Int)) (
        cond (s_.1==(7:Int)) (
         some true) (
         (Zbg s_.2.2.2 (([]:List D5_),(0:Int))).bind fun r2_=>
         some r2_)) (
        some false)))) (
     some false)))) (
  some false)
/-- (*impl.running).has -/
def Zc1 (i:Int) (o1:List D6_) (o2:List Bool):Option Bool:=
 rq (i64 ((o1.length:Int) - (1:Int))) <|
 (Zbr i (0:Int) ((o1.length:Int) - (1:Int))).bind fun r1_=>
 cond r1_ (
  rq (0≤i∧i<o2.length) <|
  some (!(o2.getD i.toNat false))) (
  some false)
/-- slices.Grow[[]impl.Term,impl.Term] -/
def Ze5 (n:Int):Option (List D5_):=
 cond (decide (n<(0:Int))) (
  none) (
  rq (i64 ((0:Int) - (0:Int))) <|
  rq (i64 (n - ((0:Int) - (0:Int)))) <|
  cond (decide ((0:Int)<(n - ((0:Int) - (0:Int))))) (
   rq ((0:Int)=0) <|
   rq (1≤(n - ((0:Int) - (0:Int)))∧(n - ((0:Int) - (0:Int)))≤Zp) <|
   rq (0≤(0:Int)∧(0:Int)≤(List.replicate (n - ((0:Int) - (0:Int))).toNat (0,0)).length) <|
   some ((List.replicate (n - ((0:Int) - (0:Int))).toNat (0,0)).take (0:Int).toNat)) (
   some ([]:List D5_)))
/-- slices.Concat[[]impl.Term,impl.Term] -/
def Zbq (slices:List (List D5_)):Int×(List D5_)→Option ((Int×(List D5_))⊕((Int×Int)⊕(List D5_))):=fun (i1,newslice)=>
 cond (decide (i1<(slices.length:Int))) (
  rq (0≤i1∧i1<slices.length) <|
  rq (newslice.length+(slices.getD i1.toNat []).length≤Zp) <|
  rq (i64 (i1+(1:Int))) <|
  some (.inl ((i1+(1:Int)),(newslice++(slices.getD i1.toNat []))))) (
  some (.inr (.inr newslice)))
def Zbp (slices:List (List D5_)):Int×Int→Option ((Int×Int)⊕(List D5_)):=fun (size,i)=>
 cond (decide (i<(slices.length:Int))) (
  rq (0≤i∧i<slices.length) <|
  rq (i64 (size+((slices.getD i.toNat []).length:Int))) <|
  cond (decide ((size+((slices.getD i.toNat []).length:Int))<(0:Int))) (
   none) (
   rq (i64 (i+(1:Int))) <|
   some (.inl ((size+((slices.getD i.toNat []).length:Int)),(i+(1:Int)))))) (
  (Ze5 size).bind fun r1_=>
  loop (Zbq slices) ((0:Int),r1_))
def Zeb (slices:List (List D5_)):Option (List D5_):=
 loop (Zbp slices) ((0:Int),(0:Int))
/-- impl.AddConstraints -/
def ZhB (a:(List D5_)×Int) (b:(List D5_)×Int):Unit→Option (Bool×Int×(List D5_)):=fun _=>
 (ZV a).bind fun r1_=>
 cond (!r1_) (
  some (false,(0:Int),([]:List D5_))) (
  (ZV b).bind fun r2_=>
  cond (!r2_) (
   some (false,(0:Int),([]:List D5_))) (
   rq (i64 (a.2+b.2)) <|
   (Zeb [a.1,b.1]).bind fun r5_=>
   (ZfU r5_ (a.2+b.2)).bind fun r6_=>
   some (r6_.1,r6_.2.1,r6_.2.2)))
def Zgx (a:(List D5_)×Int) (b:(List D5_)×Int):Option (Bool×Int×(List D5_)):=
 ZhB a b ()
/-- slices.Clone[[]impl.Term,impl.Term] -/
def Zey (s_:List D5_):Option (List D5_):=
 nt (s_=[]) (
  some ([]:List D5_)) (
  rq (([]:List D5_).length+s_.length≤Zp) <|
  some (([]:List D5_)++s_))
/-- (impl.Constraint).own -/
def Zeg (c_:(List D5_)×Int):Option (Int×(List D5_)):=
 (Zey c_.1).bind fun r1_=>
 some (c_.2,r1_)
/-- impl.MultiplyConstraint$1 -/
def ZbO (n:Int) (o0:Int):Option Int:=
 rq (i64 (n*o0)) <|
 some (n*o0)
/-- (impl.Constraint).valid -/
def Zcq (c_:(List D5_)×Int):Option (Bool×(List D5_)×Int):=
 (ZV c_).bind fun r1_=>
 cond (!r1_) (
  some (false,([]:List D5_),(0:Int))) (
  some (true,c_.1,c_.2))
/-- (impl.Constraint).changed -/
def ZbC (r2_:Int):(List D5_)→Option (Bool×D6_):=fun out_01=>
 (Zcq (out_01,r2_)).bind fun r6_=>
 some (r6_.1,r6_.2)
def Z8 (o0:Int) (r1_:Int×(List D5_)) (r2_:Int):Int×(List D5_)→Option ((Int×(List D5_))⊕(Bool×D6_)):=fun (i,out_0)=>
 cond (decide (i<(r1_.2.length:Int))) (
  rq (0≤i∧i<out_0.length) <|
  (ZbO (out_0.getD i.toNat (0,0)).1 o0).bind fun r5_=>
  rq (0≤i∧i<out_0.length) <|
  rq (i64 (i+(1:Int))) <|
  some (.inl ((i+(1:Int)),(out_0.set i.toNat (r5_,(out_0.getD i.toNat (0,0)).2))))) (
  up (ZbC r2_ out_0))
def Zbf (c_:(List D5_)×Int) (o0:Int):Option (Bool×D6_):=
 (Zeg c_).bind fun r1_=>
 (ZbO c_.2 o0).bind fun r2_=>
 loop (Z8 o0 r1_ r2_) ((0:Int),r1_.2)
/-- impl.MultiplyConstraint -/
def Zd8 (c_:(List D5_)×Int) (k_:Int):Option (Bool×(List D5_)×Int):=
 (ZV c_).bind fun r1_=>
 cond (!r1_) (
  some (false,([]:List D5_),(0:Int))) (
  (Zbr k_ (1:Int) (1000:Int)).bind fun r2_=>
  cond (!r2_) (
   some (false,([]:List D5_),(0:Int))) (
   (Zbf c_ k_).bind fun r3_=>
   some (r3_.1,r3_.2.1,r3_.2.2)))
/-- impl.DivideConstraint$1 -/
def Zdi (n:Int) (o0:Int):Option Int:=
 rq (i64 (n+o0)) <|
 rq (i64 ((n+o0) - (1:Int))) <|
 rq (1≤o0∧0≤((n+o0) - (1:Int))) <|
 some (((n+o0) - (1:Int)) / o0)
/-- (impl.Constraint).changed -/
def ZbL (r2_:Int):(List D5_)→Option (Bool×D6_):=fun out_01=>
 (Zcq (out_01,r2_)).bind fun r6_=>
 some (r6_.1,r6_.2)
def Zbd (o0:Int) (r1_:Int×(List D5_)) (r2_:Int):Int×(List D5_)→Option ((Int×(List D5_))⊕(Bool×D6_)):=fun (i,out_0)=>
 cond (decide (i<(r1_.2.length:Int))) (
  rq (0≤i∧i<out_0.length) <|
  (Zdi (out_0.getD i.toNat (0,0)).1 o0).bind fun r5_=>
  rq (0≤i∧i<out_0.length) <|
  rq (i64 (i+(1:Int))) <|
  some (.inl ((i+(1:Int)),(out_0.set i.toNat (r5_,(out_0.getD i.toNat (0,0)).2))))) (
  up (ZbL r2_ out_0))
def Zbn (c_:(List D5_)×Int) (o0:Int):Option (Bool×D6_):=
 (Zeg c_).bind fun r1_=>
 (Zdi c_.2 o0).bind fun r2_=>
 loop (Zbd o0 r1_ r2_) ((0:Int),r1_.2)
/-- impl.DivideConstraint -/
def Ze0 (c_:(List D5_)×Int) (k_:Int):Option (Bool×(List D5_)×Int):=
 (ZV c_).bind fun r1_=>
 cond (!r1_) (
  some (false,([]:List D5_),(0:Int))) (
  (Zbr k_ (1:Int) (1000:Int)).bind fun r2_=>
  cond (!r2_) (
   some (false,([]:List D5_),(0:Int))) (
   (Zbn c_ k_).bind fun r3_=>
   some (r3_.1,r3_.2.1,r3_.2.2)))
/-- impl.SaturateConstraint -/
def ZcR (c_:(List D5_)×Int):Int×(List D5_)→Option ((Int×(List D5_))⊕(Bool×Int×(List D5_))):=fun (i,out_0)=>
 cond (decide (i<(c_.1.length:Int))) (
  rq (0≤i∧i<c_.1.length) <|
  rq (out_0.length+[((min (c_.1.getD i.toNat (0,0)).1 c_.2),(c_.1.getD i.toNat (0,0)).2)].length≤Zp) <|
  rq (i64 (i+(1:Int))) <|
  some (.inl ((i+(1:Int)),(out_0++[((min (c_.1.getD i.toNat (0,0)).1 c_.2),(c_.1.getD i.toNat (0,0)).2)])))) (
  some (.inr (true,c_.2,out_0)))
def Zd9 (c_:(List D5_)×Int):Option (Bool×Int×(List D5_)):=
 (ZV c_).bind fun r1_=>
 cond (!r1_) (
  some (false,(0:Int),([]:List D5_))) (
  cond (decide ((0:Int)<c_.2)) (
   loop (ZcR c_) ((0:Int),([]:List D5_))) (
   some (true,c_.2,([]:List D5_))))
/-- impl.WeakenConstraint -/
def ZdU (c_:(List D5_)×Int) (variable_:Int):Int×Int×(List D5_)→Option ((Int×Int×(List D5_))⊕(Bool×Int×(List D5_))):=fun (i,out_1,out_0)=>
 cond (decide (i<(c_.1.length:Int))) (
  rq (0≤i∧i<c_.1.length) <|
  (Zdm (c_.1.getD i.toNat (0,0)).2).bind fun r4_=>
  cond (r4_==variable_) (
   rq (i64 (c_.2 - (c_.1.getD i.toNat (0,0)).1)) <|
   rq (i64 (i+(1:Int))) <|
   some (.inl ((i+(1:Int)),(max (0:Int) (c_.2 - (c_.1.getD i.toNat (0,0)).1)),out_0))) (
   rq (out_0.length+[(c_.1.getD i.toNat (0,0))].length≤Zp) <|
   rq (i64 (i+(1:Int))) <|
   some (.inl ((i+(1:Int)),out_1,(out_0++[(c_.1.getD i.toNat (0,0))]))))) (
  some (.inr (true,out_1,out_0)))
def Ze2 (c_:(List D5_)×Int) (variable_:Int):Option (Bool×Int×(List D5_)):=
 (ZV c_).bind fun r1_=>
 cond (!r1_) (
  some (false,(0:Int),([]:List D5_))) (
  (Zbr variable_ (1:Int) (12:Int)).bind fun r2_=>
  cond (!r2_) (
   some (false,(0:Int),([]:List D5_))) (
   loop (ZdU c_ variable_) ((0:Int),c_.2,([]:List D5_))))
/-- impl.LiteralAxiom -/
def ZhQ (lit:Int):Option (Bool×Int×(List D5_)):=
 (ZfX lit).bind fun r1_=>
 cond (!r1_) (
  some (false,(0:Int),([]:List D5_))) (
  some (true,(0:Int),[((1:Int),lit)]))
/-- (*impl.running).left -/
def ZdG (o1:List D6_) (o2:List Bool):Int×(List D6_)→Option ((Int×(List D6_))⊕(List D6_)):=fun (i,out)=>
 cond (decide (i<(o1.length:Int))) (
  rq (0≤i∧i<o1.length) <|
  rq (0≤i∧i<o2.length) <|
  cond (!(o2.getD i.toNat false)) (
   rq (out.length+[(o1.getD i.toNat ([],0))].length≤Zp) <|
   rq (i64 (i+(1:Int))) <|
   some (.inl ((i+(1:Int)),(out++[(o1.getD i.toNat ([],0))])))) (
   rq (i64 (i+(1:Int))) <|
   some (.inl ((i+(1:Int)),out)))) (
  some (.inr out))
def Zev (o1:List D6_) (o2:List Bool):Option (List D6_):=
 loop (ZdG o1 o2) ((0:Int),([]:List D6_))
/-- (impl.Constraint).total -/
def ZdR (c_:(List D5_)×Int):Int×Int→Option ((Int×Int)⊕Int):=fun (sum,i)=>
 cond (decide (i<(c_.1.length:Int))) (
  rq (0≤i∧i<c_.1.length) <|
  rq (i64 (sum+(c_.1.getD i.toNat (0,0)).1)) <|
  rq (i64 (i+(1:Int))) <|
  some (.inl ((sum+(c_.1.getD i.toNat (0,0)).1),(i+(1:Int))))) (
  some (.inr sum))
def ZdC (c_:(List D5_)×Int):Option Int:=
 loop (ZdR c_) ((0:Int),(0:Int))
/-- (impl.Constraint).negation -/
def ZeN (c_:(List D5_)×Int) (i:Int) (out_0:List D5_):Unit→Option ((Int×(List D5_))⊕(Int×(List D5_))):=fun _=>
 rq (i64 (0 - (c_.1.getD i.toNat (0,0)).2)) <|
 rq (out_0.length+[((c_.1.getD i.toNat (0,0)).1,(0 - (c_.1.getD i.toNat (0,0)).2))].length≤Zp) <|
 rq (i64 (i+(1:Int))) <|
 some (.inl ((i+(1:Int)),(out_0++[((c_.1.getD i.toNat (0,0)).1,(0 - (c_.1.getD i.toNat (0,0)).2))])))
def ZcC (c_:(List D5_)×Int) (out_1:Int):Int×(List D5_)→Option ((Int×(List D5_))⊕(Int×(List D5_))):=fun (i,out_0)=>
 cond (decide (i<(c_.1.length:Int))) (
  rq (0≤i∧i<c_.1.length) <|
  ZeN c_ i out_0 ()) (
  some (.inr (out_1,out_0)))
def ZeM (c_:(List D5_)×Int):Int→Option (Int×(List D5_)):=fun out_1=>
 loop (ZcC c_ out_1) ((0:Int),([]:List D5_))
def ZeL (c_:(List D5_)×Int):Unit→Option (Int×(List D5_)):=fun _=>
 (ZdC c_).bind fun r2_=>
 rq (i64 (r2_ - c_.2)) <|
 rq (i64 ((r2_ - c_.2)+(1:Int))) <|
 ZeM c_ (max (0:Int) ((r2_ - c_.2)+(1:Int)))
def ZdP (c_:(List D5_)×Int):Option (Int×(List D5_)):=
 ZeL c_ ()
/-- impl.under -/
def ZnN (l:Int) (p:List Int):Option Int:=
 cond (decide (l<(0:Int))) (
  rq (i64 (0 - l)) <|
  rq (i64 ((0 - l) - (1:Int))) <|
  rq (0≤((0 - l) - (1:Int))∧((0 - l) - (1:Int))<p.length) <|
  rq (i64 (0 - (p.getD ((0 - l) - (1:Int)).toNat 0))) <|
  some (0 - (p.getD ((0 - l) - (1:Int)).toNat 0))) (
  rq (i64 (l - (1:Int))) <|
  rq (0≤(l - (1:Int))∧(l - (1:Int))<p.length) <|
  some (p.getD (l - (1:Int)).toNat 0))
/-- (impl.Constraint).slack -/
def ZdQ (c_:(List D5_)×Int) (p:List Int):Int×Int→Option ((Int×Int)⊕Int):=fun (out,i)=>
 cond (decide (i<(c_.1.length:Int))) (
  rq (0≤i∧i<c_.1.length) <|
  (ZnN (c_.1.getD i.toNat (0,0)).2 p).bind fun r1_=>
  cond (decide ((0:Int)≤r1_)) (
   rq (i64 (out+(c_.1.getD i.toNat (0,0)).1)) <|
   rq (i64 (i+(1:Int))) <|
   some (.inl ((out+(c_.1.getD i.toNat (0,0)).1),(i+(1:Int))))) (
   rq (i64 (i+(1:Int))) <|
   some (.inl (out,(i+(1:Int)))))) (
  some (.inr out))
def ZdB (c_:(List D5_)×Int) (p:List Int):Option Int:=
 rq (i64 (0 - c_.2)) <|
 loop (ZdQ c_ p) ((0 - c_.2),(0:Int))
/-- (impl.Constraint).implied -/
def ZcQ (c_:(List D5_)×Int) (p:List Int) (r1_:Int):Int×(List Int)→Option ((Int×(List Int))⊕(List Int)):=fun (i,out)=>
 cond (decide (i<(c_.1.length:Int))) (
  rq (0≤i∧i<c_.1.length) <|
  (ZnN (c_.1.getD i.toNat (0,0)).2 p).bind fun r3_=>
  cond (r3_==(0:Int)) (
   cond (decide (r1_<(c_.1.getD i.toNat (0,0)).1)) (
    rq (out.length+[(c_.1.getD i.toNat (0,0)).2].length≤Zp) <|
    rq (i64 (i+(1:Int))) <|
    some (.inl ((i+(1:Int)),(out++[(c_.1.getD i.toNat (0,0)).2])))) (
    rq (i64 (i+(1:Int))) <|
    some (.inl ((i+(1:Int)),out)))) (
   rq (i64 (i+(1:Int))) <|
   some (.inl ((i+(1:Int)),out)))) (
  some (.inr out))
def ZcH (c_:(List D5_)×Int) (p:List Int):Option (List Int):=
 (ZdB c_ p).bind fun r1_=>
 loop (ZcQ c_ p r1_) ((0:Int),([]:List Int))
/-- impl.propagate -/
def Zdk (i3:Int) (r9_:(List Int)):Bool×Int×(List Int)→Option ((Bool×Int×(List Int))⊕((Bool×Int×(List Int))⊕((Bool×(List Int))⊕(Int×(List Int))))):=fun (made6,i5,out6)=>
 cond (decide (i5<(r9_.length:Int))) (
  rq (0≤i5∧i5<r9_.length) <|
  cond (decide ((0:Int)<(r9_.getD i5.toNat 0))) (
   rq (i64 ((r9_.getD i5.toNat 0) - (1:Int))) <|
   rq (0≤((r9_.getD i5.toNat 0) - (1:Int))∧((r9_.getD i5.toNat 0) - (1:Int))<out6.length) <|
   rq (i64 (i5+(1:Int))) <|
   some (.inl (true,(i5+(1:Int)),(out6.set ((r9_.getD i5.toNat 0) - (1:Int)).toNat (1:Int))))) (
   rq (i64 (0 - (r9_.getD i5.toNat 0))) <|
   rq (i64 ((0 - (r9_.getD i5.toNat 0)) - (1:Int))) <|
   rq (0≤((0 - (r9_.getD i5.toNat 0)) - (1:Int))∧((0 - (r9_.getD i5.toNat 0)) - (1:Int))<out6.length) <|
   rq (i64 (i5+(1:Int))) <|
   some (.inl (true,(i5+(1:Int)),(out6.set ((0 - (r9_.getD i5.toNat 0)) - (1:Int)).toNat (-1:Int)))))) (
  rq (i64 (i3+(1:Int))) <|
  some (.inr (.inl (made6,(i3+(1:Int)),out6))))
def Zci (list_:List D6_):Bool×Int×(List Int)→Option ((Bool×Int×(List Int))⊕((Bool×(List Int))⊕(Int×(List Int)))):=fun (made4,i3,out5)=>
 cond (decide (i3<(list_.length:Int))) (
  rq (0≤i3∧i3<list_.length) <|
  (ZdB (list_.getD i3.toNat ([],0)) out5).bind fun r8_=>
  cond (decide (r8_<(0:Int))) (
   some (.inr (.inr (i3,out5)))) (
   (ZcH (list_.getD i3.toNat ([],0)) out5).bind fun r9_=>
   loop (Zdk i3 r9_) (made4,(0:Int),out5))) (
  some (.inr (.inl (made4,out5))))
def Zd2 (list_:List D6_):Bool×(List Int)→Option ((Bool×(List Int))⊕(Int×(List Int))):=fun (made,out3)=>
 cond made (
  loop (Zci list_) (false,(0:Int),out3)) (
  some (.inr ((-1:Int),out3)))
def Zde (list_:List D6_) (p:List Int):Option (Int×(List Int)):=
 (Zcb p).bind fun r1_=>
 loop (Zd2 list_) (true,r1_)
/-- impl.rup -/
def ZtK:Int→Option Bool:=fun i=>
 some (decide ((0:Int)≤i))
def Zu5 (list_:List D6_) (c_:(List D5_)×Int):Option Bool:=
 (ZbU list_).bind fun r4_=>
 (ZdP c_).bind fun r5_=>
 rq (r4_.length+[(r5_.2,r5_.1)].length≤Zp) <|
 rq (0≤(12:Int)∧(12:Int)≤Zp∧(12:Int)=(12:Int)) <|
 (Zde (r4_++[(r5_.2,r5_.1)]) (List.replicate (12:Int).toNat 0)).bind fun r6_=>
 ZtK r6_.1
/-- (*impl.running).step -/
def ZfG (o1:List D6_) (o2:List Bool) (i:(List D5_)×Int) (i1:Bool):Unit→Option (Bool×(List D6_)×(List Bool)):=fun _=>
 some (i1,(o1++[i]),(o2++[false]))
def ZL (o1:List D6_) (o2:List Bool):D6_×Bool→Option (Bool×(List D6_)×(List Bool)):=fun (i,i1)=>
 rq (o1.length+[i].length≤Zp) <|
 rq (o2.length+[false].length≤Zp) <|
 ZfG o1 o2 i i1 ()
def Zbs (a1:Int×Int×Int×(List D5_)×Int) (o1:List D6_) (o2:List Bool):Unit→Option (Bool×(List D6_)×(List Bool)):=fun _=>
 cond (a1.1==(8:Int)) (
  rq (0≤a1.2.1∧a1.2.1<o2.length) <|
  some (true,o1,(o2.set a1.2.1.toNat true))) (
  cond (a1.1==(1:Int)) (
   rq (0≤a1.2.1∧a1.2.1<o1.length) <|
   rq (0≤a1.2.2.1∧a1.2.2.1<o1.length) <|
   (Zgx (o1.getD a1.2.1.toNat ([],0)) (o1.getD a1.2.2.1.toNat ([],0))).bind fun r7_=>
   ZL o1 o2 ((r7_.2.2,r7_.2.1),r7_.1)) (
   cond (a1.1==(2:Int)) (
    rq (0≤a1.2.1∧a1.2.1<o1.length) <|
    (Zd8 (o1.getD a1.2.1.toNat ([],0)) a1.2.2.1).bind fun r9_=>
    ZL o1 o2 (r9_.2,r9_.1)) (
    cond (a1.1==(3:Int)) (
     rq (0≤a1.2.1∧a1.2.1<o1.length) <|
     (Ze0 (o1.getD a1.2.1.toNat ([],0)) a1.2.2.1).bind fun r11_=>
     ZL o1 o2 (r11_.2,r11_.1)) (
     cond (a1.1==(4:Int)) (
      rq (0≤a1.2.1∧a1.2.1<o1.length) <|
      (Zd9 (o1.getD a1.2.1.toNat ([],0))).bind fun r13_=>
      ZL o1 o2 ((r13_.2.2,r13_.2.1),r13_.1)) (
      cond (a1.1==(5:Int)) (
       rq (0≤a1.2.1∧a1.2.1<o1.length) <|
       (Ze2 (o1.getD a1.2.1.toNat ([],0)) a1.2.2.1).bind fun r15_=>
       ZL o1 o2 ((r15_.2.2,r15_.2.1),r15_.1)) (
       cond (a1.1==(6:Int)) (
        (ZhQ a1.2.1).bind fun r16_=>
        ZL o1 o2 ((r16_.2.2,r16_.2.1),r16_.1)) (
        cond (a1.1==(7:Int)) (
         (ZV a1.2.2.2).bind fun r20_=>
         cond r20_ (
          (Zev o1 o2).bind fun r21_=>
          (Zu5 r21_ a1.2.2.2).bind fun r22_=>
          ZL o1 o2 (a1.2.2.2,r22_)) (
          ZL o1 o2 (a1.2.2.2,false))) (
         ZL o1 o2 ((([]:List D5_),(0:Int)),false)))))))))
def ZfF (a1:Int×Int×Int×(List D5_)×Int) (o1:List D6_) (o2:List Bool):Unit→Option (Bool×(List D6_)×(List Bool)):=fun _=>
 (Zmp a1.1).bind fun r1_=>
 (ZiY a1).bind fun r2_=>
 cond (!r2_) (
  some (false,o1,o2)) (
  cond (decide ((0:Int)<r1_.1)) (
   (Zc1 a1.2.1 o1 o2).bind fun r3_=>
   cond (!r3_) (
    some (false,o1,o2)) (
    cond (decide ((1:Int)<r1_.1)) (
     (Zc1 a1.2.2.1 o1 o2).bind fun r4_=>
     cond (!r4_) (
      some (false,o1,o2)) (
      Zbs a1 o1 o2 ())) (
     Zbs a1 o1 o2 ()))) (
   cond (decide ((1:Int)<r1_.1)) (
    (Zc1 a1.2.2.1 o1 o2).bind fun r5_=>
    cond (!r5_) (
     some (false,o1,o2)) (
     Zbs a1 o1 o2 ())) (
    Zbs a1 o1 o2 ())))
def Zdr (a1:Int×Int×Int×(List D5_)×Int) (o1:List D6_) (o2:List Bool):Option (Bool×(List D6_)×(List Bool)):=
 ZfF a1 o1 o2 ()
/-- impl.run -/
def Zo3 (steps:List D9_):Int×(List D6_)×(List Bool)→Option ((Int×(List D6_)×(List Bool))⊕(Bool×Int×(List D6_)×(List Bool)×Int)):=fun (i,r_01,r_1)=>
 cond (decide (i<(steps.length:Int))) (
  rq (0≤i∧i<steps.length) <|
  (Zdr (steps.getD i.toNat (0,(0,(0,([],0))))) r_01 r_1).bind fun r5_=>
  cond (!r5_.1) (
   some (.inr (false,0,[],[],i))) (
   rq (i64 (i+(1:Int))) <|
   some (.inl ((i+(1:Int)),r5_.2.1,r5_.2.2)))) (
  some (.inr (true,(-1:Int),r_01,r_1,0)))
def ZtJ (list_:List D6_) (steps:List D9_):(List D6_)→Option (Bool×Int×(List D6_)×(List Bool)×Int):=fun r_0=>
 loop (Zo3 steps) ((0:Int),r_0,(List.replicate (list_.length:Int).toNat false))
def Zu4 (list_:List D6_) (steps:List D9_):Option (Bool×Int×(List D6_)×(List Bool)×Int):=
 (ZhT list_).bind fun r1_=>
 cond (!r1_) (
  some (false,0,[],[],(0:Int))) (
  cond (decide ((1000:Int)<(steps.length:Int))) (
   some (false,0,[],[],(0:Int))) (
   (ZbU list_).bind fun r3_=>
   rq (0≤(list_.length:Int)∧(list_.length:Int)≤Zp∧(list_.length:Int)=(list_.length:Int)) <|
   ZtJ list_ steps r3_))
/-- impl.ConstraintFalse -/
def ZdO (c_:(List D5_)×Int):Option Bool:=
 (ZV c_).bind fun r3_=>
 cond r3_ (
  (ZdC c_).bind fun r4_=>
  some (decide (r4_<c_.2))) (
  some false)
/-- impl.refuting -/
def Zge (r1_:Bool×Int×(List D6_)×(List Bool)×Int):Int→Option (Int⊕(Bool×Int×(List D6_)×(List Bool)×Int)):=fun i=>
 cond (decide (i<(r1_.2.2.1.length:Int))) (
  rq (0≤i∧i<r1_.2.2.1.length) <|
  rq (0≤i∧i<r1_.2.2.2.1.length) <|
  cond (!(r1_.2.2.2.1.getD i.toNat false)) (
   (ZdO (r1_.2.2.1.getD i.toNat ([],0))).bind fun r2_=>
   cond r2_ (
    some (.inr (true,i,r1_.2.2.1,r1_.2.2.2.1,0))) (
    rq (i64 (i+(1:Int))) <|
    some (.inl (i+(1:Int))))) (
   rq (i64 (i+(1:Int))) <|
   some (.inl (i+(1:Int))))) (
  some (.inr (true,(-1:Int),r1_.2.2.1,r1_.2.2.2.1,0)))
def ZmA (list_:List D6_) (steps:List D9_):Option (Bool×Int×(List D6_)×(List Bool)×Int):=
 (Zu4 list_ steps).bind fun r1_=>
 cond r1_.1 (
  cond (decide ((0:Int)≤r1_.2.1)) (
   some (false,0,[],[],(-1:Int))) (
   loop (Zge r1_) (0:Int))) (
  cond (decide ((0:Int)≤r1_.2.2.2.2)) (
   some (false,0,[],[],(-1:Int))) (
   none))
/-- impl.CheckRefutation -/
def ZfE (list_:List D6_) (steps:List D9_):Option Bool:=
 (ZmA list_ steps).bind fun r1_=>
 cond r1_.1 (
  some (decide ((0:Int)≤r1_.2.1))) (
  some (decide ((0:Int)≤r1_.2.2.2.2)))
/-- impl.CheckOptimum -/
def ZiT (steps:List D9_) (r1_:Bool×(List D6_)):Bool×Int×(List D5_)→Option Bool:=fun (ok,c_1,c_0)=>
 cond ok (
  (ZbU r1_.2).bind fun r10_=>
  rq (r10_.length+[(c_0,c_1)].length≤Zp) <|
  (ZfE (r10_++[(c_0,c_1)]) steps).bind fun r11_=>
  some r11_) (
  some false)
def ZhP (m:(List Int)×(List D4_)) (coefs:List Int) (cells:List Int) (steps:List D9_):Option Bool:=
 (ZrS m).bind fun r1_=>
 cond (!r1_.1) (
  some false) (
  (ZiX m cells).bind fun r2_=>
  cond (!r2_) (
   some false) (
   (Zgd m coefs).bind fun r3_=>
   cond (!r3_) (
    some false) (
    (ZnO coefs cells).bind fun r6_=>
    rq (i64 (r6_ - (1:Int))) <|
    (ZeZ m coefs (r6_ - (1:Int))).bind fun r7_=>
    ZiT steps r1_ (r7_.1,r7_.2.1,r7_.2.2))))
/-- laws.eqIntS -/
def Zlz (a:List Int) (b:List Int):Int→Option (Int⊕Bool):=fun i=>
 cond (decide (i<(a.length:Int))) (
  rq (0≤i∧i<a.length) <|
  rq (0≤i∧i<b.length) <|
  cond ((a.getD i.toNat 0) != (b.getD i.toNat 0)) (
   some (.inr false)) (
   rq (i64 (i+(1:Int))) <|
   some (.inl (i+(1:Int))))) (
  some (.inr true))
def Zew (a:List Int) (b:List Int):Option Bool:=
 cond ((a.length:Int) != (b.length:Int)) (
  some false) (
  loop (Zlz a b) (0:Int))
/-- laws.eqIntSS -/
def Zkm (a:List (List Int)) (b:List (List Int)):Int→Option (Int⊕Bool):=fun i=>
 cond (decide (i<(a.length:Int))) (
  rq (0≤i∧i<a.length) <|
  rq (0≤i∧i<b.length) <|
  (Zew (a.getD i.toNat []) (b.getD i.toNat [])).bind fun r2_=>
  cond (!r2_) (
   some (.inr false)) (
   rq (i64 (i+(1:Int))) <|
   some (.inl (i+(1:Int))))) (
  some (.inr true))
def ZnR (a:List (List Int)) (b:List (List Int)):Option Bool:=
 cond ((a.length:Int) != (b.length:Int)) (
  some false) (
  loop (Zkm a b) (0:Int))
/-- laws.eqRule -/
def Zo4 (a:Int×(List Int)×(List Int)×Int×(List (List Int))) (b:Int×(List Int)×(List Int)×Int×(List (List Int))):Option Bool:=
 cond (a.1 != b.1) (
  some false) (
  (Zew a.2.1 b.2.1).bind fun r1_=>
  cond (!r1_) (
   some false) (
   (Zew a.2.2.1 b.2.2.1).bind fun r2_=>
   cond (!r2_) (
    some false) (
    cond (a.2.2.2.1 != b.2.2.2.1) (
     some false) (
     (ZnR a.2.2.2.2 b.2.2.2.2).bind fun r3_=>
     cond (!r3_) (
      some false) (
      some true)))))
/-- laws.eqRuleS -/
def Zkn (a:List D4_) (b:List D4_):Int→Option (Int⊕Bool):=fun i=>
 cond (decide (i<(a.length:Int))) (
  rq (0≤i∧i<a.length) <|
  rq (0≤i∧i<b.length) <|
  (Zo4 (a.getD i.toNat (0,([],([],(0,[]))))) (b.getD i.toNat (0,([],([],(0,[])))))).bind fun r2_=>
  cond (!r2_) (
   some (.inr false)) (
   rq (i64 (i+(1:Int))) <|
   some (.inl (i+(1:Int))))) (
  some (.inr true))
def ZnT (a:List D4_) (b:List D4_):Option Bool:=
 cond ((a.length:Int) != (b.length:Int)) (
  some false) (
  loop (Zkn a b) (0:Int))
/-- laws.eqModel -/
def ZnS (a:(List Int)×(List D4_)) (b:(List Int)×(List D4_)):Option Bool:=
 (Zew a.1 b.1).bind fun r1_=>
 cond (!r1_) (
  some false) (
  (ZnT a.2 b.2).bind fun r2_=>
  cond (!r2_) (
   some false) (
   some true))
/-- laws.eqTerm -/
def ZtP (a:Int×Int) (b:Int×Int):Option Bool:=
 cond (a.1 != b.1) (
  some false) (
  cond (a.2 != b.2) (
   some false) (
   some true))
/-- laws.eqTermS -/
def Zkp (a:List D5_) (b:List D5_):Int→Option (Int⊕Bool):=fun i=>
 cond (decide (i<(a.length:Int))) (
  rq (0≤i∧i<a.length) <|
  rq (0≤i∧i<b.length) <|
  (ZtP (a.getD i.toNat (0,0)) (b.getD i.toNat (0,0))).bind fun r2_=>
  cond (!r2_) (
   some (.inr false)) (
   rq (i64 (i+(1:Int))) <|
   some (.inl (i+(1:Int))))) (
  some (.inr true))
def ZnV (a:List D5_) (b:List D5_):Option Bool:=
 cond ((a.length:Int) != (b.length:Int)) (
  some false) (
  loop (Zkp a b) (0:Int))
/-- laws.eqConstraint -/
def Zl3 (a:(List D5_)×Int) (b:(List D5_)×Int):Option Bool:=
 (ZnV a.1 b.1).bind fun r1_=>
 cond (!r1_) (
  some false) (
  cond (a.2 != b.2) (
   some false) (
   some true))
/-- laws.eqStep -/
def Zo5 (a:Int×Int×Int×(List D5_)×Int) (b:Int×Int×Int×(List D5_)×Int):Option Bool:=
 cond (a.1 != b.1) (
  some false) (
  cond (a.2.1 != b.2.1) (
   some false) (
   cond (a.2.2.1 != b.2.2.1) (
    some false) (
    (Zl3 a.2.2.2 b.2.2.2).bind fun r1_=>
    cond (!r1_) (
     some false) (
     some true))))
/-- laws.eqStepS -/
def Zko (a:List D9_) (b:List D9_):Int→Option (Int⊕Bool):=fun i=>
 cond (decide (i<(a.length:Int))) (
  rq (0≤i∧i<a.length) <|
  rq (0≤i∧i<b.length) <|
  (Zo5 (a.getD i.toNat (0,(0,(0,([],0))))) (b.getD i.toNat (0,(0,(0,([],0)))))).bind fun r2_=>
  cond (!r2_) (
   some (.inr false)) (
   rq (i64 (i+(1:Int))) <|
   some (.inl (i+(1:Int))))) (
  some (.inr true))
def ZnU (a:List D9_) (b:List D9_):Option Bool:=
 cond ((a.length:Int) != (b.length:Int)) (
  some false) (
  loop (Zko a b) (0:Int))
/-- laws.FnExactCheckOptimum -/
def ZeQ (a1:List Int) (a2:List Int) (a3:List D9_) (r9_:(List Int)) (r10_:(List Int)) (r11_:(List D9_)):Unit→Option Bool:=fun _=>
 (ZcU a1).bind fun r17_=>
 (Zew r9_ r17_).bind fun r18_=>
 cond (!r18_) (
  some false) (
  (ZcU a2).bind fun r19_=>
  (Zew r10_ r19_).bind fun r20_=>
  cond (!r20_) (
   some false) (
   (Zir a3).bind fun r21_=>
   (ZnU r11_ r21_).bind fun r22_=>
   cond (!r22_) (
    some false) (
    some true)))
def Zgf (a0:(List Int)×(List D4_)) (a1:List Int) (a2:List Int) (a3:List D9_):Option Bool:=
 cond (decide ((1048576:Int)<(a1.length:Int))) (
  some true) (
  cond (decide ((1048576:Int)<(a2.length:Int))) (
   some true) (
   (ZnY a0 (1048576:Int)).bind fun r1_=>
   cond (decide (r1_<(0:Int))) (
    some true) (
    (Zn1 a3 r1_).bind fun r2_=>
    cond (decide (r2_<(0:Int))) (
     some true) (
     (Ziq a0).bind fun r3_=>
     (ZcU a1).bind fun r4_=>
     (ZcU a2).bind fun r5_=>
     (Zir a3).bind fun r6_=>
     (ZhV r3_ r4_ r5_ r6_).bind fun r7_=>
     (Ziq a0).bind fun r8_=>
     (ZcU a1).bind fun r9_=>
     (ZcU a2).bind fun r10_=>
     (Zir a3).bind fun r11_=>
     (ZhP r8_ r9_ r10_ r11_).bind fun r12_=>
     cond (r12_ != r7_) (
      some false) (
      (Ziq a0).bind fun r15_=>
      (ZnS r8_ r15_).bind fun r16_=>
      cond (!r16_) (
       some false) (
       ZeQ a1 a2 a3 r9_ r10_ r11_ ()))))))
end
end Go.AE.Y
