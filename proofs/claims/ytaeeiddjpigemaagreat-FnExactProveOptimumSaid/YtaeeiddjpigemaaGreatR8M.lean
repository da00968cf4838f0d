/-
  Models of the functions: what each computes, as a Lean function into Option. Definitions alone.
-/
import Derived.Test.YtaeeiddjpigemaaGreatAEx3
namespace Go.AE.Y
open Go Go.AE
set_option linter.unusedVariables false
noncomputable section
abbrev y0_:Ty:=(.int .i64)
abbrev y1_:Ty:=(.pair y0_ (.sl (.sl y0_)))
abbrev D1_:Type:=Int×(List (List Int))
abbrev y2_:Ty:=(.pair (.sl y0_) y1_)
abbrev D2_:Type:=(List Int)×Int×(List (List Int))
abbrev y3_:Ty:=(.pair (.sl y0_) y2_)
abbrev D3_:Type:=(List Int)×(List Int)×Int×(List (List Int))
abbrev y4_:Ty:=(.pair y0_ y3_)
abbrev D4_:Type:=Int×(List Int)×(List Int)×Int×(List (List Int))
abbrev y5_:Ty:=(.pair y0_ y0_)
abbrev D5_:Type:=Int×Int
abbrev y6_:Ty:=(.pair (.sl y5_) y0_)
abbrev D6_:Type:=(List (Int×Int))×Int
abbrev y7_:Ty:=(.pair y0_ y6_)
abbrev D7_:Type:=Int×(List (Int×Int))×Int
abbrev y8_:Ty:=(.pair y0_ y7_)
abbrev D8_:Type:=Int×Int×(List (Int×Int))×Int
abbrev y9_:Ty:=(.pair y0_ y8_)
abbrev D9_:Type:=Int×Int×Int×(List (Int×Int))×Int
/-- laws.szIntS -/
def Zgg (a:List Int) (left:Int):Option Int:=
 rq (i64 (left - (a.length:Int))) <|
 cond (decide ((left - (a.length:Int))<(0:Int))) (
  some (-1:Int)) (
  some (left - (a.length:Int)))
/-- laws.szIntSS -/
def ZnI (a:List (List Int)):Int×Int→Option ((Int×Int)⊕Int):=fun (left1,i)=>
 cond (decide (i<(a.length:Int))) (
  rq (0≤i∧i<a.length) <|
  (Zgg (a.getD i.toNat []) left1).bind fun r1_=>
  cond (decide (r1_<(0:Int))) (
   some (.inr (-1:Int))) (
   rq (i64 (i+(1:Int))) <|
   some (.inl (r1_,(i+(1:Int)))))) (
  some (.inr left1))
def ZkX (a:List (List Int)) (left:Int):Option Int:=
 rq (i64 (left - (a.length:Int))) <|
 cond (decide ((left - (a.length:Int))<(0:Int))) (
  some (-1:Int)) (
  loop (ZnI a) ((left - (a.length:Int)),(0:Int)))
/-- laws.szRule -/
def Zl4 (a:Int×(List Int)×(List Int)×Int×(List (List Int))) (left:Int):Option Int:=
 (Zgg a.2.1 left).bind fun r1_=>
 cond (decide (r1_<(0:Int))) (
  some (-1:Int)) (
  (Zgg a.2.2.1 r1_).bind fun r2_=>
  cond (decide (r2_<(0:Int))) (
   some (-1:Int)) (
   (ZkX a.2.2.2.2 r2_).bind fun r3_=>
   cond (decide (r3_<(0:Int))) (
    some (-1:Int)) (
    some r3_)))
/-- laws.szRuleS -/
def ZnJ (a:List D4_):Int×Int→Option ((Int×Int)⊕Int):=fun (left1,i)=>
 cond (decide (i<(a.length:Int))) (
  rq (0≤i∧i<a.length) <|
  (Zl4 (a.getD i.toNat (0,([],([],(0,[]))))) left1).bind fun r1_=>
  cond (decide (r1_<(0:Int))) (
   some (.inr (-1:Int))) (
   rq (i64 (i+(1:Int))) <|
   some (.inl (r1_,(i+(1:Int)))))) (
  some (.inr left1))
def ZkZ (a:List D4_) (left:Int):Option Int:=
 rq (i64 (left - (a.length:Int))) <|
 cond (decide ((left - (a.length:Int))<(0:Int))) (
  some (-1:Int)) (
  loop (ZnJ a) ((left - (a.length:Int)),(0:Int)))
/-- laws.szModel -/
def ZkY (a:(List Int)×(List D4_)) (left:Int):Option Int:=
 (Zgg a.1 left).bind fun r1_=>
 cond (decide (r1_<(0:Int))) (
  some (-1:Int)) (
  (ZkZ a.2 r1_).bind fun r2_=>
  cond (decide (r2_<(0:Int))) (
   some (-1:Int)) (
   some r2_))
/-- laws.toIntS -/
def Zlr (a:List Int):Int×(List Int)→Option ((Int×(List Int))⊕(List Int)):=fun (i,out)=>
 cond (decide (i<(a.length:Int))) (
  rq (0≤i∧i<a.length) <|
  rq (0≤i∧i<out.length) <|
  rq (i64 (i+(1:Int))) <|
  some (.inl ((i+(1:Int)),(out.set i.toNat (a.getD i.toNat 0))))) (
  some (.inr out))
def Zdn (a:List Int):Option (List Int):=
 rq (0≤(a.length:Int)∧(a.length:Int)≤Zp∧(a.length:Int)=(a.length:Int)) <|
 loop (Zlr a) ((0:Int),(List.replicate (a.length:Int).toNat 0))
/-- laws.toIntSS -/
def Zkg (a:List (List Int)):Int×(List (List Int))→Option ((Int×(List (List Int)))⊕(List (List Int))):=fun (i,out)=>
 cond (decide (i<(a.length:Int))) (
  rq (0≤i∧i<a.length) <|
  (Zdn (a.getD i.toNat [])).bind fun r2_=>
  rq (0≤i∧i<out.length) <|
  rq (i64 (i+(1:Int))) <|
  some (.inl ((i+(1:Int)),(out.set i.toNat r2_)))) (
  some (.inr out))
def Zk0 (a:List (List Int)):Option (List (List Int)):=
 rq (0≤(a.length:Int)∧(a.length:Int)≤Zp∧(a.length:Int)=(a.length:Int)) <|
 loop (Zkg a) ((0:Int),(List.replicate (a.length:Int).toNat []))
/-- laws.toRule -/
def Zl5 (a:Int×(List Int)×(List Int)×Int×(List (List Int))):Option (Int×Int×(List Int)×(List Int)×(List (List Int))):=
 (Zdn a.2.1).bind fun r1_=>
 (Zdn a.2.2.1).bind fun r2_=>
 (Zk0 a.2.2.2.2).bind fun r3_=>
 some (a.1,a.2.2.2.1,r1_,r2_,r3_)
/-- laws.toRuleS -/
def Zkh (a:List D4_):Int×(List D4_)→Option ((Int×(List D4_))⊕(List D4_)):=fun (i,out)=>
 cond (decide (i<(a.length:Int))) (
  rq (0≤i∧i<a.length) <|
  (Zl5 (a.getD i.toNat (0,([],([],(0,[])))))).bind fun r2_=>
  rq (0≤i∧i<out.length) <|
  rq (i64 (i+(1:Int))) <|
  some (.inl ((i+(1:Int)),(out.set i.toNat (r2_.1,(r2_.2.2.1,(r2_.2.2.2.1,(r2_.2.1,r2_.2.2.2.2)))))))) (
  some (.inr out))
def Zk1 (a:List D4_):Option (List D4_):=
 rq (0≤(a.length:Int)∧(a.length:Int)≤Zp∧(a.length:Int)=(a.length:Int)) <|
 loop (Zkh a) ((0:Int),(List.replicate (a.length:Int).toNat (0,([],([],(0,[]))))))
/-- laws.toModel -/
def Zff (a:(List Int)×(List D4_)):Option ((List Int)×(List D4_)):=
 (Zdn a.1).bind fun r1_=>
 (Zk1 a.2).bind fun r2_=>
 some (r1_,r2_)
/-- spec.l6Vars -/
def Zit (list_:List Int) (i:Int):Int→Option (Int⊕(Int⊕Bool)):=fun k_=>
 cond (decide (k_<i)) (
  rq (0≤k_∧k_<list_.length) <|
  rq (0≤i∧i<list_.length) <|
  cond ((list_.getD k_.toNat 0)==(list_.getD i.toNat 0)) (
   some (.inr (.inr false))) (
   rq (i64 (k_+(1:Int))) <|
   some (.inl (k_+(1:Int))))) (
  rq (i64 (i+(1:Int))) <|
  some (.inr (.inl (i+(1:Int)))))
def Zlz (m:(List Int)×(List D4_)) (list_:List Int):Int→Option (Int⊕Bool):=fun i=>
 cond (decide (i<(list_.length:Int))) (
  rq (0≤i∧i<list_.length) <|
  cond (decide ((list_.getD i.toNat 0)<(0:Int))) (
   some (.inr false)) (
   rq (0≤i∧i<list_.length) <|
   cond (decide ((m.1.length:Int)≤(list_.getD i.toNat 0))) (
    some (.inr false)) (
    loop (Zit list_ i) (0:Int)))) (
  some (.inr (decide ((1:Int)≤(list_.length:Int)))))
def Zl9 (m:(List Int)×(List D4_)) (list_:List Int):Option Bool:=
 loop (Zlz m list_) (0:Int)
/-- spec.l6Linear -/
def Zi9 (r_:Int×(List Int)×(List Int)×Int×(List (List Int))):Int→Option (Int⊕Bool):=fun i=>
 cond (decide (i<(r_.2.2.1.length:Int))) (
  rq (0≤i∧i<r_.2.2.1.length) <|
  cond (decide ((r_.2.2.1.getD i.toNat 0)<(-9:Int))) (
   some (.inr false)) (
   rq (0≤i∧i<r_.2.2.1.length) <|
   cond (decide ((9:Int)<(r_.2.2.1.getD i.toNat 0))) (
    some (.inr false)) (
    rq (0≤i∧i<r_.2.2.1.length) <|
    cond ((r_.2.2.1.getD i.toNat 0)==(0:Int)) (
     some (.inr false)) (
     rq (i64 (i+(1:Int))) <|
     some (.inl (i+(1:Int))))))) (
  cond ((r_.2.2.1.length:Int)==(r_.2.1.length:Int)) (
   cond (decide ((-1000:Int)≤r_.2.2.2.1)) (
    some (.inr (decide (r_.2.2.2.1≤(1000:Int))))) (
    some (.inr false))) (
   some (.inr false)))
def Zjq (r_:Int×(List Int)×(List Int)×Int×(List (List Int))):Option Bool:=
 loop (Zi9 r_) (0:Int)
/-- spec.l6Table -/
def ZhH (r_:Int×(List Int)×(List Int)×Int×(List (List Int))) (i:Int):Int→Option (Int⊕(Int⊕Bool)):=fun k_=>
 rq (0≤i∧i<r_.2.2.2.2.length) <|
 cond (decide (k_<((r_.2.2.2.2.getD i.toNat []).length:Int))) (
  rq (0≤i∧i<r_.2.2.2.2.length) <|
  rq (0≤k_∧k_<(r_.2.2.2.2.getD i.toNat []).length) <|
  cond (decide (((r_.2.2.2.2.getD i.toNat []).getD k_.toNat 0)<(0:Int))) (
   some (.inr (.inr false))) (
   rq (0≤i∧i<r_.2.2.2.2.length) <|
   rq (0≤k_∧k_<(r_.2.2.2.2.getD i.toNat []).length) <|
   cond (decide ((3:Int)<((r_.2.2.2.2.getD i.toNat []).getD k_.toNat 0))) (
    some (.inr (.inr false))) (
    rq (i64 (k_+(1:Int))) <|
    some (.inl (k_+(1:Int)))))) (
  rq (i64 (i+(1:Int))) <|
  some (.inr (.inl (i+(1:Int)))))
def Zko (r_:Int×(List Int)×(List Int)×Int×(List (List Int))):Int→Option (Int⊕Bool):=fun i=>
 cond (decide (i<(r_.2.2.2.2.length:Int))) (
  rq (0≤i∧i<r_.2.2.2.2.length) <|
  cond (((r_.2.2.2.2.getD i.toNat []).length:Int) != (r_.2.1.length:Int)) (
   some (.inr false)) (
   loop (ZhH r_ i) (0:Int))) (
  some (.inr (decide ((r_.2.2.2.2.length:Int)≤(8:Int)))))
def Zla (r_:Int×(List Int)×(List Int)×Int×(List (List Int))):Option Bool:=
 loop (Zko r_) (0:Int)
/-- spec.l6Rule -/
def ZeV (r_:Int×(List Int)×(List Int)×Int×(List (List Int))):Unit→Option Bool:=fun _=>
 cond (r_.1==(1:Int)) (
  (Zjq r_).bind fun r2_=>
  some r2_) (
  cond (r_.1==(2:Int)) (
   some true) (
   cond (r_.1==(3:Int)) (
    (Zla r_).bind fun r3_=>
    some r3_) (
    cond (r_.1==(4:Int)) (
     some ((r_.2.1.length:Int)==(2:Int))) (
     some false))))
def Zl8 (m:(List Int)×(List D4_)) (r_:Int×(List Int)×(List Int)×Int×(List (List Int))):Option Bool:=
 (Zl9 m r_.2.1).bind fun r1_=>
 cond (!r1_) (
  some false) (
  cond (r_.1 != (1:Int)) (
   cond ((r_.2.2.1.length:Int) != (0:Int)) (
    some false) (
    cond (r_.2.2.2.1 != (0:Int)) (
     some false) (
     cond (r_.1 != (3:Int)) (
      cond ((r_.2.2.2.2.length:Int) != (0:Int)) (
       some false) (
       ZeV r_ ())) (
      ZeV r_ ())))) (
   cond (r_.1 != (3:Int)) (
    cond ((r_.2.2.2.2.length:Int) != (0:Int)) (
     some false) (
     ZeV r_ ())) (
    ZeV r_ ())))
/-- spec.ModelValid -/
def ZhE (a0:(List Int)×(List D4_)):Int→Option (Int⊕Bool):=fun i3=>
 cond (decide (i3<(a0.2.length:Int))) (
  rq (0≤i3∧i3<a0.2.length) <|
  (Zl8 a0 (a0.2.getD i3.toNat (0,([],([],(0,[])))))).bind fun r2_=>
  cond (!r2_) (
   some (.inr false)) (
   rq (i64 (i3+(1:Int))) <|
   some (.inl (i3+(1:Int))))) (
  some (.inr true))
def Zfk (a0:(List Int)×(List D4_)):Int→Option Bool:=fun i2=>
 cond (decide ((a0.1.length:Int)<(1:Int))) (
  some false) (
  cond (decide ((5:Int)<(a0.1.length:Int))) (
   some false) (
   cond (decide ((12:Int)<i2)) (
    some false) (
    cond (decide ((8:Int)<(a0.2.length:Int))) (
     some false) (
     loop (ZhE a0) (0:Int)))))
def Zk8 (a0:(List Int)×(List D4_)):Int×Int→Option ((Int×Int)⊕Bool):=fun (i,i1)=>
 cond (decide (i1<(a0.1.length:Int))) (
  cond (decide (i1<(5:Int))) (
   rq (0≤i1∧i1<a0.1.length) <|
   cond (decide ((a0.1.getD i1.toNat 0)<(0:Int))) (
    some (.inr false)) (
    rq (0≤i1∧i1<a0.1.length) <|
    cond (decide ((3:Int)<(a0.1.getD i1.toNat 0))) (
     some (.inr false)) (
     rq (0≤i1∧i1<a0.1.length) <|
     rq (i64 (i+(a0.1.getD i1.toNat 0))) <|
     rq (i64 ((i+(a0.1.getD i1.toNat 0))+(1:Int))) <|
     rq (i64 (i1+(1:Int))) <|
     some (.inl (((i+(a0.1.getD i1.toNat 0))+(1:Int)),(i1+(1:Int))))))) (
   up (Zfk a0 i))) (
  up (Zfk a0 i))
def Zel (a0:(List Int)×(List D4_)):Option Bool:=
 loop (Zk8 a0) ((0:Int),(0:Int))
/-- spec.l7Var -/
def ZpL (m:(List Int)×(List D4_)) (cell:Int):Int×Int→Option ((Int×Int)⊕Int):=fun (n,i)=>
 cond (decide (i<cell)) (
  rq (0≤i∧i<m.1.length) <|
  rq (i64 (n+(m.1.getD i.toNat 0))) <|
  rq (i64 ((n+(m.1.getD i.toNat 0))+(1:Int))) <|
  rq (i64 (i+(1:Int))) <|
  some (.inl (((n+(m.1.getD i.toNat 0))+(1:Int)),(i+(1:Int))))) (
  some (.inr n))
def Ze0 (m:(List Int)×(List D4_)) (cell:Int) (value:Int):Option Int:=
 rq (i64 ((1:Int)+value)) <|
 loop (ZpL m cell) (((1:Int)+value),(0:Int))
/-- spec.l1Lit -/
def Zlw (n:Int):Option Bool:=
 cond (n != (0:Int)) (
  cond (decide ((-12:Int)≤n)) (
   some (decide (n≤(12:Int)))) (
   some false)) (
  some false)
/-- spec.l1Abs -/
def Zi5 (n:Int):Option Int:=
 cond (decide (n<(0:Int))) (
  rq (i64 (0 - n)) <|
  some (0 - n)) (
  some n)
/-- spec.ClauseOf -/
def ZgB (i2:List Int):Int×(List D5_)→Option ((Int×(List D5_))⊕(Bool×Int×(List D5_))):=fun (i3,i_0)=>
 cond (decide (i3≤(12:Int))) (
  rq (0≤i3∧i3<i2.length) <|
  cond ((i2.getD i3.toNat 0) != (0:Int)) (
   rq (0≤i3∧i3<i2.length) <|
   rq (i_0.length+[((1:Int),(i2.getD i3.toNat 0))].length≤Zp) <|
   rq (i64 (i3+(1:Int))) <|
   some (.inl ((i3+(1:Int)),(i_0++[((1:Int),(i2.getD i3.toNat 0))])))) (
   rq (i64 (i3+(1:Int))) <|
   some (.inl ((i3+(1:Int)),i_0)))) (
  some (.inr (true,(1:Int),i_0)))
def ZmS:(List Int)→Option (Bool×Int×(List D5_)):=fun i2=>
 loop (ZgB i2) ((1:Int),([]:List D5_))
def Zi2 (a0:List Int):Int×(List Int)→Option ((Int×(List Int))⊕(Bool×Int×(List D5_))):=fun (i,i1)=>
 cond (decide (i<(a0.length:Int))) (
  rq (0≤i∧i<a0.length) <|
  (Zlw (a0.getD i.toNat 0)).bind fun r3_=>
  cond (!r3_) (
   some (.inr (false,(0:Int),([]:List D5_)))) (
   rq (0≤i∧i<a0.length) <|
   (Zi5 (a0.getD i.toNat 0)).bind fun r4_=>
   rq (0≤r4_∧r4_<i1.length) <|
   rq (0≤i∧i<a0.length) <|
   rq (i64 (0 - (a0.getD i.toNat 0))) <|
   cond ((i1.getD r4_.toNat 0)==(0 - (a0.getD i.toNat 0))) (
    some (.inr (false,(0:Int),([]:List D5_)))) (
    rq (0≤i∧i<a0.length) <|
    rq (0≤r4_∧r4_<i1.length) <|
    rq (i64 (i+(1:Int))) <|
    some (.inl ((i+(1:Int)),(i1.set r4_.toNat (a0.getD i.toNat 0))))))) (
  up (ZmS i1))
def ZfB (a0:List Int):Option (Bool×Int×(List D5_)):=
 rq (0≤(13:Int)∧(13:Int)≤Zp∧(13:Int)=(13:Int)) <|
 cond (decide ((40:Int)<(a0.length:Int))) (
  some (false,(0:Int),([]:List D5_))) (
  loop (Zi2 a0) ((0:Int),(List.replicate (13:Int).toNat 0)))
/-- spec.l7Most -/
def Ziw (vars:List Int):Int×(List D5_)→Option ((Int×(List D5_))⊕(Int×(List D5_))):=fun (i,c_0)=>
 cond (decide (i<(vars.length:Int))) (
  rq (0≤i∧i<vars.length) <|
  rq (i64 (0 - (vars.getD i.toNat 0))) <|
  rq (c_0.length+[((1:Int),(0 - (vars.getD i.toNat 0)))].length≤Zp) <|
  rq (i64 (i+(1:Int))) <|
  some (.inl ((i+(1:Int)),(c_0++[((1:Int),(0 - (vars.getD i.toNat 0)))])))) (
  some (.inr (((vars.length:Int) - (1:Int)),c_0)))
def Zjy (vars:List Int):Option (Int×(List D5_)):=
 rq (i64 ((vars.length:Int) - (1:Int))) <|
 loop (Ziw vars) ((0:Int),([]:List D5_))
/-- spec.l7Cell -/
def Ziu:(List Int)→Option (List D6_):=fun vars1=>
 (ZfB vars1).bind fun r3_=>
 (Zjy vars1).bind fun r5_=>
 some [(r3_.2.2,r3_.2.1),(r5_.2,r5_.1)]
def Ziv (m:(List Int)×(List D4_)) (cell:Int):Int×(List Int)→Option ((Int×(List Int))⊕(List D6_)):=fun (k_,vars)=>
 rq (0≤cell∧cell<m.1.length) <|
 cond (decide (k_≤(m.1.getD cell.toNat 0))) (
  (Ze0 m cell k_).bind fun r2_=>
  rq (vars.length+[r2_].length≤Zp) <|
  rq (i64 (k_+(1:Int))) <|
  some (.inl ((k_+(1:Int)),(vars++[r2_])))) (
  up (Ziu vars))
def Zma (m:(List Int)×(List D4_)) (cell:Int):Option (List D6_):=
 loop (Ziv m cell) ((0:Int),([]:List Int))
/-- spec.ConstraintValid -/
def Zez (c_:(List D5_)×Int):Int→Option (Int⊕Bool):=fun i=>
 cond (decide (i<(c_.1.length:Int))) (
  rq (0≤i∧i<c_.1.length) <|
  (Zlw (c_.1.getD i.toNat (0,0)).2).bind fun r4_=>
  cond (!r4_) (
   some (.inr false)) (
   cond (decide ((c_.1.getD i.toNat (0,0)).1<(1:Int))) (
    some (.inr false)) (
    cond (decide ((1000:Int)<(c_.1.getD i.toNat (0,0)).1)) (
     some (.inr false)) (
     cond (decide ((0:Int)<i)) (
      rq (i64 (i - (1:Int))) <|
      rq (0≤(i - (1:Int))∧(i - (1:Int))<c_.1.length) <|
      (Zi5 (c_.1.getD (i - (1:Int)).toNat (0,0)).2).bind fun r5_=>
      (Zi5 (c_.1.getD i.toNat (0,0)).2).bind fun r6_=>
      cond (decide (r6_≤r5_)) (
       some (.inr false)) (
       rq (i64 (i+(1:Int))) <|
       some (.inl (i+(1:Int))))) (
      rq (i64 (i+(1:Int))) <|
      some (.inl (i+(1:Int)))))))) (
  cond (decide ((0:Int)≤c_.2)) (
   some (.inr (decide (c_.2≤(20000:Int))))) (
   some (.inr false)))
def Zdx (c_:(List D5_)×Int):Option Bool:=
 loop (Zez c_) (0:Int)
/-- spec.l1Normal -/
def ZgD (c_03:List D5_):Int→Option (Bool×Int×(List D5_)):=fun bound_3=>
 (Zdx (c_03,bound_3)).bind fun r1_=>
 cond (!r1_) (
  some (false,(0:Int),([]:List D5_))) (
  some (true,bound_3,c_03))
def ZmT:Int×(List D5_)→Option (Bool×Int×(List D5_)):=fun (bound_2,c_03)=>
 cond (decide (bound_2<(0:Int))) (
  ZgD c_03 (0:Int)) (
  ZgD c_03 bound_2)
def ZmU (net:List Int) (bound_1:Int) (v:Int) (c_02:List D5_):Unit→Option ((Int×Int×(List D5_))⊕(Bool×Int×(List D5_))):=fun _=>
 rq (0≤v∧v<net.length) <|
 rq (i64 (bound_1 - (net.getD v.toNat 0))) <|
 rq (i64 (v+(1:Int))) <|
 some (.inl ((bound_1 - (net.getD v.toNat 0)),(v+(1:Int)),(c_02++[((0 - (net.getD v.toNat 0)),(0 - v))])))
def Zi6 (net:List Int) (bound_1:Int) (v:Int):(List D5_)→Option ((Int×Int×(List D5_))⊕(Bool×Int×(List D5_))):=fun c_02=>
 rq (0≤v∧v<net.length) <|
 cond (decide ((net.getD v.toNat 0)<(0:Int))) (
  rq (0≤v∧v<net.length) <|
  rq (i64 (0 - (net.getD v.toNat 0))) <|
  rq (i64 (0 - v)) <|
  rq (c_02.length+[((0 - (net.getD v.toNat 0)),(0 - v))].length≤Zp) <|
  ZmU net bound_1 v c_02 ()) (
  rq (i64 (v+(1:Int))) <|
  some (.inl (bound_1,(v+(1:Int)),c_02)))
def Zi7 (net:List Int):Int×Int×(List D5_)→Option ((Int×Int×(List D5_))⊕(Bool×Int×(List D5_))):=fun (bound_1,v,c_01)=>
 cond (decide (v≤(12:Int))) (
  rq (0≤v∧v<net.length) <|
  cond (decide ((0:Int)<(net.getD v.toNat 0))) (
   rq (0≤v∧v<net.length) <|
   rq (c_01.length+[((net.getD v.toNat 0),v)].length≤Zp) <|
   Zi6 net bound_1 v (c_01++[((net.getD v.toNat 0),v)])) (
   Zi6 net bound_1 v c_01)) (
  up (ZmT (bound_1,c_01)))
def Zhh (net:List Int) (bound_:Int):Option (Bool×Int×(List D5_)):=
 loop (Zi7 net) (bound_,(1:Int),([]:List D5_))
/-- spec.l7Linear -/
def Zjc (r_:Int×(List Int)×(List Int)×Int×(List (List Int))):(List Int)→Option (List D6_):=fun net3=>
 (Zhh net3 r_.2.2.2.1).bind fun r6_=>
 some [(r6_.2.2,r6_.2.1)]
def Zjd (m:(List Int)×(List D4_)) (r_:Int×(List Int)×(List Int)×Int×(List (List Int))) (i:Int):Int×(List Int)→Option ((Int×(List Int))⊕((Int×(List Int))⊕(List D6_))):=fun (k_1,net2)=>
 rq (0≤i∧i<r_.2.1.length) <|
 rq (0≤(r_.2.1.getD i.toNat 0)∧(r_.2.1.getD i.toNat 0)<m.1.length) <|
 cond (decide (k_1≤(m.1.getD (r_.2.1.getD i.toNat 0).toNat 0))) (
  rq (0≤i∧i<r_.2.1.length) <|
  (Ze0 m (r_.2.1.getD i.toNat 0) k_1).bind fun r5_=>
  rq (0≤i∧i<r_.2.2.1.length) <|
  rq (i64 ((r_.2.2.1.getD i.toNat 0)*k_1)) <|
  rq (0≤r5_∧r5_<net2.length) <|
  rq (i64 (k_1+(1:Int))) <|
  some (.inl ((k_1+(1:Int)),(net2.set r5_.toNat ((r_.2.2.1.getD i.toNat 0)*k_1))))) (
  rq (i64 (i+(1:Int))) <|
  some (.inr (.inl ((i+(1:Int)),net2))))
def ZmX (m:(List Int)×(List D4_)) (r_:Int×(List Int)×(List Int)×Int×(List (List Int))):Int×(List Int)→Option ((Int×(List Int))⊕(List D6_)):=fun (i,net1)=>
 cond (decide (i<(r_.2.1.length:Int))) (
  loop (Zjd m r_ i) ((0:Int),net1)) (
  up (Zjc r_ net1))
def Zjs (m:(List Int)×(List D4_)) (r_:Int×(List Int)×(List Int)×Int×(List (List Int))):Option (List D6_):=
 rq (0≤(13:Int)∧(13:Int)≤Zp∧(13:Int)=(13:Int)) <|
 loop (ZmX m r_) ((0:Int),(List.replicate (13:Int).toNat 0))
/-- spec.l7Sorted -/
def Zjf (i:Int):Int×(List Int)→Option ((Int×(List Int))⊕((Int×(List Int))⊕(List Int))):=fun (k_1,out2)=>
 cond (decide ((0:Int)<k_1)) (
  rq (0≤k_1∧k_1<out2.length) <|
  rq (i64 (k_1 - (1:Int))) <|
  rq (0≤(k_1 - (1:Int))∧(k_1 - (1:Int))<out2.length) <|
  cond (decide ((out2.getD k_1.toNat 0)<(out2.getD (k_1 - (1:Int)).toNat 0))) (
   rq (0≤k_1∧k_1<out2.length) <|
   rq (i64 (k_1 - (1:Int))) <|
   rq (0≤(k_1 - (1:Int))∧(k_1 - (1:Int))<out2.length) <|
   rq (0≤k_1∧k_1<out2.length) <|
   rq (i64 (k_1 - (1:Int))) <|
   rq (0≤(k_1 - (1:Int))∧(k_1 - (1:Int))<(out2.set k_1.toNat (out2.getD (k_1 - (1:Int)).toNat 0)).length) <|
   rq (i64 (k_1 - (1:Int))) <|
   some (.inl ((k_1 - (1:Int)),((out2.set k_1.toNat (out2.getD (k_1 - (1:Int)).toNat 0)).set (k_1 - (1:Int)).toNat (out2.getD k_1.toNat 0))))) (
   rq (i64 (i+(1:Int))) <|
   some (.inr (.inl ((i+(1:Int)),out2))))) (
  rq (i64 (i+(1:Int))) <|
  some (.inr (.inl ((i+(1:Int)),out2))))
def Zje:Int×(List Int)→Option ((Int×(List Int))⊕(List Int)):=fun (i,out1)=>
 cond (decide (i<(out1.length:Int))) (
  loop (Zjf i) (i,out1)) (
  some (.inr out1))
def Zjt (list_:List Int):Option (List Int):=
 rq (([]:List Int).length+list_.length≤Zp) <|
 loop (Zje) ((0:Int),(([]:List Int)++list_))
/-- spec.l7Different -/
def ZeJ (k_:Int) (out:List D6_):(List Int)→Option ((Int×(List D6_))⊕(List D6_)):=fun vars3=>
 cond (decide ((1:Int)<(vars3.length:Int))) (
  (Zjt vars3).bind fun r8_=>
  (Zjy r8_).bind fun r9_=>
  rq (out.length+[(r9_.2,r9_.1)].length≤Zp) <|
  rq (i64 (k_+(1:Int))) <|
  some (.inl ((k_+(1:Int)),(out++[(r9_.2,r9_.1)])))) (
  rq (i64 (k_+(1:Int))) <|
  some (.inl ((k_+(1:Int)),out)))
def ZeK (m:(List Int)×(List D4_)) (r_:Int×(List Int)×(List Int)×Int×(List (List Int))) (k_:Int) (out:List D6_):Int×(List Int)→Option ((Int×(List Int))⊕((Int×(List D6_))⊕(List D6_))):=fun (i1,vars2)=>
 cond (decide (i1<(r_.2.1.length:Int))) (
  rq (0≤i1∧i1<r_.2.1.length) <|
  rq (0≤(r_.2.1.getD i1.toNat 0)∧(r_.2.1.getD i1.toNat 0)<m.1.length) <|
  cond (decide (k_≤(m.1.getD (r_.2.1.getD i1.toNat 0).toNat 0))) (
   rq (0≤i1∧i1<r_.2.1.length) <|
   (Ze0 m (r_.2.1.getD i1.toNat 0) k_).bind fun r7_=>
   rq (vars2.length+[r7_].length≤Zp) <|
   rq (i64 (i1+(1:Int))) <|
   some (.inl ((i1+(1:Int)),(vars2++[r7_])))) (
   rq (i64 (i1+(1:Int))) <|
   some (.inl ((i1+(1:Int)),vars2)))) (
  up (ZeJ k_ out vars2))
def Zj3 (m:(List Int)×(List D4_)) (r_:Int×(List Int)×(List Int)×Int×(List (List Int))):Int×(List D6_)→Option ((Int×(List D6_))⊕(List D6_)):=fun (k_,out)=>
 cond (decide (k_≤(3:Int))) (
  loop (ZeK m r_ k_ out) ((0:Int),([]:List Int))) (
  some (.inr out))
def ZgF (m:(List Int)×(List D4_)) (r_:Int×(List Int)×(List Int)×Int×(List (List Int))):Option (List D6_):=
 loop (Zj3 m r_) ((0:Int),([]:List D6_))
/-- spec.l6Ints -/
def Zlx (a:List Int) (b:List Int):Int→Option (Int⊕Bool):=fun i=>
 cond (decide (i<(a.length:Int))) (
  rq (0≤i∧i<a.length) <|
  rq (0≤i∧i<b.length) <|
  cond ((a.getD i.toNat 0) != (b.getD i.toNat 0)) (
   some (.inr false)) (
   rq (i64 (i+(1:Int))) <|
   some (.inl (i+(1:Int))))) (
  some (.inr true))
def Zl7 (a:List Int) (b:List Int):Option Bool:=
 cond ((a.length:Int) != (b.length:Int)) (
  some false) (
  loop (Zlx a b) (0:Int))
/-- spec.l6Holds -/
def ZnN (a0:Int×(List Int)×(List Int)×Int×(List (List Int))) (i2:List Int):Int×Int→Option ((Int×Int)⊕Bool):=fun (i3,i4)=>
 cond (decide (i4<(i2.length:Int))) (
  rq (0≤i4∧i4<a0.2.2.1.length) <|
  rq (0≤i4∧i4<i2.length) <|
  rq (i64 ((a0.2.2.1.getD i4.toNat 0)*(i2.getD i4.toNat 0))) <|
  rq (i64 (i3+((a0.2.2.1.getD i4.toNat 0)*(i2.getD i4.toNat 0)))) <|
  rq (i64 (i4+(1:Int))) <|
  some (.inl ((i3+((a0.2.2.1.getD i4.toNat 0)*(i2.getD i4.toNat 0))),(i4+(1:Int))))) (
  some (.inr (decide (a0.2.2.2.1≤i3))))
def ZhG (i2:List Int) (i5:Int):Int→Option (Int⊕(Int⊕Bool)):=fun i6=>
 cond (decide (i6<i5)) (
  rq (0≤i6∧i6<i2.length) <|
  rq (0≤i5∧i5<i2.length) <|
  cond ((i2.getD i6.toNat 0)==(i2.getD i5.toNat 0)) (
   some (.inr (.inr false))) (
   rq (i64 (i6+(1:Int))) <|
   some (.inl (i6+(1:Int))))) (
  rq (i64 (i5+(1:Int))) <|
  some (.inr (.inl (i5+(1:Int)))))
def ZhF (i2:List Int):Int→Option (Int⊕Bool):=fun i5=>
 cond (decide (i5<(i2.length:Int))) (
  loop (ZhG i2 i5) (0:Int)) (
  some (.inr true))
def Zkm (a0:Int×(List Int)×(List Int)×Int×(List (List Int))) (i2:List Int):Int→Option (Int⊕Bool):=fun i7=>
 cond (decide (i7<(a0.2.2.2.2.length:Int))) (
  rq (0≤i7∧i7<a0.2.2.2.2.length) <|
  (Zl7 (a0.2.2.2.2.getD i7.toNat []) i2).bind fun r1_=>
  cond r1_ (
   some (.inr true)) (
   rq (i64 (i7+(1:Int))) <|
   some (.inl (i7+(1:Int))))) (
  some (.inr false))
def Zkl (a0:Int×(List Int)×(List Int)×Int×(List (List Int))):(List Int)→Option Bool:=fun i2=>
 cond (a0.1==(1:Int)) (
  loop (ZnN a0 i2) ((0:Int),(0:Int))) (
  cond (a0.1==(2:Int)) (
   loop (ZhF i2) (0:Int)) (
   cond (a0.1==(4:Int)) (
    rq (0≤(0:Int)∧(0:Int)<i2.length) <|
    rq (0≤(1:Int)∧(1:Int)<i2.length) <|
    some (decide ((i2.getD (0:Int).toNat 0)<(i2.getD (1:Int).toNat 0)))) (
    loop (Zkm a0 i2) (0:Int))))
def Zkn (a0:Int×(List Int)×(List Int)×Int×(List (List Int))) (a1:List Int):Int×(List Int)→Option ((Int×(List Int))⊕Bool):=fun (i,i1)=>
 cond (decide (i<(a0.2.1.length:Int))) (
  rq (0≤i∧i<a0.2.1.length) <|
  rq (0≤(a0.2.1.getD i.toNat 0)∧(a0.2.1.getD i.toNat 0)<a1.length) <|
  rq (i1.length+[(a1.getD (a0.2.1.getD i.toNat 0).toNat 0)].length≤Zp) <|
  rq (i64 (i+(1:Int))) <|
  some (.inl ((i+(1:Int)),(i1++[(a1.getD (a0.2.1.getD i.toNat 0).toNat 0)])))) (
  up (Zkl a0 i1))
def Zk9 (a0:Int×(List Int)×(List Int)×Int×(List (List Int))) (a1:List Int):Option Bool:=
 loop (Zkn a0 a1) ((0:Int),([]:List Int))
/-- spec.l6Next -/
def Zly (m:(List Int)×(List D4_)):Int×(List Int)→Option ((Int×(List Int))⊕(Bool×(List Int))):=fun (i,out)=>
 cond (decide ((0:Int)≤i)) (
  rq (0≤i∧i<out.length) <|
  rq (0≤i∧i<m.1.length) <|
  cond (decide ((out.getD i.toNat 0)<(m.1.getD i.toNat 0))) (
   rq (0≤i∧i<out.length) <|
   rq (i64 ((out.getD i.toNat 0)+(1:Int))) <|
   rq (0≤i∧i<out.length) <|
   some (.inr (true,(out.set i.toNat ((out.getD i.toNat 0)+(1:Int)))))) (
   rq (0≤i∧i<out.length) <|
   rq (i64 (i - (1:Int))) <|
   some (.inl ((i - (1:Int)),(out.set i.toNat (0:Int)))))) (
  some (.inr (false,out)))
def Zjx (m:(List Int)×(List D4_)) (cells:List Int):Option (Bool×(List Int)):=
 rq (([]:List Int).length+cells.length≤Zp) <|
 rq (i64 (((([]:List Int)++cells).length:Int) - (1:Int))) <|
 loop (Zly m) ((((([]:List Int)++cells).length:Int) - (1:Int)),(([]:List Int)++cells))
/-- spec.l7Forbid -/
def ZgI (i_01:List Int) (i9:List Int):(List D6_)→Option ((Bool×(List D6_)×(List Int))⊕(List D6_)):=fun i15=>
 (Zjx (i_01,([]:List D4_)) i9).bind fun r11_=>
 some (.inl (r11_.1,i15,r11_.2))
def ZgH (a1:Int×(List Int)×(List Int)×Int×(List (List Int))) (i_01:List Int) (i8:List D6_) (i9:List Int):(List Int)×(List Int)→Option ((Bool×(List D6_)×(List Int))⊕(List D6_)):=fun (i13,i14)=>
 (Zk9 a1 i13).bind fun r9_=>
 cond (!r9_) (
  (ZfB i14).bind fun r10_=>
  rq (i8.length+[(r10_.2.2,r10_.2.1)].length≤Zp) <|
  ZgI i_01 i9 (i8++[(r10_.2.2,r10_.2.1)])) (
  ZgI i_01 i9 i8)
def ZmW (a0:(List Int)×(List D4_)) (a1:Int×(List Int)×(List Int)×Int×(List (List Int))) (i9:List Int) (i10:Int) (i11:List Int) (i12:List Int):Unit→Option ((Int×(List Int)×(List Int))⊕((Bool×(List D6_)×(List Int))⊕(List D6_))):=fun _=>
 rq (0≤i10∧i10<i9.length) <|
 rq (0≤i10∧i10<a1.2.1.length) <|
 (Ze0 a0 (a1.2.1.getD i10.toNat 0) (i9.getD i10.toNat 0)).bind fun r8_=>
 rq (i64 (0 - r8_)) <|
 rq (i12.length+[(0 - r8_)].length≤Zp) <|
 rq (i64 (i10+(1:Int))) <|
 some (.inl ((i10+(1:Int)),(i11.set (a1.2.1.getD i10.toNat 0).toNat (i9.getD i10.toNat 0)),(i12++[(0 - r8_)])))
def Zjb (a0:(List Int)×(List D4_)) (a1:Int×(List Int)×(List Int)×Int×(List (List Int))) (i_01:List Int) (i8:List D6_) (i9:List Int):Int×(List Int)×(List Int)→Option ((Int×(List Int)×(List Int))⊕((Bool×(List D6_)×(List Int))⊕(List D6_))):=fun (i10,i11,i12)=>
 cond (decide (i10<(i9.length:Int))) (
  rq (0≤i10∧i10<i9.length) <|
  rq (0≤i10∧i10<a1.2.1.length) <|
  rq (0≤(a1.2.1.getD i10.toNat 0)∧(a1.2.1.getD i10.toNat 0)<i11.length) <|
  ZmW a0 a1 i9 i10 i11 i12 ()) (
  up (ZgH a1 i_01 i8 i9 (i11,i12)))
def Zja (a0:(List Int)×(List D4_)) (a1:Int×(List Int)×(List Int)×Int×(List (List Int))) (i_01:List Int):Bool×(List D6_)×(List Int)→Option ((Bool×(List D6_)×(List Int))⊕(List D6_)):=fun (i1,i8,i9)=>
 cond i1 (
  rq (0≤(a0.1.length:Int)∧(a0.1.length:Int)≤Zp∧(a0.1.length:Int)=(a0.1.length:Int)) <|
  loop (Zjb a0 a1 i_01 i8 i9) ((0:Int),(List.replicate (a0.1.length:Int).toNat 0),([]:List Int))) (
  some (.inr i8))
def ZgG (a0:(List Int)×(List D4_)) (a1:Int×(List Int)×(List Int)×Int×(List (List Int))):(List Int)→Option (List D6_):=fun i_01=>
 rq (0≤(a1.2.1.length:Int)∧(a1.2.1.length:Int)≤Zp∧(a1.2.1.length:Int)=(a1.2.1.length:Int)) <|
 loop (Zja a0 a1 i_01) (true,([]:List D6_),(List.replicate (a1.2.1.length:Int).toNat 0))
def ZgJ (a0:(List Int)×(List D4_)) (a1:Int×(List Int)×(List Int)×Int×(List (List Int))):Int×(List Int)→Option ((Int×(List Int))⊕(List D6_)):=fun (i,i_0)=>
 cond (decide (i<(a1.2.1.length:Int))) (
  rq (0≤i∧i<a1.2.1.length) <|
  rq (0≤(a1.2.1.getD i.toNat 0)∧(a1.2.1.getD i.toNat 0)<a0.1.length) <|
  rq (i_0.length+[(a0.1.getD (a1.2.1.getD i.toNat 0).toNat 0)].length≤Zp) <|
  rq (i64 (i+(1:Int))) <|
  some (.inl ((i+(1:Int)),(i_0++[(a0.1.getD (a1.2.1.getD i.toNat 0).toNat 0)])))) (
  up (ZgG a0 a1 i_0))
def Zjr (a0:(List Int)×(List D4_)) (a1:Int×(List Int)×(List Int)×Int×(List (List Int))):Option (List D6_):=
 loop (ZgJ a0 a1) ((0:Int),([]:List Int))
/-- spec.l7Rule -/
def Zmb (m:(List Int)×(List D4_)) (r_:Int×(List Int)×(List Int)×Int×(List (List Int))):Option (List D6_):=
 cond (r_.1==(1:Int)) (
  (Zjs m r_).bind fun r1_=>
  some r1_) (
  cond (r_.1==(2:Int)) (
   (ZgF m r_).bind fun r2_=>
   some r2_) (
   (Zjr m r_).bind fun r3_=>
   some r3_))
/-- spec.EncodeModel -/
def ZgU:(List D6_)→Option (Bool×(List D6_)):=fun out3=>
 cond (decide ((400:Int)<(out3.length:Int))) (
  some (false,([]:List D6_))) (
  some (true,out3))
def ZgV (m:(List Int)×(List D4_)):Int×(List D6_)→Option ((Int×(List D6_))⊕(Bool×(List D6_))):=fun (i1,out2)=>
 cond (decide (i1<(m.2.length:Int))) (
  rq (0≤i1∧i1<m.2.length) <|
  (Zmb m (m.2.getD i1.toNat (0,([],([],(0,[])))))).bind fun r6_=>
  rq (out2.length+r6_.length≤Zp) <|
  rq (i64 (i1+(1:Int))) <|
  some (.inl ((i1+(1:Int)),(out2++r6_)))) (
  up (ZgU out2))
def ZgT (m:(List Int)×(List D4_)):(List D6_)→Option (Bool×(List D6_)):=fun out1=>
 loop (ZgV m) ((0:Int),out1)
def ZgW (m:(List Int)×(List D4_)):Int×(List D6_)→Option ((Int×(List D6_))⊕(Bool×(List D6_))):=fun (i,out)=>
 cond (decide (i<(m.1.length:Int))) (
  (Zma m i).bind fun r3_=>
  rq (out.length+r3_.length≤Zp) <|
  rq (i64 (i+(1:Int))) <|
  some (.inl ((i+(1:Int)),(out++r3_)))) (
  up (ZgT m out))
def ZgC (m:(List Int)×(List D4_)):Option (Bool×(List D6_)):=
 (Zel m).bind fun r1_=>
 cond (!r1_) (
  some (false,([]:List D6_))) (
  loop (ZgW m) ((0:Int),([]:List D6_)))
/-- spec.l9Coefs -/
def Zkp (coefs:List Int):Int→Option (Int⊕Bool):=fun i=>
 cond (decide (i<(coefs.length:Int))) (
  rq (0≤i∧i<coefs.length) <|
  cond (decide ((coefs.getD i.toNat 0)<(-9:Int))) (
   some (.inr false)) (
   rq (0≤i∧i<coefs.length) <|
   cond (decide ((9:Int)<(coefs.getD i.toNat 0))) (
    some (.inr false)) (
    rq (i64 (i+(1:Int))) <|
    some (.inl (i+(1:Int)))))) (
  some (.inr true))
def Zix (m:(List Int)×(List D4_)) (coefs:List Int):Option Bool:=
 (Zel m).bind fun r1_=>
 cond (!r1_) (
  some false) (
  cond ((coefs.length:Int) != (m.1.length:Int)) (
   some false) (
   loop (Zkp coefs) (0:Int)))
/-- spec.l9Value -/
def ZnO (coefs:List Int) (cells:List Int):Int×Int→Option ((Int×Int)⊕Int):=fun (n,i)=>
 cond (decide (i<(cells.length:Int))) (
  rq (0≤i∧i<coefs.length) <|
  rq (0≤i∧i<cells.length) <|
  rq (i64 ((coefs.getD i.toNat 0)*(cells.getD i.toNat 0))) <|
  rq (i64 (n+((coefs.getD i.toNat 0)*(cells.getD i.toNat 0)))) <|
  rq (i64 (i+(1:Int))) <|
  some (.inl ((n+((coefs.getD i.toNat 0)*(cells.getD i.toNat 0))),(i+(1:Int))))) (
  some (.inr n))
def Zlb (coefs:List Int) (cells:List Int):Option Int:=
 loop (ZnO coefs cells) ((0:Int),(0:Int))
/-- spec.AtMostConstraint -/
def ZgA (most:Int):(List Int)→Option (Bool×Int×(List D5_)):=fun net3=>
 rq (i64 (0 - most)) <|
 (Zhh net3 (0 - most)).bind fun r7_=>
 some (r7_.1,r7_.2.1,r7_.2.2)
def Zek (m:(List Int)×(List D4_)) (coefs:List Int) (i:Int):Int×(List Int)→Option ((Int×(List Int))⊕((Int×(List Int))⊕(Bool×Int×(List D5_)))):=fun (k_1,net2)=>
 rq (0≤i∧i<m.1.length) <|
 cond (decide (k_1≤(m.1.getD i.toNat 0))) (
  rq (0≤i∧i<coefs.length) <|
  rq (i64 (0 - (coefs.getD i.toNat 0))) <|
  rq (i64 ((0 - (coefs.getD i.toNat 0))*k_1)) <|
  (Ze0 m i k_1).bind fun r6_=>
  rq (0≤r6_∧r6_<net2.length) <|
  rq (i64 (k_1+(1:Int))) <|
  some (.inl ((k_1+(1:Int)),(net2.set r6_.toNat ((0 - (coefs.getD i.toNat 0))*k_1))))) (
  rq (i64 (i+(1:Int))) <|
  some (.inr (.inl ((i+(1:Int)),net2))))
def Zej (m:(List Int)×(List D4_)) (coefs:List Int) (most:Int):Int×(List Int)→Option ((Int×(List Int))⊕(Bool×Int×(List D5_))):=fun (i,net1)=>
 cond (decide (i<(coefs.length:Int))) (
  loop (Zek m coefs i) ((0:Int),net1)) (
  up (ZgA most net1))
def Zd5 (m:(List Int)×(List D4_)) (coefs:List Int) (most:Int):Option (Bool×Int×(List D5_)):=
 (Zix m coefs).bind fun r1_=>
 cond (!r1_) (
  some (false,(0:Int),([]:List D5_))) (
  cond (decide (most<(-1000:Int))) (
   some (false,(0:Int),([]:List D5_))) (
   cond (decide ((1000:Int)<most)) (
    some (false,(0:Int),([]:List D5_))) (
    rq (0≤(13:Int)∧(13:Int)≤Zp∧(13:Int)=(13:Int)) <|
    loop (Zej m coefs most) ((0:Int),(List.replicate (13:Int).toNat 0)))))
/-- spec.ProblemValid -/
def Zf7 (list_:List D6_):Int→Option (Int⊕Bool):=fun i=>
 cond (decide (i<(list_.length:Int))) (
  rq (0≤i∧i<list_.length) <|
  (Zdx (list_.getD i.toNat ([],0))).bind fun r1_=>
  cond (!r1_) (
   some (.inr false)) (
   rq (i64 (i+(1:Int))) <|
   some (.inl (i+(1:Int))))) (
  some (.inr (decide ((list_.length:Int)≤(400:Int)))))
def ZfO (list_:List D6_):Option Bool:=
 loop (Zf7 list_) (0:Int)
/-- spec.l3Assign -/
def Zev (lit:Int) (p:List Int):Option (List Int):=
 cond (decide ((0:Int)<lit)) (
  rq (i64 (lit - (1:Int))) <|
  rq (0≤(lit - (1:Int))∧(lit - (1:Int))<p.length) <|
  some (p.set (lit - (1:Int)).toNat (1:Int))) (
  rq (i64 (0 - lit)) <|
  rq (i64 ((0 - lit) - (1:Int))) <|
  rq (0≤((0 - lit) - (1:Int))∧((0 - lit) - (1:Int))<p.length) <|
  some (p.set ((0 - lit) - (1:Int)).toNat (-1:Int)))
/-- spec.l3State -/
def Zir (p:List Int) (lit:Int):Option Int:=
 cond (decide ((0:Int)<lit)) (
  rq (i64 (lit - (1:Int))) <|
  rq (0≤(lit - (1:Int))∧(lit - (1:Int))<p.length) <|
  some (p.getD (lit - (1:Int)).toNat 0)) (
  rq (i64 (0 - lit)) <|
  rq (i64 ((0 - lit) - (1:Int))) <|
  rq (0≤((0 - lit) - (1:Int))∧((0 - lit) - (1:Int))<p.length) <|
  rq (i64 (0 - (p.getD ((0 - lit) - (1:Int)).toNat 0))) <|
  some (0 - (p.getD ((0 - lit) - (1:Int)).toNat 0)))
/-- spec.l3Slack -/
def Zkk (c_:(List D5_)×Int) (p:List Int):Int×Int→Option ((Int×Int)⊕Int):=fun (n,i)=>
 cond (decide (i<(c_.1.length:Int))) (
  rq (0≤i∧i<c_.1.length) <|
  (Zir p (c_.1.getD i.toNat (0,0)).2).bind fun r1_=>
  cond (decide ((0:Int)≤r1_)) (
   rq (0≤i∧i<c_.1.length) <|
   rq (i64 (n+(c_.1.getD i.toNat (0,0)).1)) <|
   rq (i64 (i+(1:Int))) <|
   some (.inl ((n+(c_.1.getD i.toNat (0,0)).1),(i+(1:Int))))) (
   rq (i64 (i+(1:Int))) <|
   some (.inl (n,(i+(1:Int)))))) (
  some (.inr n))
def Ziq (c_:(List D5_)×Int) (p:List Int):Option Int:=
 rq (i64 (0 - c_.2)) <|
 loop (Zkk c_ p) ((0 - c_.2),(0:Int))
/-- spec.l3Implied -/
def ZfR (c_:(List D5_)×Int) (p:List Int) (r1_:Int):Int×(List Int)→Option ((Int×(List Int))⊕(List Int)):=fun (i,out)=>
 cond (decide (i<(c_.1.length:Int))) (
  cond (decide ((0:Int)≤r1_)) (
   rq (0≤i∧i<c_.1.length) <|
   (Zir p (c_.1.getD i.toNat (0,0)).2).bind fun r3_=>
   cond (r3_==(0:Int)) (
    rq (0≤i∧i<c_.1.length) <|
    cond (decide (r1_<(c_.1.getD i.toNat (0,0)).1)) (
     rq (0≤i∧i<c_.1.length) <|
     rq (out.length+[(c_.1.getD i.toNat (0,0)).2].length≤Zp) <|
     rq (i64 (i+(1:Int))) <|
     some (.inl ((i+(1:Int)),(out++[(c_.1.getD i.toNat (0,0)).2])))) (
     rq (i64 (i+(1:Int))) <|
     some (.inl ((i+(1:Int)),out)))) (
    rq (i64 (i+(1:Int))) <|
    some (.inl ((i+(1:Int)),out)))) (
   some (.inr out))) (
  some (.inr out))
def ZeU (c_:(List D5_)×Int) (p:List Int):Option (List Int):=
 (Ziq c_ p).bind fun r1_=>
 loop (ZfR c_ p r1_) ((0:Int),([]:List Int))
/-- spec.l3Propagate -/
def Zc7 (i1:Int) (r14_:(List Int)):Bool×Int×(List Int)→Option ((Bool×Int×(List Int))⊕((Bool×Int×(List Int))⊕((Bool×(List Int))⊕(Int×(List Int))))):=fun (changed6,k_3,p7)=>
 cond (decide (k_3<(r14_.length:Int))) (
  rq (0≤k_3∧k_3<r14_.length) <|
  (Zev (r14_.getD k_3.toNat 0) p7).bind fun r16_=>
  rq (i64 (k_3+(1:Int))) <|
  some (.inl (true,(k_3+(1:Int)),r16_))) (
  rq (i64 (i1+(1:Int))) <|
  some (.inr (.inl (changed6,(i1+(1:Int)),p7))))
def Zc6 (list_:List D6_):Bool×Int×(List Int)→Option ((Bool×Int×(List Int))⊕((Bool×(List Int))⊕(Int×(List Int)))):=fun (changed4,i1,p6)=>
 cond (decide (i1<(list_.length:Int))) (
  rq (0≤i1∧i1<list_.length) <|
  (Ziq (list_.getD i1.toNat ([],0)) p6).bind fun r13_=>
  cond (decide (r13_<(0:Int))) (
   some (.inr (.inr (i1,p6)))) (
   rq (0≤i1∧i1<list_.length) <|
   (ZeU (list_.getD i1.toNat ([],0)) p6).bind fun r14_=>
   loop (Zc7 i1 r14_) (changed4,(0:Int),p6))) (
  some (.inr (.inl (changed4,p6))))
def ZeI (list_:List D6_):Bool×(List Int)→Option ((Bool×(List Int))⊕(Int×(List Int))):=fun (changed,p4)=>
 cond changed (
  loop (Zc6 list_) (false,(0:Int),p4)) (
  some (.inr ((-1:Int),p4)))
def Zdl (list_:List D6_) (p:List Int):Option (Int×(List Int)):=
 loop (ZeI list_) (true,p)
/-- spec.l5Learn -/
def ZgX (s_2:Int) (o0:List D6_) (o1:List D9_):(List Int)→Option (Int×(List D6_)×(List D9_)):=fun lits1=>
 (ZfB lits1).bind fun r1_=>
 rq (o0.length+[(r1_.2.2,r1_.2.1)].length≤Zp) <|
 rq (o1.length+[((7:Int),((0:Int),((0:Int),(r1_.2.2,r1_.2.1))))].length≤Zp) <|
 some (s_2,(o0++[(r1_.2.2,r1_.2.1)]),(o1++[((7:Int),((0:Int),((0:Int),(r1_.2.2,r1_.2.1))))]))
def Zcw (s_2:Int) (decisions:List Int) (o0:List D6_) (o1:List D9_):Int×(List Int)→Option ((Int×(List Int))⊕(Int×(List D6_)×(List D9_))):=fun (i,lits)=>
 cond (decide (i<(decisions.length:Int))) (
  rq (0≤i∧i<decisions.length) <|
  rq (i64 (0 - (decisions.getD i.toNat 0))) <|
  rq (lits.length+[(0 - (decisions.getD i.toNat 0))].length≤Zp) <|
  rq (i64 (i+(1:Int))) <|
  some (.inl ((i+(1:Int)),(lits++[(0 - (decisions.getD i.toNat 0))])))) (
  up (ZgX s_2 o0 o1 lits))
def Zcm (s_2:Int) (decisions:List Int) (o0:List D6_) (o1:List D9_):Option (Int×(List D6_)×(List D9_)):=
 loop (Zcw s_2 decisions o0 o1) ((0:Int),([]:List Int))
/-- spec.l5Free -/
def Zis (p:List Int):Int→Option (Int⊕Int):=fun i=>
 cond (decide (i<(p.length:Int))) (
  rq (0≤i∧i<p.length) <|
  cond ((p.getD i.toNat 0)==(0:Int)) (
   rq (i64 (i+(1:Int))) <|
   some (.inr (i+(1:Int)))) (
   rq (i64 (i+(1:Int))) <|
   some (.inl (i+(1:Int))))) (
  some (.inr (0:Int)))
def Zgh (p:List Int):Option Int:=
 loop (Zis p) (0:Int)
/-- spec.l5Search -/
def Zi8 (a0_2:Int) (o0:List D6_) (o1:List D9_):(List Bool)→Option (Int×Int×(List Bool)×(List D6_)×(List D9_)):=fun i5=>
 some ((1:Int),(a0_2 - (1:Int)),i5,o0,o1)
def Zck (a0_2:Int) (o0:List D6_) (o1:List D9_) (r3_:Int×(List Int)):Int×(List Bool)→Option ((Int×(List Bool))⊕(Int×Int×(List Bool)×(List D6_)×(List D9_))):=fun (i3,i4)=>
 cond (decide (i3<(r3_.2.length:Int))) (
  rq (0≤i3∧i3<r3_.2.length) <|
  rq (i4.length+[(decide ((0:Int)<(r3_.2.getD i3.toNat 0)))].length≤Zp) <|
  rq (i64 (i3+(1:Int))) <|
  some (.inl ((i3+(1:Int)),(i4++[(decide ((0:Int)<(r3_.2.getD i3.toNat 0)))])))) (
  up (Zi8 a0_2 o0 o1 i4))
def Zf8 (a1:List Int):Int×(List D6_)×(List D9_)→Option (Int×Int×(List Bool)×(List D6_)×(List D9_)):=fun (i_23,i_03,i_13)=>
 cond (decide ((1000:Int)≤(i_13.length:Int))) (
  some ((0:Int),i_23,([]:List Bool),i_03,i_13)) (
  (Zcm i_23 a1 i_03 i_13).bind fun r9_=>
  some ((2:Int),r9_.1,([]:List Bool),r9_.2.1,r9_.2.2))
def Zf9 (i6:Int):Int×Int×(List Bool)×(List D6_)×(List D9_)→Option ((Int×Int×(List D6_)×(List D9_))⊕(Int×Int×(List Bool)×(List D6_)×(List D9_))):=fun (i9,i_22,i10,i_02,i_12)=>
 cond (i9 != (2:Int)) (
  some (.inr (i9,i_22,i10,i_02,i_12))) (
  rq (i64 (i6+(1:Int))) <|
  some (.inl ((i6+(1:Int)),i_22,i_02,i_12)))
def ZdA (a1:List Int) (r5_:Int) (rec_:Int→(List Int)→(List D6_)→(List D9_)→Option (Int×Int×(List Bool)×(List D6_)×(List D9_))):Int×Int×(List D6_)×(List D9_)→Option ((Int×Int×(List D6_)×(List D9_))⊕(Int×Int×(List Bool)×(List D6_)×(List D9_))):=fun (i6,i_21,i_01,i_11)=>
 cond (decide (i6<([r5_,(0 - r5_)].length:Int))) (
  rq (0≤i6∧i6 < [r5_,(0 - r5_)].length) <|
  rq (([]:List Int).length+a1.length≤Zp) <|
  rq ((([]:List Int)++a1).length+[([r5_,(0 - r5_)].getD i6.toNat 0)].length≤Zp) <|
  (rec_ i_21 ((([]:List Int)++a1)++[([r5_,(0 - r5_)].getD i6.toNat 0)]) i_01 i_11).bind fun r8_=>
  Zf9 i6 (r8_.1,r8_.2.1,r8_.2.2.1,r8_.2.2.2.1,r8_.2.2.2.2)) (
  up (Zf8 a1 (i_21,i_01,i_11)))
def ZbT (a0_2:Int) (a1:List Int) (o0:List D6_) (o1:List D9_) (rec_:Int→(List Int)→(List D6_)→(List D9_)→Option (Int×Int×(List Bool)×(List D6_)×(List D9_))):(List Int)→Option (Int×Int×(List Bool)×(List D6_)×(List D9_)):=fun i2=>
 (Zdl o0 i2).bind fun r3_=>
 cond (decide ((0:Int)≤r3_.1)) (
  (Zcm (a0_2 - (1:Int)) a1 o0 o1).bind fun r4_=>
  some ((2:Int),r4_.1,([]:List Bool),r4_.2.1,r4_.2.2)) (
  (Zgh r3_.2).bind fun r5_=>
  cond (r5_==(0:Int)) (
   loop (Zck a0_2 o0 o1 r3_) ((0:Int),([]:List Bool))) (
   rq (i64 (0 - r5_)) <|
   loop (ZdA a1 r5_ rec_) ((0:Int),(a0_2 - (1:Int)),o0,o1)))
def ZcZ (a0_2:Int) (a1:List Int) (o0:List D6_) (o1:List D9_) (rec_:Int→(List Int)→(List D6_)→(List D9_)→Option (Int×Int×(List Bool)×(List D6_)×(List D9_))):Int×(List Int)→Option ((Int×(List Int))⊕(Int×Int×(List Bool)×(List D6_)×(List D9_))):=fun (i,i1)=>
 cond (decide (i<(a1.length:Int))) (
  rq (0≤i∧i<a1.length) <|
  (Zev (a1.getD i.toNat 0) i1).bind fun r2_=>
  rq (i64 (i+(1:Int))) <|
  some (.inl ((i+(1:Int)),r2_))) (
  up (ZbT a0_2 a1 o0 o1 rec_ i1))
def Z7 (rec_:Int→(List Int)→(List D6_)→(List D9_)→Option (Int×Int×(List Bool)×(List D6_)×(List D9_))) (a0_2:Int) (a1:List Int) (o0:List D6_) (o1:List D9_):Option (Int×Int×(List Bool)×(List D6_)×(List D9_)):=
 cond (a0_2==(0:Int)) (
  some ((0:Int),a0_2,([]:List Bool),o0,o1)) (
  cond (decide ((1000:Int)≤(o1.length:Int))) (
   some ((0:Int),a0_2,([]:List Bool),o0,o1)) (
   rq (i64 (a0_2 - (1:Int))) <|
   rq (0≤(12:Int)∧(12:Int)≤Zp∧(12:Int)=(12:Int)) <|
   loop (ZcZ a0_2 a1 o0 o1 rec_) ((0:Int),(List.replicate (12:Int).toNat 0))))
/-- So many calls within calls. -/
def ZR:Nat→Int→(List Int)→(List D6_)→(List D9_)→Option (Int×Int×(List Bool)×(List D6_)×(List D9_))
  |0=>fun _ _ _ _=>none
  |n_+1=>Z7 (ZR n_)
/-- spec.l5Search -/
def Zn2 (a0_2:Int) (o0:List D6_):(List Bool)→Option (Int×Int×(List Bool)×(List D6_)×(List D9_)):=fun i5=>
 some ((1:Int),(a0_2 - (1:Int)),i5,o0,([]:List D9_))
def Zn5 (a0_2:Int) (o0:List D6_) (r3_:Int×(List Int)):Int×(List Bool)→Option ((Int×(List Bool))⊕(Int×Int×(List Bool)×(List D6_)×(List D9_))):=fun (i3,i4)=>
 cond (decide (i3<(r3_.2.length:Int))) (
  rq (0≤i3∧i3<r3_.2.length) <|
  rq (i4.length+[(decide ((0:Int)<(r3_.2.getD i3.toNat 0)))].length≤Zp) <|
  rq (i64 (i3+(1:Int))) <|
  some (.inl ((i3+(1:Int)),(i4++[(decide ((0:Int)<(r3_.2.getD i3.toNat 0)))])))) (
  up (Zn2 a0_2 o0 i4))
def Zn3 (a1:List Int):Int×(List D6_)×(List D9_)→Option (Int×Int×(List Bool)×(List D6_)×(List D9_)):=fun (i_23,i_03,i_13)=>
 cond (decide ((1000:Int)≤(i_13.length:Int))) (
  some ((0:Int),i_23,([]:List Bool),i_03,i_13)) (
  (Zcm i_23 a1 i_03 i_13).bind fun r9_=>
  some ((2:Int),r9_.1,([]:List Bool),r9_.2.1,r9_.2.2))
def Zn4 (i6:Int):Int×Int×(List Bool)×(List D6_)×(List D9_)→Option ((Int×Int×(List D6_)×(List D9_))⊕(Int×Int×(List Bool)×(List D6_)×(List D9_))):=fun (i9,i_22,i10,i_02,i_12)=>
 cond (i9 != (2:Int)) (
  some (.inr (i9,i_22,i10,i_02,i_12))) (
  rq (i64 (i6+(1:Int))) <|
  some (.inl ((i6+(1:Int)),i_22,i_02,i_12)))
def Zj2 (a1:List Int) (r5_:Int):Int×Int×(List D6_)×(List D9_)→Option ((Int×Int×(List D6_)×(List D9_))⊕(Int×Int×(List Bool)×(List D6_)×(List D9_))):=fun (i6,i_21,i_01,i_11)=>
 cond (decide (i6<([r5_,(0 - r5_)].length:Int))) (
  rq (0≤i6∧i6 < [r5_,(0 - r5_)].length) <|
  rq (([]:List Int).length+a1.length≤Zp) <|
  rq ((([]:List Int)++a1).length+[([r5_,(0 - r5_)].getD i6.toNat 0)].length≤Zp) <|
  (ZR 64 i_21 ((([]:List Int)++a1)++[([r5_,(0 - r5_)].getD i6.toNat 0)]) i_01 i_11).bind fun r8_=>
  Zn4 i6 (r8_.1,r8_.2.1,r8_.2.2.1,r8_.2.2.2.1,r8_.2.2.2.2)) (
  up (Zn3 a1 (i_21,i_01,i_11)))
def ZgY (a0_2:Int) (a1:List Int) (o0:List D6_):(List Int)→Option (Int×Int×(List Bool)×(List D6_)×(List D9_)):=fun i2=>
 (Zdl o0 i2).bind fun r3_=>
 cond (decide ((0:Int)≤r3_.1)) (
  (Zcm (a0_2 - (1:Int)) a1 o0 ([]:List D9_)).bind fun r4_=>
  some ((2:Int),r4_.1,([]:List Bool),r4_.2.1,r4_.2.2)) (
  (Zgh r3_.2).bind fun r5_=>
  cond (r5_==(0:Int)) (
   loop (Zn5 a0_2 o0 r3_) ((0:Int),([]:List Bool))) (
   rq (i64 (0 - r5_)) <|
   loop (Zj2 a1 r5_) ((0:Int),(a0_2 - (1:Int)),o0,([]:List D9_))))
def ZgZ (a0_2:Int) (a1:List Int) (o0:List D6_):Int×(List Int)→Option ((Int×(List Int))⊕(Int×Int×(List Bool)×(List D6_)×(List D9_))):=fun (i,i1)=>
 cond (decide (i<(a1.length:Int))) (
  rq (0≤i∧i<a1.length) <|
  (Zev (a1.getD i.toNat 0) i1).bind fun r2_=>
  rq (i64 (i+(1:Int))) <|
  some (.inl ((i+(1:Int)),r2_))) (
  up (ZgY a0_2 a1 o0 i1))
def ZgE (a0_2:Int) (a1:List Int) (o0:List D6_):Option (Int×Int×(List Bool)×(List D6_)×(List D9_)):=
 cond (a0_2==(0:Int)) (
  some ((0:Int),a0_2,([]:List Bool),o0,([]:List D9_))) (
  cond (decide ((1000:Int)≤(0:Int))) (
   some ((0:Int),a0_2,([]:List Bool),o0,([]:List D9_))) (
   rq (i64 (a0_2 - (1:Int))) <|
   rq (0≤(12:Int)∧(12:Int)≤Zp∧(12:Int)=(12:Int)) <|
   loop (ZgZ a0_2 a1 o0) ((0:Int),(List.replicate (12:Int).toNat 0))))
/-- spec.l1Copy -/
def Zl6 (c_:(List D5_)×Int):Option (Int×(List D5_)):=
 rq (([]:List D5_).length+c_.1.length≤Zp) <|
 some (c_.2,(([]:List D5_)++c_.1))
/-- spec.SolveProblem -/
def Zi4 (r2_:Int×Int×(List Bool)×(List D6_)×(List D9_)):(List D9_)→Option (Int×(List Bool)×(List D9_)):=fun i2=>
 some (r2_.1,([]:List Bool),i2)
def Zdz (r2_:Int×Int×(List Bool)×(List D6_)×(List D9_)):Int×(List D9_)→Option ((Int×(List D9_))⊕(Int×(List Bool)×(List D9_))):=fun (i,i1)=>
 cond (decide (i<(r2_.2.2.2.2.length:Int))) (
  rq (0≤i∧i<r2_.2.2.2.2.length) <|
  (Zl6 (r2_.2.2.2.2.getD i.toNat (0,(0,(0,([],0))))).2.2.2).bind fun r4_=>
  rq (i1.length+[((r2_.2.2.2.2.getD i.toNat (0,(0,(0,([],0))))).1,((r2_.2.2.2.2.getD i.toNat (0,(0,(0,([],0))))).2.1,((r2_.2.2.2.2.getD i.toNat (0,(0,(0,([],0))))).2.2.1,(r4_.2,r4_.1))))].length≤Zp) <|
  rq (i64 (i+(1:Int))) <|
  some (.inl ((i+(1:Int)),(i1++[((r2_.2.2.2.2.getD i.toNat (0,(0,(0,([],0))))).1,((r2_.2.2.2.2.getD i.toNat (0,(0,(0,([],0))))).2.1,((r2_.2.2.2.2.getD i.toNat (0,(0,(0,([],0))))).2.2.1,(r4_.2,r4_.1))))])))) (
  up (Zi4 r2_ i1))
def ZfQ (a0:List D6_) (a1:Int):Option (Int×(List Bool)×(List D9_)):=
 (ZfO a0).bind fun r1_=>
 cond (!r1_) (
  some ((3:Int),([]:List Bool),([]:List D9_))) (
  cond (decide (a1<(0:Int))) (
   some ((3:Int),([]:List Bool),([]:List D9_))) (
   cond (decide ((2000:Int)<a1)) (
    some ((3:Int),([]:List Bool),([]:List D9_))) (
    rq (([]:List D6_).length+a0.length≤Zp) <|
    (ZgE a1 ([]:List Int) (([]:List D6_)++a0)).bind fun r2_=>
    cond (r2_.1 != (2:Int)) (
     some (r2_.1,r2_.2.2.1,([]:List D9_))) (
     loop (Zdz r2_) ((0:Int),([]:List D9_))))))
/-- spec.DecodeValues -/
def Zf6 (m:(List Int)×(List D4_)) (values:List Bool) (i:Int) (out:List Int):Int×Int×Int→Option ((Int×Int×Int)⊕((Int×(List Int))⊕(Bool×(List Int)))):=fun (v1,n1,k_1)=>
 rq (0≤i∧i<m.1.length) <|
 cond (decide (k_1≤(m.1.getD i.toNat 0))) (
  (Ze0 m i k_1).bind fun r3_=>
  rq (i64 (r3_ - (1:Int))) <|
  rq (0≤(r3_ - (1:Int))∧(r3_ - (1:Int))<values.length) <|
  cond (values.getD (r3_ - (1:Int)).toNat false) (
   rq (i64 (n1+(1:Int))) <|
   rq (i64 (k_1+(1:Int))) <|
   some (.inl (k_1,(n1+(1:Int)),(k_1+(1:Int))))) (
   rq (i64 (k_1+(1:Int))) <|
   some (.inl (v1,n1,(k_1+(1:Int)))))) (
  cond (n1 != (1:Int)) (
   some (.inr (.inr (false,([]:List Int))))) (
   rq (out.length+[v1].length≤Zp) <|
   rq (i64 (i+(1:Int))) <|
   some (.inr (.inl ((i+(1:Int)),(out++[v1]))))))
def Zf5 (m:(List Int)×(List D4_)) (values:List Bool):Int×(List Int)→Option ((Int×(List Int))⊕(Bool×(List Int))):=fun (i,out)=>
 cond (decide (i<(m.1.length:Int))) (
  loop (Zf6 m values i out) ((-1:Int),(0:Int),(0:Int))) (
  some (.inr (true,out)))
def ZfN (m:(List Int)×(List D4_)) (values:List Bool):Option (Bool×(List Int)):=
 (Zel m).bind fun r1_=>
 cond (!r1_) (
  some (false,([]:List Int))) (
  cond ((values.length:Int) != (12:Int)) (
   some (false,([]:List Int))) (
   loop (Zf5 m values) ((0:Int),([]:List Int))))
/-- spec.ProveOptimum -/
def Zdy (a0:(List Int)×(List D4_)) (i1:List Int) (r11_:Int×(List Bool)×(List D9_)):Unit→Option ((List Int)⊕(Int×(List Int)×(List D9_))):=fun _=>
 cond (r11_.1==(2:Int)) (
  some (.inr ((1:Int),i1,r11_.2.2))) (
  (ZfN a0 r11_.2.1).bind fun r12_=>
  some (.inl r12_.2))
def Zcj (a0:(List Int)×(List D4_)) (a2:Int) (i1:List Int):(List D6_)→Option ((List Int)⊕(Int×(List Int)×(List D9_))):=fun i2=>
 (ZfQ i2 a2).bind fun r11_=>
 cond (r11_.1==(0:Int)) (
  some (.inr (r11_.1,i1,([]:List D9_)))) (
  cond (r11_.1==(2:Int)) (
   cond ((i1.length:Int)==(0:Int)) (
    some (.inr (r11_.1,i1,r11_.2.2))) (
    Zdy a0 i1 r11_ ())) (
   Zdy a0 i1 r11_ ()))
def Zi3 (a0:(List Int)×(List D4_)) (a2:Int) (r1_:Bool×(List D6_)) (i1:List Int):Int×(List D5_)→Option ((List Int)⊕(Int×(List Int)×(List D9_))):=fun (i_11,i_01)=>
 rq ((([]:List D6_)++r1_.2).length+[(i_01,i_11)].length≤Zp) <|
 Zcj a0 a2 i1 ((([]:List D6_)++r1_.2)++[(i_01,i_11)])
def ZbS (a0:(List Int)×(List D4_)) (a1:List Int) (a2:Int) (r1_:Bool×(List D6_)):(List Int)→Option ((List Int)⊕(Int×(List Int)×(List D9_))):=fun i1=>
 rq (([]:List D6_).length+r1_.2.length≤Zp) <|
 cond (decide ((0:Int)<(i1.length:Int))) (
  (Zlb a1 i1).bind fun r9_=>
  rq (i64 (r9_ - (1:Int))) <|
  (Zd5 a0 a1 (r9_ - (1:Int))).bind fun r10_=>
  Zi3 a0 a2 r1_ i1 (r10_.2.1,r10_.2.2)) (
  Zcj a0 a2 i1 (([]:List D6_)++r1_.2))
def ZfP (a0:(List Int)×(List D4_)) (a1:List Int) (a2:Int):Option (Int×(List Int)×(List D9_)):=
 (ZgC a0).bind fun r1_=>
 cond (!r1_.1) (
  some ((3:Int),([]:List Int),([]:List D9_))) (
  (Zix a0 a1).bind fun r2_=>
  cond (!r2_) (
   some ((3:Int),([]:List Int),([]:List D9_))) (
   cond (decide (a2<(0:Int))) (
    some ((3:Int),([]:List Int),([]:List D9_))) (
    cond (decide ((2000:Int)<a2)) (
     some ((3:Int),([]:List Int),([]:List D9_))) (
     cond (decide ((400:Int)≤(r1_.2.length:Int))) (
      some ((3:Int),([]:List Int),([]:List D9_))) (
      loop (ZbS a0 a1 a2 r1_) ([]:List Int))))))
/-- impl.within -/
def ZbW (n:Int) (low:Int) (high:Int):Option Bool:=
 cond (decide (low≤n)) (
  some (decide (n≤high))) (
  some false)
/-- slices.Index[[]int,int] -/
def Zcv (s_:List Int) (v:Int):Int→Option (Int⊕Int):=fun i=>
 cond (decide (i<(s_.length:Int))) (
  rq (0≤i∧i<s_.length) <|
  cond (v==(s_.getD i.toNat 0)) (
   some (.inr i)) (
   rq (i64 (i+(1:Int))) <|
   some (.inl (i+(1:Int))))) (
  some (.inr (-1:Int)))
def Zgz (s_:List Int) (v:Int):Option Int:=
 loop (Zcv s_ v) (0:Int)
/-- slices.Contains[[]int,int] -/
def ZbF (s_:List Int) (v:Int):Option Bool:=
 (Zgz s_ v).bind fun r1_=>
 some (decide ((0:Int)≤r1_))
/-- impl.ruleValid$1 -/
def ZiR (n:Int):Option Bool:=
 cond (n==(0:Int)) (
  some true) (
  (ZbW n (-9:Int) (9:Int)).bind fun r1_=>
  some (!r1_))
/-- slices.IndexFunc[[]int,int] -/
def Zba (s_:List Int):Int→Option (Int⊕Int):=fun i=>
 cond (decide (i<(s_.length:Int))) (
  rq (0≤i∧i<s_.length) <|
  (ZiR (s_.getD i.toNat 0)).bind fun r1_=>
  cond r1_ (
   some (.inr i)) (
   rq (i64 (i+(1:Int))) <|
   some (.inl (i+(1:Int))))) (
  some (.inr (-1:Int)))
def Zb0 (s_:List Int):Option Int:=
 loop (Zba s_) (0:Int)
/-- slices.ContainsFunc[[]int,int] -/
def Z9 (s_:List Int):Option Bool:=
 (Zb0 s_).bind fun r1_=>
 some (decide ((0:Int)≤r1_))
/-- impl.ruleValid$2$1 -/
def Zhx (n:Int):Option Bool:=
 (ZbW n (0:Int) (3:Int)).bind fun r1_=>
 some (!r1_)
/-- slices.IndexFunc[[]int,int] -/
def Z3 (s_:List Int):Int→Option (Int⊕Int):=fun i=>
 cond (decide (i<(s_.length:Int))) (
  rq (0≤i∧i<s_.length) <|
  (Zhx (s_.getD i.toNat 0)).bind fun r1_=>
  cond r1_ (
   some (.inr i)) (
   rq (i64 (i+(1:Int))) <|
   some (.inl (i+(1:Int))))) (
  some (.inr (-1:Int)))
def ZbQ (s_:List Int):Option Int:=
 loop (Z3 s_) (0:Int)
/-- slices.ContainsFunc[[]int,int] -/
def Z0 (s_:List Int):Option Bool:=
 (ZbQ s_).bind fun r1_=>
 some (decide ((0:Int)≤r1_))
/-- impl.ruleValid$2 -/
def ZiS (row:List Int) (o0:Int×(List Int)×(List Int)×Int×(List (List Int))):Option Bool:=
 cond ((row.length:Int) != (o0.2.1.length:Int)) (
  some true) (
  (Z0 row).bind fun r1_=>
  some r1_)
/-- slices.IndexFunc[[][]int,[]int] -/
def Z4 (s_:List (List Int)) (o0:Int×(List Int)×(List Int)×Int×(List (List Int))):Int→Option (Int⊕Int):=fun i=>
 cond (decide (i<(s_.length:Int))) (
  rq (0≤i∧i<s_.length) <|
  (ZiS (s_.getD i.toNat []) o0).bind fun r1_=>
  cond r1_ (
   some (.inr i)) (
   rq (i64 (i+(1:Int))) <|
   some (.inl (i+(1:Int))))) (
  some (.inr (-1:Int)))
def ZbR (s_:List (List Int)) (o0:Int×(List Int)×(List Int)×Int×(List (List Int))):Option Int:=
 loop (Z4 s_ o0) (0:Int)
/-- slices.ContainsFunc[[][]int,[]int] -/
def Z1 (s_:List (List Int)) (o0:Int×(List Int)×(List Int)×Int×(List (List Int))):Option Bool:=
 (ZbR s_ o0).bind fun r1_=>
 some (decide ((0:Int)≤r1_))
/-- impl.ruleValid -/
def ZdE (a0:Int×(List Int)×(List Int)×Int×(List (List Int))):Unit→Option (Int⊕Bool):=fun _=>
 cond (a0.1==(1:Int)) (
  cond ((a0.2.2.1.length:Int)==(a0.2.1.length:Int)) (
   (ZbW a0.2.2.2.1 (-1000:Int) (1000:Int)).bind fun r3_=>
   cond r3_ (
    (Z9 a0.2.2.1).bind fun r4_=>
    some (.inr (!r4_))) (
    some (.inr false))) (
   some (.inr false))) (
  cond (a0.1==(3:Int)) (
   cond (decide ((a0.2.2.2.2.length:Int)≤(8:Int))) (
    (Z1 a0.2.2.2.2 a0).bind fun r5_=>
    some (.inr (!r5_))) (
    some (.inr false))) (
   cond (a0.1==(4:Int)) (
    some (.inr ((a0.2.1.length:Int)==(2:Int)))) (
    some (.inr (a0.1==(2:Int))))))
def ZhY (a0:Int×(List Int)×(List Int)×Int×(List (List Int))) (a1:Int):Int→Option (Int⊕Bool):=fun i=>
 cond (decide (i<(a0.2.1.length:Int))) (
  rq (0≤i∧i<a0.2.1.length) <|
  rq (i64 (a1 - (1:Int))) <|
  (ZbW (a0.2.1.getD i.toNat 0) (0:Int) (a1 - (1:Int))).bind fun r1_=>
  cond (!r1_) (
   some (.inr false)) (
   rq (0≤i∧i≤a0.2.1.length) <|
   (ZbF (a0.2.1.take i.toNat) (a0.2.1.getD i.toNat 0)).bind fun r2_=>
   cond r2_ (
    some (.inr false)) (
    rq (i64 (i+(1:Int))) <|
    some (.inl (i+(1:Int)))))) (
  cond ((a0.2.1.length:Int)==(0:Int)) (
   some (.inr false)) (
   cond (a0.1 != (1:Int)) (
    cond (decide ((0:Int)<(a0.2.2.1.length:Int))) (
     some (.inr false)) (
     cond (a0.2.2.2.1 != (0:Int)) (
      some (.inr false)) (
      cond (a0.1 != (3:Int)) (
       cond (decide ((0:Int)<(a0.2.2.2.2.length:Int))) (
        some (.inr false)) (
        ZdE a0 ())) (
       ZdE a0 ())))) (
    cond (a0.1 != (3:Int)) (
     cond (decide ((0:Int)<(a0.2.2.2.2.length:Int))) (
      some (.inr false)) (
      ZdE a0 ())) (
     ZdE a0 ()))))
def Zib (a0:Int×(List Int)×(List Int)×Int×(List (List Int))) (a1:Int):Option Bool:=
 loop (ZhY a0 a1) (0:Int)
/-- impl.ModelValid$1 -/
def ZhW (r_:Int×(List Int)×(List Int)×Int×(List (List Int))) (o0:(List Int)×(List D4_)):Option Bool:=
 (Zib r_ (o0.1.length:Int)).bind fun r1_=>
 some (!r1_)
/-- slices.IndexFunc[[]impl.Rule,impl.Rule] -/
def ZT (s_:List D4_) (o0:(List Int)×(List D4_)):Int→Option (Int⊕Int):=fun i=>
 cond (decide (i<(s_.length:Int))) (
  rq (0≤i∧i<s_.length) <|
  (ZhW (s_.getD i.toNat (0,([],([],(0,[]))))) o0).bind fun r1_=>
  cond r1_ (
   some (.inr i)) (
   rq (i64 (i+(1:Int))) <|
   some (.inl (i+(1:Int))))) (
  some (.inr (-1:Int)))
def Zbp (s_:List D4_) (o0:(List Int)×(List D4_)):Option Int:=
 loop (ZT s_ o0) (0:Int)
/-- slices.ContainsFunc[[]impl.Rule,impl.Rule] -/
def ZS (s_:List D4_) (o0:(List Int)×(List D4_)):Option Bool:=
 (Zbp s_ o0).bind fun r1_=>
 some (decide ((0:Int)≤r1_))
/-- impl.ModelValid -/
def ZkR (m:(List Int)×(List D4_)):Int×Int→Option ((Int×Int)⊕Bool):=fun (count,i)=>
 cond (decide (i<(m.1.length:Int))) (
  rq (0≤i∧i<m.1.length) <|
  (ZbW (m.1.getD i.toNat 0) (0:Int) (3:Int)).bind fun r2_=>
  cond (!r2_) (
   some (.inr false)) (
   rq (i64 ((m.1.getD i.toNat 0)+(1:Int))) <|
   rq (i64 (count+((m.1.getD i.toNat 0)+(1:Int)))) <|
   rq (i64 (i+(1:Int))) <|
   some (.inl ((count+((m.1.getD i.toNat 0)+(1:Int))),(i+(1:Int)))))) (
  cond (decide (count≤(12:Int))) (
   (ZS m.2 m).bind fun r3_=>
   some (.inr (!r3_))) (
   some (.inr false)))
def Zee (m:(List Int)×(List D4_)):Option Bool:=
 (ZbW (m.1.length:Int) (1:Int) (5:Int)).bind fun r1_=>
 cond (!r1_) (
  some false) (
  cond (decide ((8:Int)<(m.2.length:Int))) (
   some false) (
   loop (ZkR m) ((0:Int),(0:Int))))
/-- (impl.Model).boolVar -/
def Zh9 (m:(List Int)×(List D4_)) (cell:Int):Int×Int→Option ((Int×Int)⊕Int):=fun (v,i)=>
 cond (decide (i<((m.1.take cell.toNat).length:Int))) (
  rq (0≤i∧i<(m.1.take cell.toNat).length) <|
  rq (i64 (((m.1.take cell.toNat).getD i.toNat 0)+(1:Int))) <|
  rq (i64 (v+(((m.1.take cell.toNat).getD i.toNat 0)+(1:Int)))) <|
  rq (i64 (i+(1:Int))) <|
  some (.inl ((v+(((m.1.take cell.toNat).getD i.toNat 0)+(1:Int))),(i+(1:Int))))) (
  some (.inr v))
def Zcf (m:(List Int)×(List D4_)) (cell:Int) (value:Int):Option Int:=
 rq (i64 ((1:Int)+value)) <|
 rq (0≤cell∧cell≤m.1.length) <|
 loop (Zh9 m cell) (((1:Int)+value),(0:Int))
/-- (impl.Model).varsOf -/
def Zeg (m:(List Int)×(List D4_)) (cell:Int):Int×(List Int)→Option ((Int×(List Int))⊕(List Int)):=fun (i,out)=>
 cond (decide (i<((m.1.getD cell.toNat 0)+(1:Int)))) (
  (Zcf m cell i).bind fun r2_=>
  rq (out.length+[r2_].length≤Zp) <|
  rq (i64 (i+(1:Int))) <|
  some (.inl ((i+(1:Int)),(out++[r2_])))) (
  some (.inr out))
def Zep (m:(List Int)×(List D4_)) (cell:Int):Option (List Int):=
 rq (0≤cell∧cell<m.1.length) <|
 rq (i64 ((m.1.getD cell.toNat 0)+(1:Int))) <|
 loop (Zeg m cell) ((0:Int),([]:List Int))
/-- impl.isLiteral -/
def Zgj (l:Int):Option Bool:=
 cond (l != (0:Int)) (
  (ZbW l (-12:Int) (12:Int)).bind fun r1_=>
  some r1_) (
  some false)
/-- slices.Clone[[]int,int] -/
def Zbu (s_:List Int):Option (List Int):=
 nt (s_=[]) (
  some ([]:List Int)) (
  rq (([]:List Int).length+s_.length≤Zp) <|
  some (([]:List Int)++s_))
/-- impl.variableOf -/
def ZcO (l:Int):Option Int:=
 rq (i64 (0 - l)) <|
 some (max l (0 - l))
/-- impl.ClauseOf$1 -/
def Zfp (a:Int) (b:Int):Option Int:=
 (ZcO a).bind fun r1_=>
 (ZcO b).bind fun r2_=>
 rq (i64 (r1_ - r2_)) <|
 some (r1_ - r2_)
/-- slices.Compact[[]int,int] -/
def Zip:Int×(List Int)→Option (Int⊕(List Int)):=fun (k_2,s_2)=>
 rq (0≤k_2∧k_2≤s_2.length) <|
 rq (0≤k_2∧k_2≤(s_2.take k_2.toNat++List.replicate (s_2.length - k_2.toNat) (0:Int)).length) <|
 some (.inr ((s_2.take k_2.toNat++List.replicate (s_2.length - k_2.toNat) (0:Int)).take k_2.toNat))
def Zfs (k_:Int):Int×Int×(List Int)→Option ((Int×Int×(List Int))⊕(Int⊕(List Int))):=fun (k_1,k2_,s_1)=>
 cond (decide (k2_<((s_1.length:Int) - k_))) (
  rq (0≤k2_∧k_+k2_<s_1.length) <|
  rq (i64 (k2_ - (1:Int))) <|
  rq (0≤(k2_ - (1:Int))∧k_+(k2_ - (1:Int))<s_1.length) <|
  cond ((s_1.getD (k_+k2_).toNat 0) != (s_1.getD (k_+(k2_ - (1:Int))).toNat 0)) (
   rq (0≤k2_∧k_+k2_<s_1.length) <|
   rq (0≤k_1∧k_1<s_1.length) <|
   rq (i64 (k_1+(1:Int))) <|
   rq (i64 (k2_+(1:Int))) <|
   some (.inl ((k_1+(1:Int)),(k2_+(1:Int)),(s_1.set k_1.toNat (s_1.getD (k_+k2_).toNat 0))))) (
   rq (i64 (k2_+(1:Int))) <|
   some (.inl (k_1,(k2_+(1:Int)),s_1)))) (
  up (Zip (k_1,s_1)))
def Zfr (s_:List Int):Int→Option (Int⊕(List Int)):=fun k_=>
 cond (decide (k_<(s_.length:Int))) (
  rq (0≤k_∧k_<s_.length) <|
  rq (i64 (k_ - (1:Int))) <|
  rq (0≤(k_ - (1:Int))∧(k_ - (1:Int))<s_.length) <|
  cond ((s_.getD k_.toNat 0)==(s_.getD (k_ - (1:Int)).toNat 0)) (
   rq (0≤k_∧k_≤s_.length) <|
   loop (Zfs k_) (k_,(1:Int),s_)) (
   rq (i64 (k_+(1:Int))) <|
   some (.inl (k_+(1:Int))))) (
  some (.inr s_))
def Zfj (s_:List Int):Option (List Int):=
 cond (decide ((s_.length:Int)<(2:Int))) (
  some s_) (
  loop (Zfr s_) (1:Int))
/-- impl.ClauseOf -/
def ZiO (r5_:(List Int)):Int×(List D5_)→Option ((Int×(List D5_))⊕(Int⊕(Bool×Int×(List D5_)))):=fun (i1,c_0)=>
 cond (decide (i1<(r5_.length:Int))) (
  rq (0≤i1∧i1<r5_.length) <|
  rq (c_0.length+[((1:Int),(r5_.getD i1.toNat 0))].length≤Zp) <|
  rq (i64 (i1+(1:Int))) <|
  some (.inl ((i1+(1:Int)),(c_0++[((1:Int),(r5_.getD i1.toNat 0))])))) (
  some (.inr (.inr (true,(1:Int),c_0))))
def ZiN (lits:List Int):Int→Option (Int⊕(Bool×Int×(List D5_))):=fun i=>
 cond (decide (i<(lits.length:Int))) (
  rq (0≤i∧i<lits.length) <|
  (Zgj (lits.getD i.toNat 0)).bind fun r1_=>
  cond (!r1_) (
   some (.inr (false,(0:Int),([]:List D5_)))) (
   rq (i64 (0 - (lits.getD i.toNat 0))) <|
   (ZbF lits (0 - (lits.getD i.toNat 0))).bind fun r2_=>
   cond r2_ (
    some (.inr (false,(0:Int),([]:List D5_)))) (
    rq (i64 (i+(1:Int))) <|
    some (.inl (i+(1:Int)))))) (
  (Zbu lits).bind fun r3_=>
  (Zu5 Zfp r3_).bind fun r4_=>
  (Zfj r4_).bind fun r5_=>
  loop (ZiO r5_) ((0:Int),([]:List D5_)))
def Zfz (lits:List Int):Option (Bool×Int×(List D5_)):=
 cond (decide ((40:Int)<(lits.length:Int))) (
  some (false,(0:Int),([]:List D5_))) (
  loop (ZiN lits) (0:Int))
/-- impl.atMostOne -/
def ZfG (vars:List Int):Int×(List D5_)→Option ((Int×(List D5_))⊕(Int×(List D5_))):=fun (i,c_0)=>
 cond (decide (i<(vars.length:Int))) (
  rq (0≤i∧i<vars.length) <|
  rq (i64 (0 - (vars.getD i.toNat 0))) <|
  rq (c_0.length+[((1:Int),(0 - (vars.getD i.toNat 0)))].length≤Zp) <|
  rq (i64 (i+(1:Int))) <|
  some (.inl ((i+(1:Int)),(c_0++[((1:Int),(0 - (vars.getD i.toNat 0)))])))) (
  some (.inr (((vars.length:Int) - (1:Int)),c_0)))
def Zgi (vars:List Int):Option (Int×(List D5_)):=
 rq (i64 ((vars.length:Int) - (1:Int))) <|
 loop (ZfG vars) ((0:Int),([]:List D5_))
/-- impl.ConstraintValid -/
def Zha (c_:(List D5_)×Int):Int×Int→Option ((Int×Int)⊕Bool):=fun (before,i)=>
 cond (decide (i<(c_.1.length:Int))) (
  rq (0≤i∧i<c_.1.length) <|
  (Zgj (c_.1.getD i.toNat (0,0)).2).bind fun r1_=>
  cond (!r1_) (
   some (.inr false)) (
   (ZcO (c_.1.getD i.toNat (0,0)).2).bind fun r2_=>
   cond (decide (r2_≤before)) (
    some (.inr false)) (
    (ZbW (c_.1.getD i.toNat (0,0)).1 (1:Int) (1000:Int)).bind fun r3_=>
    cond (!r3_) (
     some (.inr false)) (
     (ZcO (c_.1.getD i.toNat (0,0)).2).bind fun r4_=>
     rq (i64 (i+(1:Int))) <|
     some (.inl (r4_,(i+(1:Int)))))))) (
  (ZbW c_.2 (0:Int) (20000:Int)).bind fun r5_=>
  some (.inr r5_))
def Zdq (c_:(List D5_)×Int):Option Bool:=
 loop (Zha c_) ((0:Int),(0:Int))
/-- (impl.Constraint).valid -/
def ZbZ (c_1:Int) (o0:List D5_):Option (Bool×Int×(List D5_)):=
 (Zdq (o0,c_1)).bind fun r1_=>
 cond (!r1_) (
  some (false,(0:Int),([]:List D5_))) (
  some (true,c_1,o0))
/-- impl.normal -/
def Zln:Int×(List D5_)→Option (Bool×Int×(List D5_)):=fun (i9,i_03)=>
 (ZbZ (max (0:Int) i9) i_03).bind fun r1_=>
 some (r1_.1,r1_.2.1,r1_.2.2)
def Zlo (i5:Int) (i6:Int):Int×(List D5_)→Option ((Int×Int×(List D5_))⊕(Bool×Int×(List D5_))):=fun (i8,i_02)=>
 rq (i64 (i5 - i8)) <|
 rq (i64 (i6+(1:Int))) <|
 some (.inl ((i5 - i8),(i6+(1:Int)),i_02))
def ZeN (i4:List Int):Int×Int×(List D5_)→Option ((Int×Int×(List D5_))⊕(Bool×Int×(List D5_))):=fun (i5,i6,i_01)=>
 cond (decide (i6<(13:Int))) (
  rq ((0≤i6∧i6<13)∧13≤[(i4.getD 0 0),(i4.getD 1 0),(i4.getD 2 0),(i4.getD 3 0),(i4.getD 4 0),(i4.getD 5 0),(i4.getD 6 0),(i4.getD 7 0),(i4.getD 8 0),(i4.getD 9 0),(i4.getD 10 0),(i4.getD 11 0),(i4.getD 12 0)].length) <|
  cond (decide ((0:Int)<([(i4.getD 0 0),(i4.getD 1 0),(i4.getD 2 0),(i4.getD 3 0),(i4.getD 4 0),(i4.getD 5 0),(i4.getD 6 0),(i4.getD 7 0),(i4.getD 8 0),(i4.getD 9 0),(i4.getD 10 0),(i4.getD 11 0),(i4.getD 12 0)].getD i6.toNat 0))) (
   rq (i_01.length+[(([(i4.getD 0 0),(i4.getD 1 0),(i4.getD 2 0),(i4.getD 3 0),(i4.getD 4 0),(i4.getD 5 0),(i4.getD 6 0),(i4.getD 7 0),(i4.getD 8 0),(i4.getD 9 0),(i4.getD 10 0),(i4.getD 11 0),(i4.getD 12 0)].getD i6.toNat 0),i6)].length≤Zp) <|
   rq (i64 (i6+(1:Int))) <|
   some (.inl (i5,(i6+(1:Int)),(i_01++[(([(i4.getD 0 0),(i4.getD 1 0),(i4.getD 2 0),(i4.getD 3 0),(i4.getD 4 0),(i4.getD 5 0),(i4.getD 6 0),(i4.getD 7 0),(i4.getD 8 0),(i4.getD 9 0),(i4.getD 10 0),(i4.getD 11 0),(i4.getD 12 0)].getD i6.toNat 0),i6)])))) (
   cond (decide (([(i4.getD 0 0),(i4.getD 1 0),(i4.getD 2 0),(i4.getD 3 0),(i4.getD 4 0),(i4.getD 5 0),(i4.getD 6 0),(i4.getD 7 0),(i4.getD 8 0),(i4.getD 9 0),(i4.getD 10 0),(i4.getD 11 0),(i4.getD 12 0)].getD i6.toNat 0)<(0:Int))) (
    rq (i64 (0 - ([(i4.getD 0 0),(i4.getD 1 0),(i4.getD 2 0),(i4.getD 3 0),(i4.getD 4 0),(i4.getD 5 0),(i4.getD 6 0),(i4.getD 7 0),(i4.getD 8 0),(i4.getD 9 0),(i4.getD 10 0),(i4.getD 11 0),(i4.getD 12 0)].getD i6.toNat 0))) <|
    rq (i64 (0 - i6)) <|
    rq (i_01.length+[((0 - ([(i4.getD 0 0),(i4.getD 1 0),(i4.getD 2 0),(i4.getD 3 0),(i4.getD 4 0),(i4.getD 5 0),(i4.getD 6 0),(i4.getD 7 0),(i4.getD 8 0),(i4.getD 9 0),(i4.getD 10 0),(i4.getD 11 0),(i4.getD 12 0)].getD i6.toNat 0)),(0 - i6))].length≤Zp) <|
    Zlo i5 i6 (([(i4.getD 0 0),(i4.getD 1 0),(i4.getD 2 0),(i4.getD 3 0),(i4.getD 4 0),(i4.getD 5 0),(i4.getD 6 0),(i4.getD 7 0),(i4.getD 8 0),(i4.getD 9 0),(i4.getD 10 0),(i4.getD 11 0),(i4.getD 12 0)].getD i6.toNat 0),(i_01++[((0 - ([(i4.getD 0 0),(i4.getD 1 0),(i4.getD 2 0),(i4.getD 3 0),(i4.getD 4 0),(i4.getD 5 0),(i4.getD 6 0),(i4.getD 7 0),(i4.getD 8 0),(i4.getD 9 0),(i4.getD 10 0),(i4.getD 11 0),(i4.getD 12 0)].getD i6.toNat 0)),(0 - i6))]))) (
    rq (i64 (i6+(1:Int))) <|
    some (.inl (i5,(i6+(1:Int)),i_01))))) (
  up (Zln (i5,i_01)))
def Zia:Int×(List Int)→Option (Bool×Int×(List D5_)):=fun (i3,i4)=>
 rq ((0:Int)=0∧0=0∧13≤i4.length) <|
 loop (ZeN i4) (i3,(0:Int),([]:List D5_))
def Zgk (a0:List D5_):Int×Int×(List Int)→Option ((Int×Int×(List Int))⊕(Bool×Int×(List D5_))):=fun (i,i1,i2)=>
 cond (decide (i1<(a0.length:Int))) (
  rq (0≤i1∧i1<a0.length) <|
  cond (decide ((a0.getD i1.toNat (0,0)).2<(0:Int))) (
   rq (i64 (i - (a0.getD i1.toNat (0,0)).1)) <|
   rq (i64 (0 - (a0.getD i1.toNat (0,0)).2)) <|
   rq ((0:Int)=0∧(0≤(0 - (a0.getD i1.toNat (0,0)).2)∧(0 - (a0.getD i1.toNat (0,0)).2)<13)∧13≤i2.length) <|
   rq (i64 ((i2.getD (0 - (a0.getD i1.toNat (0,0)).2).toNat 0) - (a0.getD i1.toNat (0,0)).1)) <|
   rq ((0:Int)=0∧(0≤(0 - (a0.getD i1.toNat (0,0)).2)∧(0 - (a0.getD i1.toNat (0,0)).2)<13)∧13≤i2.length) <|
   rq (i64 (i1+(1:Int))) <|
   some (.inl ((i - (a0.getD i1.toNat (0,0)).1),(i1+(1:Int)),(i2.set (0 - (a0.getD i1.toNat (0,0)).2).toNat ((i2.getD (0 - (a0.getD i1.toNat (0,0)).2).toNat 0) - (a0.getD i1.toNat (0,0)).1))))) (
   rq ((0:Int)=0∧(0≤(a0.getD i1.toNat (0,0)).2∧(a0.getD i1.toNat (0,0)).2<13)∧13≤i2.length) <|
   rq (i64 ((i2.getD (a0.getD i1.toNat (0,0)).2.toNat 0)+(a0.getD i1.toNat (0,0)).1)) <|
   rq ((0:Int)=0∧(0≤(a0.getD i1.toNat (0,0)).2∧(a0.getD i1.toNat (0,0)).2<13)∧13≤i2.length) <|
   rq (i64 (i1+(1:Int))) <|
   some (.inl (i,(i1+(1:Int)),(i2.set (a0.getD i1.toNat (0,0)).2.toNat ((i2.getD (a0.getD i1.toNat (0,0)).2.toNat 0)+(a0.getD i1.toNat (0,0)).1)))))) (
  up (Zia (i,i2)))
def Zgf (a0:List D5_) (a1:Int):Option (Bool×Int×(List D5_)):=
 loop (Zgk a0) (a1,(0:Int),(List.replicate 13 0))
/-- slices.Equal[[]int,int] -/
def ZgS (s1_:List Int) (s2_:List Int):Int→Option (Int⊕Bool):=fun i=>
 cond (decide (i<(s1_.length:Int))) (
  rq (0≤i∧i<s1_.length) <|
  rq (0≤i∧i<s2_.length) <|
  cond ((s1_.getD i.toNat 0) != (s2_.getD i.toNat 0)) (
   some (.inr false)) (
   rq (i64 (i+(1:Int))) <|
   some (.inl (i+(1:Int))))) (
  some (.inr true))
def Zgy (s1_:List Int) (s2_:List Int):Option Bool:=
 cond ((s1_.length:Int) != (s2_.length:Int)) (
  some false) (
  loop (ZgS s1_ s2_) (0:Int))
/-- (impl.Rule).holds$1 -/
def ZhX (row:List Int) (o0:List Int):Option Bool:=
 (Zgy row o0).bind fun r1_=>
 some r1_
/-- slices.IndexFunc[[][]int,[]int] -/
def ZY (s_:List (List Int)) (o0:List Int):Int→Option (Int⊕Int):=fun i=>
 cond (decide (i<(s_.length:Int))) (
  rq (0≤i∧i<s_.length) <|
  (ZhX (s_.getD i.toNat []) o0).bind fun r1_=>
  cond r1_ (
   some (.inr i)) (
   rq (i64 (i+(1:Int))) <|
   some (.inl (i+(1:Int))))) (
  some (.inr (-1:Int)))
def ZbI (s_:List (List Int)) (o0:List Int):Option Int:=
 loop (ZY s_ o0) (0:Int)
/-- slices.ContainsFunc[[][]int,[]int] -/
def Zbv (s_:List (List Int)) (o0:List Int):Option Bool:=
 (ZbI s_ o0).bind fun r1_=>
 some (decide ((0:Int)≤r1_))
/-- (impl.Rule).holds -/
def ZkS (r_:Int×(List Int)×(List Int)×Int×(List (List Int))) (vals:List Int):Int×Int→Option ((Int×Int)⊕Bool):=fun (sum,i)=>
 cond (decide (i<(vals.length:Int))) (
  rq (0≤i∧i<vals.length) <|
  rq (0≤i∧i<r_.2.2.1.length) <|
  rq (i64 ((r_.2.2.1.getD i.toNat 0)*(vals.getD i.toNat 0))) <|
  rq (i64 (sum+((r_.2.2.1.getD i.toNat 0)*(vals.getD i.toNat 0)))) <|
  rq (i64 (i+(1:Int))) <|
  some (.inl ((sum+((r_.2.2.1.getD i.toNat 0)*(vals.getD i.toNat 0))),(i+(1:Int))))) (
  some (.inr (decide (r_.2.2.2.1≤sum))))
def Zfa (vals:List Int):Int→Option (Int⊕Bool):=fun i1=>
 cond (decide (i1<(vals.length:Int))) (
  rq (0≤i1∧i1<vals.length) <|
  rq (0≤i1∧i1≤vals.length) <|
  (ZbF (vals.take i1.toNat) (vals.getD i1.toNat 0)).bind fun r1_=>
  cond r1_ (
   some (.inr false)) (
   rq (i64 (i1+(1:Int))) <|
   some (.inl (i1+(1:Int))))) (
  some (.inr true))
def Zhu (r_:Int×(List Int)×(List Int)×Int×(List (List Int))) (vals:List Int):Option Bool:=
 cond (r_.1==(1:Int)) (
  loop (ZkS r_ vals) ((0:Int),(0:Int))) (
  cond (r_.1==(2:Int)) (
   loop (Zfa vals) (0:Int)) (
   cond (r_.1==(3:Int)) (
    (Zbv r_.2.2.2.2 vals).bind fun r2_=>
    some r2_) (
    rq (0≤(0:Int)∧(0:Int)<vals.length) <|
    rq (0≤(1:Int)∧(1:Int)<vals.length) <|
    some (decide ((vals.getD (0:Int).toNat 0)<(vals.getD (1:Int).toNat 0))))))
/-- (impl.Model).encodeRule$1 -/
def ZbU (o4:List D6_):(List Int)→Option (Bool×(List D6_)):=fun lits1=>
 (Zfz lits1).bind fun r5_=>
 rq (o4.length+[(r5_.2.2,r5_.2.1)].length≤Zp) <|
 some (true,(o4++[(r5_.2.2,r5_.2.1)]))
def ZbV (o0:Int×(List Int)×(List Int)×Int×(List (List Int))) (o1:(List Int)×(List D4_)) (vals:List Int) (o4:List D6_):Int×(List Int)→Option ((Int×(List Int))⊕(Bool×(List D6_))):=fun (i,lits)=>
 cond (decide (i<(o0.2.1.length:Int))) (
  rq (0≤i∧i<o0.2.1.length) <|
  rq (0≤i∧i<vals.length) <|
  (Zcf o1 (o0.2.1.getD i.toNat 0) (vals.getD i.toNat 0)).bind fun r4_=>
  rq (i64 (0 - r4_)) <|
  rq (lits.length+[(0 - r4_)].length≤Zp) <|
  rq (i64 (i+(1:Int))) <|
  some (.inl ((i+(1:Int)),(lits++[(0 - r4_)])))) (
  up (ZbU o4 lits))
def Zcg (o0:Int×(List Int)×(List Int)×Int×(List (List Int))) (o1:(List Int)×(List D4_)) (vals:List Int) (o4:List D6_):Option (Bool×(List D6_)):=
 (Zhu o0 vals).bind fun r1_=>
 cond (!r1_) (
  loop (ZbV o0 o1 vals o4) ((0:Int),([]:List Int))) (
  some (true,o4))
/-- impl.each -/
def ZbA (r3_:Bool×(List D6_)):Int×(List Int)→Option (((List Int)×(List D6_))⊕(List D6_)):=fun (i3,cells4)=>
 cond (decide (i3<(0:Int))) (
  some (.inr r3_.2)) (
  rq (0≤i3∧i3<cells4.length) <|
  rq (i64 ((cells4.getD i3.toNat 0)+(1:Int))) <|
  rq (0≤i3∧i3<cells4.length) <|
  some (.inl ((cells4.set i3.toNat ((cells4.getD i3.toNat 0)+(1:Int))),r3_.2)))
def Zct (sizes:List Int) (r3_:Bool×(List D6_)):Int×(List Int)→Option ((Int×(List Int))⊕(((List Int)×(List D6_))⊕(List D6_))):=fun (i2,cells3)=>
 cond (decide ((0:Int)≤i2)) (
  rq (0≤i2∧i2<cells3.length) <|
  rq (0≤i2∧i2<sizes.length) <|
  cond ((cells3.getD i2.toNat 0)==(sizes.getD i2.toNat 0)) (
   rq (0≤i2∧i2<cells3.length) <|
   rq (i64 (i2 - (1:Int))) <|
   some (.inl ((i2 - (1:Int)),(cells3.set i2.toNat (0:Int))))) (
   up (ZbA r3_ (i2,cells3)))) (
  up (ZbA r3_ (i2,cells3)))
def ZbB (sizes:List Int) (o0:Int×(List Int)×(List Int)×Int×(List (List Int))) (o1:(List Int)×(List D4_)):(List Int)×(List D6_)→Option (((List Int)×(List D6_))⊕(List D6_)):=fun (cells2,cap)=>
 (Zcg o0 o1 cells2 cap).bind fun r3_=>
 cond r3_.1 (
  rq (i64 ((cells2.length:Int) - (1:Int))) <|
  loop (Zct sizes r3_) (((cells2.length:Int) - (1:Int)),cells2)) (
  some (.inr r3_.2))
def Zbf (sizes:List Int) (from_:List Int) (o0:Int×(List Int)×(List Int)×Int×(List (List Int))) (o1:(List Int)×(List D4_)):Option (List D6_):=
 (Zbu from_).bind fun r1_=>
 loop (ZbB sizes o0 o1) (r1_,([]:List D6_))
/-- (impl.Model).encodeRule -/
def Zef (a1:Int×(List Int)×(List Int)×Int×(List (List Int))):(List D5_)→Option (List D6_):=fun i6=>
 (Zgf i6 a1.2.2.2.1).bind fun r6_=>
 some [(r6_.2.2,r6_.2.1)]
def ZcK (a0:(List Int)×(List D4_)) (a1:Int×(List Int)×(List Int)×Int×(List (List Int))) (i:Int):Int×(List D5_)→Option ((Int×(List D5_))⊕((Int×(List D5_))⊕(List D6_))):=fun (i4,i5)=>
 cond (decide (i4<((a0.1.getD (a1.2.1.getD i.toNat 0).toNat 0)+(1:Int)))) (
  rq (0≤i∧i<a1.2.2.1.length) <|
  rq (i64 ((a1.2.2.1.getD i.toNat 0)*i4)) <|
  (Zcf a0 (a1.2.1.getD i.toNat 0) i4).bind fun r5_=>
  rq (i5.length+[(((a1.2.2.1.getD i.toNat 0)*i4),r5_)].length≤Zp) <|
  rq (i64 (i4+(1:Int))) <|
  some (.inl ((i4+(1:Int)),(i5++[(((a1.2.2.1.getD i.toNat 0)*i4),r5_)])))) (
  rq (i64 (i+(1:Int))) <|
  some (.inr (.inl ((i+(1:Int)),i5))))
def Zgs (a0:(List Int)×(List D4_)) (a1:Int×(List Int)×(List Int)×Int×(List (List Int))):Int×(List D5_)→Option ((Int×(List D5_))⊕(List D6_)):=fun (i,i3)=>
 cond (decide (i<(a1.2.1.length:Int))) (
  rq (0≤i∧i<a1.2.1.length) <|
  rq (0≤(a1.2.1.getD i.toNat 0)∧(a1.2.1.getD i.toNat 0)<a0.1.length) <|
  rq (i64 ((a0.1.getD (a1.2.1.getD i.toNat 0).toNat 0)+(1:Int))) <|
  loop (ZcK a0 a1 i) ((0:Int),i3)) (
  up (Zef a1 i3))
def Zdg (i7:Int) (i11:List D6_):(List Int)→Option ((Int×(List D6_))⊕(List D6_)):=fun i14=>
 cond (decide ((1:Int)<(i14.length:Int))) (
  (Zzd i14).bind fun r14_=>
  (Zgi r14_).bind fun r15_=>
  rq (i11.length+[(r15_.2,r15_.1)].length≤Zp) <|
  rq (i64 (i7+(1:Int))) <|
  some (.inl ((i7+(1:Int)),(i11++[(r15_.2,r15_.1)])))) (
  rq (i64 (i7+(1:Int))) <|
  some (.inl ((i7+(1:Int)),i11)))
def Zdi (a0:(List Int)×(List D4_)) (a1:Int×(List Int)×(List Int)×Int×(List (List Int))) (i7:Int) (i11:List D6_):Int×(List Int)→Option ((Int×(List Int))⊕((Int×(List D6_))⊕(List D6_))):=fun (i12,i13)=>
 cond (decide (i12<(a1.2.1.length:Int))) (
  rq (0≤i12∧i12<a1.2.1.length) <|
  rq (0≤(a1.2.1.getD i12.toNat 0)∧(a1.2.1.getD i12.toNat 0)<a0.1.length) <|
  cond (decide (i7≤(a0.1.getD (a1.2.1.getD i12.toNat 0).toNat 0))) (
   (Zcf a0 (a1.2.1.getD i12.toNat 0) i7).bind fun r13_=>
   rq (i13.length+[r13_].length≤Zp) <|
   rq (i64 (i12+(1:Int))) <|
   some (.inl ((i12+(1:Int)),(i13++[r13_])))) (
   rq (i64 (i12+(1:Int))) <|
   some (.inl ((i12+(1:Int)),i13)))) (
  up (Zdg i7 i11 i13))
def Zgt (a0:(List Int)×(List D4_)) (a1:Int×(List Int)×(List Int)×Int×(List (List Int))):Int×(List D6_)→Option ((Int×(List D6_))⊕(List D6_)):=fun (i7,i11)=>
 cond (decide (i7<(4:Int))) (
  loop (Zdi a0 a1 i7 i11) ((0:Int),([]:List Int))) (
  some (.inr i11))
def Zdh (a0:(List Int)×(List D4_)) (a1:Int×(List Int)×(List Int)×Int×(List (List Int))):(List Int)→Option (List D6_):=fun i17=>
 rq (0≤(i17.length:Int)∧(i17.length:Int)≤Zp∧(i17.length:Int)=(i17.length:Int)) <|
 (Zbf i17 (List.replicate (i17.length:Int).toNat 0) a1 a0).bind fun r16_=>
 some r16_
def Zdj (a0:(List Int)×(List D4_)) (a1:Int×(List Int)×(List Int)×Int×(List (List Int))):Int×(List Int)→Option ((Int×(List Int))⊕(List D6_)):=fun (i15,i16)=>
 cond (decide (i15<(a1.2.1.length:Int))) (
  rq (0≤i15∧i15<a1.2.1.length) <|
  rq (0≤(a1.2.1.getD i15.toNat 0)∧(a1.2.1.getD i15.toNat 0)<a0.1.length) <|
  rq (i16.length+[(a0.1.getD (a1.2.1.getD i15.toNat 0).toNat 0)].length≤Zp) <|
  rq (i64 (i15+(1:Int))) <|
  some (.inl ((i15+(1:Int)),(i16++[(a0.1.getD (a1.2.1.getD i15.toNat 0).toNat 0)])))) (
  up (Zdh a0 a1 i16))
def Zbk (a0:(List Int)×(List D4_)) (a1:Int×(List Int)×(List Int)×Int×(List (List Int))):Option (List D6_):=
 cond (a1.1==(1:Int)) (
  loop (Zgs a0 a1) ((0:Int),([]:List D5_))) (
  cond (a1.1==(2:Int)) (
   loop (Zgt a0 a1) ((0:Int),([]:List D6_))) (
   loop (Zdj a0 a1) ((0:Int),([]:List Int))))
/-- impl.EncodeModel -/
def ZgO:(List D6_)→Option (Bool×(List D6_)):=fun out3=>
 cond (decide ((400:Int)<(out3.length:Int))) (
  some (false,([]:List D6_))) (
  some (true,out3))
def ZgP (m:(List Int)×(List D4_)):Int×(List D6_)→Option ((Int×(List D6_))⊕(Bool×(List D6_))):=fun (i1,out2)=>
 cond (decide (i1<(m.2.length:Int))) (
  rq (0≤i1∧i1<m.2.length) <|
  (Zbk m (m.2.getD i1.toNat (0,([],([],(0,[])))))).bind fun r10_=>
  rq (out2.length+r10_.length≤Zp) <|
  rq (i64 (i1+(1:Int))) <|
  some (.inl ((i1+(1:Int)),(out2++r10_)))) (
  up (ZgO out2))
def ZgN (m:(List Int)×(List D4_)):(List D6_)→Option (Bool×(List D6_)):=fun out1=>
 loop (ZgP m) ((0:Int),out1)
def ZgQ (m:(List Int)×(List D4_)):Int×(List D6_)→Option ((Int×(List D6_))⊕(Bool×(List D6_))):=fun (i,out)=>
 cond (decide (i<(m.1.length:Int))) (
  (Zep m i).bind fun r6_=>
  (Zfz r6_).bind fun r7_=>
  (Zgi r6_).bind fun r8_=>
  rq (out.length+[(r7_.2.2,r7_.2.1),(r8_.2,r8_.1)].length≤Zp) <|
  rq (i64 (i+(1:Int))) <|
  some (.inl ((i+(1:Int)),(out++[(r7_.2.2,r7_.2.1),(r8_.2,r8_.1)])))) (
  up (ZgN m out))
def Zgr (m:(List Int)×(List D4_)):Option (Bool×(List D6_)):=
 (Zee m).bind fun r1_=>
 cond (!r1_) (
  some (false,([]:List D6_))) (
  loop (ZgQ m) ((0:Int),([]:List D6_)))
/-- impl.encoded -/
def ZnD (m:(List Int)×(List D4_)):Option (Bool×(List D6_)):=
 (Zgr m).bind fun r1_=>
 cond r1_.1 (
  some ((decide ((r1_.2.length:Int)<(400:Int))),r1_.2)) (
  some (false,r1_.2))
/-- impl.isObjective$1 -/
def Zhw (n:Int):Option Bool:=
 (ZbW n (-9:Int) (9:Int)).bind fun r1_=>
 some (!r1_)
/-- slices.IndexFunc[[]int,int] -/
def Z2 (s_:List Int):Int→Option (Int⊕Int):=fun i=>
 cond (decide (i<(s_.length:Int))) (
  rq (0≤i∧i<s_.length) <|
  (Zhw (s_.getD i.toNat 0)).bind fun r1_=>
  cond r1_ (
   some (.inr i)) (
   rq (i64 (i+(1:Int))) <|
   some (.inl (i+(1:Int))))) (
  some (.inr (-1:Int)))
def ZbP (s_:List Int):Option Int:=
 loop (Z2 s_) (0:Int)
/-- slices.ContainsFunc[[]int,int] -/
def ZbD (s_:List Int):Option Bool:=
 (ZbP s_).bind fun r1_=>
 some (decide ((0:Int)≤r1_))
/-- impl.isObjective -/
def ZeM (m:(List Int)×(List D4_)) (coefs:List Int):Option Bool:=
 cond ((coefs.length:Int)==(m.1.length:Int)) (
  (ZbD coefs).bind fun r1_=>
  some (!r1_)) (
  some false)
/-- impl.isFuel -/
def Zjw (fuel:Int):Option Bool:=
 (ZbW fuel (0:Int) (2000:Int)).bind fun r1_=>
 some r1_
/-- impl.allValid$1 -/
def Zkb (c_:(List D5_)×Int):Option Bool:=
 (Zdq c_).bind fun r1_=>
 some (!r1_)
/-- slices.IndexFunc[[]impl.Constraint,impl.Constraint] -/
def ZP (s_:List D6_):Int→Option (Int⊕Int):=fun i=>
 cond (decide (i<(s_.length:Int))) (
  rq (0≤i∧i<s_.length) <|
  (Zkb (s_.getD i.toNat ([],0))).bind fun r1_=>
  cond r1_ (
   some (.inr i)) (
   rq (i64 (i+(1:Int))) <|
   some (.inl (i+(1:Int))))) (
  some (.inr (-1:Int)))
def Zbb (s_:List D6_):Option Int:=
 loop (ZP s_) (0:Int)
/-- slices.ContainsFunc[[]impl.Constraint,impl.Constraint] -/
def ZZ (s_:List D6_):Option Bool:=
 (Zbb s_).bind fun r1_=>
 some (decide ((0:Int)≤r1_))
/-- impl.allValid -/
def Zml (list_:List D6_):Option Bool:=
 (ZZ list_).bind fun r1_=>
 some (!r1_)
/-- impl.ProblemValid -/
def ZfF (list_:List D6_):Option Bool:=
 cond (decide ((list_.length:Int)≤(400:Int))) (
  (Zml list_).bind fun r1_=>
  some r1_) (
  some false)
/-- slices.Clone[[]impl.Constraint,impl.Constraint] -/
def Zbt (s_:List D6_):Option (List D6_):=
 nt (s_=[]) (
  some ([]:List D6_)) (
  rq (([]:List D6_).length+s_.length≤Zp) <|
  some (([]:List D6_)++s_))
/-- impl.under -/
def Zlp (l:Int) (p:List Int):Option Int:=
 cond (decide (l<(0:Int))) (
  rq (i64 (0 - l)) <|
  rq (i64 ((0 - l) - (1:Int))) <|
  rq (0≤((0 - l) - (1:Int))∧((0 - l) - (1:Int))<p.length) <|
  rq (i64 (0 - (p.getD ((0 - l) - (1:Int)).toNat 0))) <|
  some (0 - (p.getD ((0 - l) - (1:Int)).toNat 0))) (
  rq (i64 (l - (1:Int))) <|
  rq (0≤(l - (1:Int))∧(l - (1:Int))<p.length) <|
  some (p.getD (l - (1:Int)).toNat 0))
/-- (impl.Constraint).slack -/
def Zed (c_:(List D5_)×Int) (p:List Int):Int×Int→Option ((Int×Int)⊕Int):=fun (out,i)=>
 cond (decide (i<(c_.1.length:Int))) (
  rq (0≤i∧i<c_.1.length) <|
  (Zlp (c_.1.getD i.toNat (0,0)).2 p).bind fun r1_=>
  cond (decide ((0:Int)≤r1_)) (
   rq (i64 (out+(c_.1.getD i.toNat (0,0)).1)) <|
   rq (i64 (i+(1:Int))) <|
   some (.inl ((out+(c_.1.getD i.toNat (0,0)).1),(i+(1:Int))))) (
   rq (i64 (i+(1:Int))) <|
   some (.inl (out,(i+(1:Int)))))) (
  some (.inr out))
def Zdb (c_:(List D5_)×Int) (p:List Int):Option Int:=
 rq (i64 (0 - c_.2)) <|
 loop (Zed c_ p) ((0 - c_.2),(0:Int))
/-- (impl.Constraint).implied -/
def Zc2 (c_:(List D5_)×Int) (p:List Int) (r1_:Int):Int×(List Int)→Option ((Int×(List Int))⊕(List Int)):=fun (i,out)=>
 cond (decide (i<(c_.1.length:Int))) (
  rq (0≤i∧i<c_.1.length) <|
  (Zlp (c_.1.getD i.toNat (0,0)).2 p).bind fun r3_=>
  cond (r3_==(0:Int)) (
   cond (decide (r1_<(c_.1.getD i.toNat (0,0)).1)) (
    rq (out.length+[(c_.1.getD i.toNat (0,0)).2].length≤Zp) <|
    rq (i64 (i+(1:Int))) <|
    some (.inl ((i+(1:Int)),(out++[(c_.1.getD i.toNat (0,0)).2])))) (
    rq (i64 (i+(1:Int))) <|
    some (.inl ((i+(1:Int)),out)))) (
   rq (i64 (i+(1:Int))) <|
   some (.inl ((i+(1:Int)),out)))) (
  some (.inr out))
def Zb8 (c_:(List D5_)×Int) (p:List Int):Option (List Int):=
 (Zdb c_ p).bind fun r1_=>
 loop (Zc2 c_ p r1_) ((0:Int),([]:List Int))
/-- impl.propagate -/
def ZdD (i3:Int) (r9_:(List Int)):Bool×Int×(List Int)→Option ((Bool×Int×(List Int))⊕((Bool×Int×(List Int))⊕((Bool×(List Int))⊕(Int×(List Int))))):=fun (made6,i5,out6)=>
 cond (decide (i5<(r9_.length:Int))) (
  rq (0≤i5∧i5<r9_.length) <|
  cond (decide ((0:Int)<(r9_.getD i5.toNat 0))) (
   rq (i64 ((r9_.getD i5.toNat 0) - (1:Int))) <|
   rq (0≤((r9_.getD i5.toNat 0) - (1:Int))∧((r9_.getD i5.toNat 0) - (1:Int))<out6.length) <|
   rq (i64 (i5+(1:Int))) <|
   some (.inl (true,(i5+(1:Int)),(out6.set ((r9_.getD i5.toNat 0) - (1:Int)).toNat (1:Int))))) (
   rq (i64 (0 - (r9_.getD i5.toNat 0))) <|
   rq (i64 ((0 - (r9_.getD i5.toNat 0)) - (1:Int))) <|
   rq (0≤((0 - (r9_.getD i5.toNat 0)) - (1:Int))∧((0 - (r9_.getD i5.toNat 0)) - (1:Int))<out6.length) <|
   rq (i64 (i5+(1:Int))) <|
   some (.inl (true,(i5+(1:Int)),(out6.set ((0 - (r9_.getD i5.toNat 0)) - (1:Int)).toNat (-1:Int)))))) (
  rq (i64 (i3+(1:Int))) <|
  some (.inr (.inl (made6,(i3+(1:Int)),out6))))
def Zcy (list_:List D6_):Bool×Int×(List Int)→Option ((Bool×Int×(List Int))⊕((Bool×(List Int))⊕(Int×(List Int)))):=fun (made4,i3,out5)=>
 cond (decide (i3<(list_.length:Int))) (
  rq (0≤i3∧i3<list_.length) <|
  (Zdb (list_.getD i3.toNat ([],0)) out5).bind fun r8_=>
  cond (decide (r8_<(0:Int))) (
   some (.inr (.inr (i3,out5)))) (
   (Zb8 (list_.getD i3.toNat ([],0)) out5).bind fun r9_=>
   loop (ZdD i3 r9_) (made4,(0:Int),out5))) (
  some (.inr (.inl (made4,out5))))
def Zer (list_:List D6_):Bool×(List Int)→Option ((Bool×(List Int))⊕(Int×(List Int))):=fun (made,out3)=>
 cond made (
  loop (Zcy list_) (false,(0:Int),out3)) (
  some (.inr ((-1:Int),out3)))
def Zd3 (list_:List D6_) (p:List Int):Option (Int×(List Int)):=
 (Zbu p).bind fun r1_=>
 loop (Zer list_) (true,r1_)
/-- impl.valuesOf -/
def ZiT:(List Bool)→Option (Int×Bool×(List Bool)):=fun out1=>
 some ((0:Int),true,out1)
def Zgu (p:List Int):Int×(List Bool)→Option ((Int×(List Bool))⊕(Int×Bool×(List Bool))):=fun (i,out)=>
 cond (decide (i<(p.length:Int))) (
  rq (0≤i∧i<p.length) <|
  cond ((p.getD i.toNat 0)==(0:Int)) (
   rq (i64 (i+(1:Int))) <|
   some (.inr ((i+(1:Int)),false,([]:List Bool)))) (
   rq (out.length+[(decide ((0:Int)<(p.getD i.toNat 0)))].length≤Zp) <|
   rq (i64 (i+(1:Int))) <|
   some (.inl ((i+(1:Int)),(out++[(decide ((0:Int)<(p.getD i.toNat 0)))]))))) (
  up (ZiT out))
def Zet (p:List Int):Option (Int×Bool×(List Bool)):=
 loop (Zgu p) ((0:Int),([]:List Bool))
/-- slices.Clone[[]impl.Term,impl.Term] -/
def ZdN (s_:List D5_):Option (List D5_):=
 nt (s_=[]) (
  some ([]:List D5_)) (
  rq (([]:List D5_).length+s_.length≤Zp) <|
  some (([]:List D5_)++s_))
/-- (impl.Constraint).own -/
def ZeD (c_:(List D5_)×Int):Option (Int×(List D5_)):=
 (ZdN c_.1).bind fun r1_=>
 some (c_.2,r1_)
/-- (*impl.searching).fail -/
def ZdI (o1:List D6_) (o2:List D9_) (r1_:Bool×Int×(List D5_)):Unit→Option ((List D6_)×(List D9_)):=fun _=>
 (ZeD (r1_.2.2,r1_.2.1)).bind fun r3_=>
 rq (o2.length+[((7:Int),((0:Int),((0:Int),(r3_.2,r3_.1))))].length≤Zp) <|
 some ((o1++[(r1_.2.2,r1_.2.1)]),(o2++[((7:Int),((0:Int),((0:Int),(r3_.2,r3_.1))))]))
def ZdH (o1:List D6_) (o2:List D9_):(List Int)→Option ((List D6_)×(List D9_)):=fun lits1=>
 (Zfz lits1).bind fun r1_=>
 rq (o1.length+[(r1_.2.2,r1_.2.1)].length≤Zp) <|
 ZdI o1 o2 r1_ ()
def Zbd (decisions:List Int) (o1:List D6_) (o2:List D9_):Int×(List Int)→Option ((Int×(List Int))⊕((List D6_)×(List D9_))):=fun (i,lits)=>
 cond (decide (i<(decisions.length:Int))) (
  rq (0≤i∧i<decisions.length) <|
  rq (i64 (0 - (decisions.getD i.toNat 0))) <|
  rq (lits.length+[(0 - (decisions.getD i.toNat 0))].length≤Zp) <|
  rq (i64 (i+(1:Int))) <|
  some (.inl ((i+(1:Int)),(lits++[(0 - (decisions.getD i.toNat 0))])))) (
  up (ZdH o1 o2 lits))
def Zbz (decisions:List Int) (s_1:Int) (s_3:Bool) (o1:List D6_) (o2:List D9_):Option ((List D6_)×(List D9_)):=
 loop (Zbd decisions o1 o2) ((0:Int),([]:List Int))
/-- (*impl.searching).visit -/
def Zbq (a1:List Int):Int×Bool×(List D6_)×(List D9_)→Option (Bool×Int×Bool×(List Bool)×(List D6_)×(List D9_)):=fun (i_12,i_32,i_02,i_22)=>
 (Zbz a1 i_12 i_32 i_02 i_22).bind fun r9_=>
 some (false,i_12,i_32,([]:List Bool),r9_.1,r9_.2)
def Zdt (a1:List Int):Int×Bool×(List D6_)×(List D9_)→Option (Bool×Int×Bool×(List Bool)×(List D6_)×(List D9_)):=fun (i_11,i_31,i_01,i_21)=>
 cond (decide ((1000:Int)≤(i_21.length:Int))) (
  some (false,i_11,true,([]:List Bool),i_01,i_21)) (
  Zbq a1 (i_11,i_31,i_01,i_21))
def ZbX (a1:List Int) (r4_:Int×Bool×(List Bool)) (rec_:(List Int)→Int→Bool→(List D6_)→(List D9_)→Option (Bool×Int×Bool×(List Bool)×(List D6_)×(List D9_))):Int×Int×Bool×(List D6_)×(List D9_)→Option ((Int×Int×Bool×(List D6_)×(List D9_))⊕(Bool×Int×Bool×(List Bool)×(List D6_)×(List D9_))):=fun (i3,i_1,i_3,i_0,i_2)=>
 cond (decide (i3<([r4_.1,(0 - r4_.1)].length:Int))) (
  rq (0≤i3∧i3 < [r4_.1,(0 - r4_.1)].length) <|
  (Zbu a1).bind fun r7_=>
  rq (r7_.length+[([r4_.1,(0 - r4_.1)].getD i3.toNat 0)].length≤Zp) <|
  (rec_ (r7_++[([r4_.1,(0 - r4_.1)].getD i3.toNat 0)]) i_1 i_3 i_0 i_2).bind fun r8_=>
  cond r8_.1 (
   some (.inr (r8_.1,r8_.2.1,r8_.2.2.1,r8_.2.2.2.1,r8_.2.2.2.2.1,r8_.2.2.2.2.2))) (
   cond r8_.2.2.1 (
    some (.inr (r8_.1,r8_.2.1,r8_.2.2.1,r8_.2.2.2.1,r8_.2.2.2.2.1,r8_.2.2.2.2.2))) (
    rq (i64 (i3+(1:Int))) <|
    some (.inl ((i3+(1:Int)),r8_.2.1,r8_.2.2.1,r8_.2.2.2.2.1,r8_.2.2.2.2.2))))) (
  up (Zdt a1 (i_1,i_3,i_0,i_2)))
def ZV (a1:List Int) (o0_1:Int) (o0_3:Bool) (o1:List D6_) (o2:List D9_) (rec_:(List Int)→Int→Bool→(List D6_)→(List D9_)→Option (Bool×Int×Bool×(List Bool)×(List D6_)×(List D9_))):(List Int)→Option (Bool×Int×Bool×(List Bool)×(List D6_)×(List D9_)):=fun i2=>
 (Zd3 o1 i2).bind fun r3_=>
 cond (decide (r3_.1<(0:Int))) (
  (Zet r3_.2).bind fun r4_=>
  cond r4_.2.1 (
   some (true,(o0_1 - (1:Int)),o0_3,r4_.2.2,o1,o2)) (
   rq (i64 (0 - r4_.1)) <|
   loop (ZbX a1 r4_ rec_) ((0:Int),(o0_1 - (1:Int)),o0_3,o1,o2))) (
  Zbq a1 ((o0_1 - (1:Int)),o0_3,o1,o2))
def Zbr (a1:List Int) (o0_1:Int) (o0_3:Bool) (o1:List D6_) (o2:List D9_) (rec_:(List Int)→Int→Bool→(List D6_)→(List D9_)→Option (Bool×Int×Bool×(List Bool)×(List D6_)×(List D9_))):Int×(List Int)→Option ((Int×(List Int))⊕(Bool×Int×Bool×(List Bool)×(List D6_)×(List D9_))):=fun (i,i1)=>
 cond (decide (i<(a1.length:Int))) (
  rq (0≤i∧i<a1.length) <|
  (ZcO (a1.getD i.toNat 0)).bind fun r2_=>
  rq (i64 (r2_ - (1:Int))) <|
  rq (0≤(r2_ - (1:Int))∧(r2_ - (1:Int))<i1.length) <|
  cond (decide ((a1.getD i.toNat 0)<(0:Int))) (
   rq (i64 (0 - (a1.getD i.toNat 0))) <|
   rq (i64 ((0 - (a1.getD i.toNat 0)) - (1:Int))) <|
   rq (0≤((0 - (a1.getD i.toNat 0)) - (1:Int))∧((0 - (a1.getD i.toNat 0)) - (1:Int))<(i1.set (r2_ - (1:Int)).toNat (1:Int)).length) <|
   rq (i64 (i+(1:Int))) <|
   some (.inl ((i+(1:Int)),((i1.set (r2_ - (1:Int)).toNat (1:Int)).set ((0 - (a1.getD i.toNat 0)) - (1:Int)).toNat (-1:Int))))) (
   rq (i64 (i+(1:Int))) <|
   some (.inl ((i+(1:Int)),(i1.set (r2_ - (1:Int)).toNat (1:Int)))))) (
  up (ZV a1 o0_1 o0_3 o1 o2 rec_ i1))
def ZH (rec_:(List Int)→Int→Bool→(List D6_)→(List D9_)→Option (Bool×Int×Bool×(List Bool)×(List D6_)×(List D9_))) (a1:List Int) (o0_1:Int) (o0_3:Bool) (o1:List D6_) (o2:List D9_):Option (Bool×Int×Bool×(List Bool)×(List D6_)×(List D9_)):=
 cond (o0_1==(0:Int)) (
  some (false,o0_1,true,([]:List Bool),o1,o2)) (
  cond (decide ((1000:Int)≤(o2.length:Int))) (
   some (false,o0_1,true,([]:List Bool),o1,o2)) (
   rq (i64 (o0_1 - (1:Int))) <|
   rq (0≤(12:Int)∧(12:Int)≤Zp∧(12:Int)=(12:Int)) <|
   loop (Zbr a1 o0_1 o0_3 o1 o2 rec_) ((0:Int),(List.replicate (12:Int).toNat 0))))
/-- So many calls within calls. -/
def ZA:Nat→(List Int)→Int→Bool→(List D6_)→(List D9_)→Option (Bool×Int×Bool×(List Bool)×(List D6_)×(List D9_))
  |0=>fun _ _ _ _ _=>none
  |n_+1=>ZH (ZA n_)
/-- (*impl.searching).visit -/
def ZeO (a1:List Int):Int×Bool×(List D6_)×(List D9_)→Option (Bool×Int×Bool×(List Bool)×(List D6_)×(List D9_)):=fun (i_12,i_32,i_02,i_22)=>
 (Zbz a1 i_12 i_32 i_02 i_22).bind fun r9_=>
 some (false,i_12,i_32,([]:List Bool),r9_.1,r9_.2)
def Zic (a1:List Int):Int×Bool×(List D6_)×(List D9_)→Option (Bool×Int×Bool×(List Bool)×(List D6_)×(List D9_)):=fun (i_11,i_31,i_01,i_21)=>
 cond (decide ((1000:Int)≤(i_21.length:Int))) (
  some (false,i_11,true,([]:List Bool),i_01,i_21)) (
  ZeO a1 (i_11,i_31,i_01,i_21))
def ZeP (a1:List Int) (r4_:Int×Bool×(List Bool)):Int×Int×Bool×(List D6_)×(List D9_)→Option ((Int×Int×Bool×(List D6_)×(List D9_))⊕(Bool×Int×Bool×(List Bool)×(List D6_)×(List D9_))):=fun (i3,i_1,i_3,i_0,i_2)=>
 cond (decide (i3<([r4_.1,(0 - r4_.1)].length:Int))) (
  rq (0≤i3∧i3 < [r4_.1,(0 - r4_.1)].length) <|
  (Zbu a1).bind fun r7_=>
  rq (r7_.length+[([r4_.1,(0 - r4_.1)].getD i3.toNat 0)].length≤Zp) <|
  (ZA 64 (r7_++[([r4_.1,(0 - r4_.1)].getD i3.toNat 0)]) i_1 i_3 i_0 i_2).bind fun r8_=>
  cond r8_.1 (
   some (.inr (r8_.1,r8_.2.1,r8_.2.2.1,r8_.2.2.2.1,r8_.2.2.2.2.1,r8_.2.2.2.2.2))) (
   cond r8_.2.2.1 (
    some (.inr (r8_.1,r8_.2.1,r8_.2.2.1,r8_.2.2.2.1,r8_.2.2.2.2.1,r8_.2.2.2.2.2))) (
    rq (i64 (i3+(1:Int))) <|
    some (.inl ((i3+(1:Int)),r8_.2.1,r8_.2.2.1,r8_.2.2.2.2.1,r8_.2.2.2.2.2))))) (
  up (Zic a1 (i_1,i_3,i_0,i_2)))
def Zdr (a1:List Int) (o0_1:Int) (o0_3:Bool) (o1:List D6_):(List Int)→Option (Bool×Int×Bool×(List Bool)×(List D6_)×(List D9_)):=fun i2=>
 (Zd3 o1 i2).bind fun r3_=>
 cond (decide (r3_.1<(0:Int))) (
  (Zet r3_.2).bind fun r4_=>
  cond r4_.2.1 (
   some (true,(o0_1 - (1:Int)),o0_3,r4_.2.2,o1,([]:List D9_))) (
   rq (i64 (0 - r4_.1)) <|
   loop (ZeP a1 r4_) ((0:Int),(o0_1 - (1:Int)),o0_3,o1,([]:List D9_)))) (
  ZeO a1 ((o0_1 - (1:Int)),o0_3,o1,([]:List D9_)))
def Zds (a1:List Int) (o0_1:Int) (o0_3:Bool) (o1:List D6_):Int×(List Int)→Option ((Int×(List Int))⊕(Bool×Int×Bool×(List Bool)×(List D6_)×(List D9_))):=fun (i,i1)=>
 cond (decide (i<(a1.length:Int))) (
  rq (0≤i∧i<a1.length) <|
  (ZcO (a1.getD i.toNat 0)).bind fun r2_=>
  rq (i64 (r2_ - (1:Int))) <|
  rq (0≤(r2_ - (1:Int))∧(r2_ - (1:Int))<i1.length) <|
  cond (decide ((a1.getD i.toNat 0)<(0:Int))) (
   rq (i64 (0 - (a1.getD i.toNat 0))) <|
   rq (i64 ((0 - (a1.getD i.toNat 0)) - (1:Int))) <|
   rq (0≤((0 - (a1.getD i.toNat 0)) - (1:Int))∧((0 - (a1.getD i.toNat 0)) - (1:Int))<(i1.set (r2_ - (1:Int)).toNat (1:Int)).length) <|
   rq (i64 (i+(1:Int))) <|
   some (.inl ((i+(1:Int)),((i1.set (r2_ - (1:Int)).toNat (1:Int)).set ((0 - (a1.getD i.toNat 0)) - (1:Int)).toNat (-1:Int))))) (
   rq (i64 (i+(1:Int))) <|
   some (.inl ((i+(1:Int)),(i1.set (r2_ - (1:Int)).toNat (1:Int)))))) (
  up (Zdr a1 o0_1 o0_3 o1 i1))
def Zde (rec_:(List Int)→Int→Bool→(List D6_)→Option (Bool×Int×Bool×(List Bool)×(List D6_)×(List D9_))) (a1:List Int) (o0_1:Int) (o0_3:Bool) (o1:List D6_):Option (Bool×Int×Bool×(List Bool)×(List D6_)×(List D9_)):=
 cond (o0_1==(0:Int)) (
  some (false,o0_1,true,([]:List Bool),o1,([]:List D9_))) (
  cond (decide ((1000:Int)≤(0:Int))) (
   some (false,o0_1,true,([]:List Bool),o1,([]:List D9_))) (
   rq (i64 (o0_1 - (1:Int))) <|
   rq (0≤(12:Int)∧(12:Int)≤Zp∧(12:Int)=(12:Int)) <|
   loop (Zds a1 o0_1 o0_3 o1) ((0:Int),(List.replicate (12:Int).toNat 0))))
/-- So many calls within calls. -/
def Zco:Nat→(List Int)→Int→Bool→(List D6_)→Option (Bool×Int×Bool×(List Bool)×(List D6_)×(List D9_))
  |0=>fun _ _ _ _=>none
  |n_+1=>Zde (Zco n_)
/-- impl.SolveProblem -/
def ZdC (list_:List D6_) (fuel:Int):Option (Int×(List Bool)×(List D9_)):=
 (ZfF list_).bind fun r1_=>
 cond (!r1_) (
  some ((3:Int),([]:List Bool),([]:List D9_))) (
  (Zjw fuel).bind fun r2_=>
  cond (!r2_) (
   some ((3:Int),([]:List Bool),([]:List D9_))) (
   (Zbt list_).bind fun r3_=>
   (Zco 64 ([]:List Int) fuel false r3_).bind fun r4_=>
   cond r4_.1 (
    some ((1:Int),r4_.2.2.2.1,([]:List D9_))) (
    cond r4_.2.2.1 (
     some ((0:Int),([]:List Bool),([]:List D9_))) (
     some ((2:Int),([]:List Bool),r4_.2.2.2.2.2)))))
/-- impl.DecodeValues -/
def ZiP (i:Int):Int×(List Int)→Option ((Int×(List Int))⊕(Bool×(List Int))):=fun (count3,out4)=>
 cond (count3 != (1:Int)) (
  some (.inr (false,([]:List Int)))) (
  rq (i64 (i+(1:Int))) <|
  some (.inl ((i+(1:Int)),out4)))
def ZfZ (values:List Bool) (i:Int) (r3_:(List Int)):Int×Int×(List Int)→Option ((Int×Int×(List Int))⊕((Int×(List Int))⊕(Bool×(List Int)))):=fun (count2,i2,out3)=>
 cond (decide (i2<(r3_.length:Int))) (
  rq (0≤i2∧i2<r3_.length) <|
  rq (i64 ((r3_.getD i2.toNat 0) - (1:Int))) <|
  rq (0≤((r3_.getD i2.toNat 0) - (1:Int))∧((r3_.getD i2.toNat 0) - (1:Int))<values.length) <|
  cond (values.getD ((r3_.getD i2.toNat 0) - (1:Int)).toNat false) (
   rq (out3.length+[i2].length≤Zp) <|
   rq (i64 (count2+(1:Int))) <|
   rq (i64 (i2+(1:Int))) <|
   some (.inl ((count2+(1:Int)),(i2+(1:Int)),(out3++[i2])))) (
   rq (i64 (i2+(1:Int))) <|
   some (.inl (count2,(i2+(1:Int)),out3)))) (
  up (ZiP i (count2,out3)))
def ZfY (m:(List Int)×(List D4_)) (values:List Bool):Int×(List Int)→Option ((Int×(List Int))⊕(Bool×(List Int))):=fun (i,out2)=>
 cond (decide (i<(m.1.length:Int))) (
  (Zep m i).bind fun r3_=>
  loop (ZfZ values i r3_) ((0:Int),(0:Int),out2)) (
  some (.inr (true,out2)))
def Zeo (m:(List Int)×(List D4_)) (values:List Bool):Option (Bool×(List Int)):=
 (Zee m).bind fun r1_=>
 cond (!r1_) (
  some (false,([]:List Int))) (
  cond ((values.length:Int) != (12:Int)) (
   some (false,([]:List Int))) (
   loop (ZfY m values) ((0:Int),([]:List Int))))
/-- impl.valueOf -/
def ZnE (coefs:List Int) (cells:List Int):Int×Int→Option ((Int×Int)⊕Int):=fun (sum,i)=>
 cond (decide (i<(cells.length:Int))) (
  rq (0≤i∧i<cells.length) <|
  rq (0≤i∧i<coefs.length) <|
  rq (i64 ((coefs.getD i.toNat 0)*(cells.getD i.toNat 0))) <|
  rq (i64 (sum+((coefs.getD i.toNat 0)*(cells.getD i.toNat 0)))) <|
  rq (i64 (i+(1:Int))) <|
  some (.inl ((sum+((coefs.getD i.toNat 0)*(cells.getD i.toNat 0))),(i+(1:Int))))) (
  some (.inr sum))
def Zid (coefs:List Int) (cells:List Int):Option Int:=
 loop (ZnE coefs cells) ((0:Int),(0:Int))
/-- impl.AtMostConstraint -/
def Zgq (most:Int):(List D5_)→Option (Bool×Int×(List D5_)):=fun terms3=>
 rq (i64 (0 - most)) <|
 (Zgf terms3 (0 - most)).bind fun r9_=>
 some (r9_.1,r9_.2.1,r9_.2.2)
def Zec (m:(List Int)×(List D4_)) (coefs:List Int) (i:Int):Int×(List D5_)→Option ((Int×(List D5_))⊕((Int×(List D5_))⊕(Bool×Int×(List D5_)))):=fun (i2,terms2)=>
 cond (decide (i2<((m.1.getD i.toNat 0)+(1:Int)))) (
  rq (0≤i∧i<coefs.length) <|
  rq (i64 (0 - (coefs.getD i.toNat 0))) <|
  rq (i64 ((0 - (coefs.getD i.toNat 0))*i2)) <|
  (Zcf m i i2).bind fun r8_=>
  rq (terms2.length+[(((0 - (coefs.getD i.toNat 0))*i2),r8_)].length≤Zp) <|
  rq (i64 (i2+(1:Int))) <|
  some (.inl ((i2+(1:Int)),(terms2++[(((0 - (coefs.getD i.toNat 0))*i2),r8_)])))) (
  rq (i64 (i+(1:Int))) <|
  some (.inr (.inl ((i+(1:Int)),terms2))))
def Zeb (m:(List Int)×(List D4_)) (coefs:List Int) (most:Int):Int×(List D5_)→Option ((Int×(List D5_))⊕(Bool×Int×(List D5_))):=fun (i,terms1)=>
 cond (decide (i<(m.1.length:Int))) (
  rq (0≤i∧i<m.1.length) <|
  rq (i64 ((m.1.getD i.toNat 0)+(1:Int))) <|
  loop (Zec m coefs i) ((0:Int),terms1)) (
  up (Zgq most terms1))
def Zda (m:(List Int)×(List D4_)) (coefs:List Int) (most:Int):Option (Bool×Int×(List D5_)):=
 (Zee m).bind fun r1_=>
 cond (!r1_) (
  some (false,(0:Int),([]:List D5_))) (
  (ZeM m coefs).bind fun r2_=>
  cond (!r2_) (
   some (false,(0:Int),([]:List D5_))) (
   (ZbW most (-1000:Int) (1000:Int)).bind fun r3_=>
   cond (!r3_) (
    some (false,(0:Int),([]:List D5_))) (
    loop (Zeb m coefs most) ((0:Int),([]:List D5_)))))
/-- impl.ProveOptimum -/
def ZnC (r1_:Bool×(List D6_)) (r13_:Bool×(List Int)):Int×(List D5_)→Option (((List D6_)×(List Int))⊕(Int×(List Int)×(List D9_))):=fun (i_11,i_01)=>
 (Zbt r1_.2).bind fun r16_=>
 rq (r16_.length+[(i_01,i_11)].length≤Zp) <|
 rq (r13_.2≠[]) <|
 some (.inl ((r16_++[(i_01,i_11)]),r13_.2))
def ZiQ (r1_:Bool×(List D6_)) (r17_:Bool×(List Int)):Int×(List D5_)→Option (((List D6_)×(List Int))⊕(Int×(List Int)×(List D9_))):=fun (i_12,i_02)=>
 (Zbt r1_.2).bind fun r20_=>
 rq (r20_.length+[(i_02,i_12)].length≤Zp) <|
 rq (r17_.2≠[]) <|
 some (.inl ((r20_++[(i_02,i_12)]),r17_.2))
def Zbe (a0:(List Int)×(List D4_)) (a1:List Int) (a2:Int) (r1_:Bool×(List D6_)):(List D6_)×(List Int)→Option (((List D6_)×(List Int))⊕(Int×(List Int)×(List D9_))):=fun (i,i1)=>
 (ZdC i a2).bind fun r12_=>
 cond (r12_.1==(2:Int)) (
  cond i1.isEmpty (
   some (.inr ((2:Int),([]:List Int),r12_.2.2))) (
   cond (r12_.1==(2:Int)) (
    some (.inr ((1:Int),i1,r12_.2.2))) (
    cond (r12_.1 != (1:Int)) (
     some (.inr ((0:Int),i1,([]:List D9_)))) (
     (Zeo a0 r12_.2.1).bind fun r13_=>
     (Zid a1 r13_.2).bind fun r14_=>
     rq (i64 (r14_ - (1:Int))) <|
     (Zda a0 a1 (r14_ - (1:Int))).bind fun r15_=>
     ZnC r1_ r13_ (r15_.2.1,r15_.2.2))))) (
  cond (r12_.1==(2:Int)) (
   some (.inr ((1:Int),i1,r12_.2.2))) (
   cond (r12_.1 != (1:Int)) (
    some (.inr ((0:Int),i1,([]:List D9_)))) (
    (Zeo a0 r12_.2.1).bind fun r17_=>
    (Zid a1 r17_.2).bind fun r18_=>
    rq (i64 (r18_ - (1:Int))) <|
    (Zda a0 a1 (r18_ - (1:Int))).bind fun r19_=>
    ZiQ r1_ r17_ (r19_.2.1,r19_.2.2))))
def Zeq (a0:(List Int)×(List D4_)) (a1:List Int) (a2:Int):Option (Int×(List Int)×(List D9_)):=
 (ZnD a0).bind fun r1_=>
 cond (!r1_.1) (
  some ((3:Int),([]:List Int),([]:List D9_))) (
  (ZeM a0 a1).bind fun r2_=>
  cond (!r2_) (
   some ((3:Int),([]:List Int),([]:List D9_))) (
   (Zjw a2).bind fun r3_=>
   cond (!r3_) (
    some ((3:Int),([]:List Int),([]:List D9_))) (
    loop (Zbe a0 a1 a2 r1_) (r1_.2,([]:List Int)))))
/-- laws.eqIntS -/
def Zlq (a:List Int) (b:List Int):Int→Option (Int⊕Bool):=fun i=>
 cond (decide (i<(a.length:Int))) (
  rq (0≤i∧i<a.length) <|
  rq (0≤i∧i<b.length) <|
  cond ((a.getD i.toNat 0) != (b.getD i.toNat 0)) (
   some (.inr false)) (
   rq (i64 (i+(1:Int))) <|
   some (.inl (i+(1:Int))))) (
  some (.inr true))
def Zdm (a:List Int) (b:List Int):Option Bool:=
 cond ((a.length:Int) != (b.length:Int)) (
  some false) (
  loop (Zlq a b) (0:Int))
/-- laws.eqTerm -/
def ZoU (a:Int×Int) (b:Int×Int):Option Bool:=
 cond (a.1 != b.1) (
  some false) (
  cond (a.2 != b.2) (
   some false) (
   some true))
/-- laws.eqTermS -/
def Zkf (a:List D5_) (b:List D5_):Int→Option (Int⊕Bool):=fun i=>
 cond (decide (i<(a.length:Int))) (
  rq (0≤i∧i<a.length) <|
  rq (0≤i∧i<b.length) <|
  (ZoU (a.getD i.toNat (0,0)) (b.getD i.toNat (0,0))).bind fun r2_=>
  cond (!r2_) (
   some (.inr false)) (
   rq (i64 (i+(1:Int))) <|
   some (.inl (i+(1:Int))))) (
  some (.inr true))
def ZkW (a:List D5_) (b:List D5_):Option Bool:=
 cond ((a.length:Int) != (b.length:Int)) (
  some false) (
  loop (Zkf a b) (0:Int))
/-- laws.eqConstraint -/
def Zh0 (a:(List D5_)×Int) (b:(List D5_)×Int):Option Bool:=
 (ZkW a.1 b.1).bind fun r1_=>
 cond (!r1_) (
  some false) (
  cond (a.2 != b.2) (
   some false) (
   some true))
/-- laws.eqStep -/
def Zl3 (a:Int×Int×Int×(List D5_)×Int) (b:Int×Int×Int×(List D5_)×Int):Option Bool:=
 cond (a.1 != b.1) (
  some false) (
  cond (a.2.1 != b.2.1) (
   some false) (
   cond (a.2.2.1 != b.2.2.1) (
    some false) (
    (Zh0 a.2.2.2 b.2.2.2).bind fun r1_=>
    cond (!r1_) (
     some false) (
     some true))))
/-- laws.eqStepS -/
def Zke (a:List D9_) (b:List D9_):Int→Option (Int⊕Bool):=fun i=>
 cond (decide (i<(a.length:Int))) (
  rq (0≤i∧i<a.length) <|
  rq (0≤i∧i<b.length) <|
  (Zl3 (a.getD i.toNat (0,(0,(0,([],0))))) (b.getD i.toNat (0,(0,(0,([],0)))))).bind fun r2_=>
  cond (!r2_) (
   some (.inr false)) (
   rq (i64 (i+(1:Int))) <|
   some (.inl (i+(1:Int))))) (
  some (.inr true))
def Zgv (a:List D9_) (b:List D9_):Option Bool:=
 cond ((a.length:Int) != (b.length:Int)) (
  some false) (
  loop (Zke a b) (0:Int))
/-- laws.eqIntSS -/
def Zkc (a:List (List Int)) (b:List (List Int)):Int→Option (Int⊕Bool):=fun i=>
 cond (decide (i<(a.length:Int))) (
  rq (0≤i∧i<a.length) <|
  rq (0≤i∧i<b.length) <|
  (Zdm (a.getD i.toNat []) (b.getD i.toNat [])).bind fun r2_=>
  cond (!r2_) (
   some (.inr false)) (
   rq (i64 (i+(1:Int))) <|
   some (.inl (i+(1:Int))))) (
  some (.inr true))
def ZkT (a:List (List Int)) (b:List (List Int)):Option Bool:=
 cond ((a.length:Int) != (b.length:Int)) (
  some false) (
  loop (Zkc a b) (0:Int))
/-- laws.eqRule -/
def Zl2 (a:Int×(List Int)×(List Int)×Int×(List (List Int))) (b:Int×(List Int)×(List Int)×Int×(List (List Int))):Option Bool:=
 cond (a.1 != b.1) (
  some false) (
  (Zdm a.2.1 b.2.1).bind fun r1_=>
  cond (!r1_) (
   some false) (
   (Zdm a.2.2.1 b.2.2.1).bind fun r2_=>
   cond (!r2_) (
    some false) (
    cond (a.2.2.2.1 != b.2.2.2.1) (
     some false) (
     (ZkT a.2.2.2.2 b.2.2.2.2).bind fun r3_=>
     cond (!r3_) (
      some false) (
      some true)))))
/-- laws.eqRuleS -/
def Zkd (a:List D4_) (b:List D4_):Int→Option (Int⊕Bool):=fun i=>
 cond (decide (i<(a.length:Int))) (
  rq (0≤i∧i<a.length) <|
  rq (0≤i∧i<b.length) <|
  (Zl2 (a.getD i.toNat (0,([],([],(0,[]))))) (b.getD i.toNat (0,([],([],(0,[])))))).bind fun r2_=>
  cond (!r2_) (
   some (.inr false)) (
   rq (i64 (i+(1:Int))) <|
   some (.inl (i+(1:Int))))) (
  some (.inr true))
def ZkV (a:List D4_) (b:List D4_):Option Bool:=
 cond ((a.length:Int) != (b.length:Int)) (
  some false) (
  loop (Zkd a b) (0:Int))
/-- laws.eqModel -/
def ZkU (a:(List Int)×(List D4_)) (b:(List Int)×(List D4_)):Option Bool:=
 (Zdm a.1 b.1).bind fun r1_=>
 cond (!r1_) (
  some false) (
  (ZkV a.2 b.2).bind fun r2_=>
  cond (!r2_) (
   some false) (
   some true))
/-- laws.markIntS -/
def ZeR:Int×Int×(List Int)→Option ((Int×Int×(List Int))⊕(Int×(List Int))):=fun (k_1,i,a1)=>
 cond (decide (i<(a1.length:Int))) (
  rq (0≤i∧i<a1.length) <|
  rq (i64 (k_1+(1:Int))) <|
  rq (i64 (i+(1:Int))) <|
  some (.inl ((k_1+(1:Int)),(i+(1:Int)),(a1.set i.toNat k_1)))) (
  some (.inr (k_1,a1)))
def ZdQ (k_:Int) (a:List Int):Option (Int×(List Int)):=
 loop (ZeR) (k_,(0:Int),a)
/-- laws.markIntS -/
def ZeE:Int×Int×(List Int)→Option ((Int×Int×(List Int))⊕(Int×(List Int))):=fun (k_1,i,a1)=>
 cond (decide (i<(a1.length:Int))) (
  rq (0≤i∧i<a1.length) <|
  rq (i64 (k_1+(1:Int))) <|
  rq (i64 (i+(1:Int))) <|
  some (.inl ((k_1+(1:Int)),(i+(1:Int)),(a1.set i.toNat k_1)))) (
  some (.inr (k_1,a1)))
def ZdZ (k_:Int) (a:List Int):Option (Int×(List Int)):=
 loop (ZeE) (k_,(0:Int),a)
/-- laws.markIntSS -/
def ZfI:Int×Int×(List (List Int))→Option ((Int×Int×(List (List Int)))⊕(Int×(List (List Int)))):=fun (k_1,i,a1)=>
 cond (decide (i<(a1.length:Int))) (
  rq (0≤i∧i<a1.length) <|
  (ZdZ k_1 (a1.getD i.toNat [])).bind fun r2_=>
  rq (i64 (i+(1:Int))) <|
  some (.inl (r2_.1,(i+(1:Int)),(a1.set i.toNat r2_.2)))) (
  some (.inr (k_1,a1)))
def Zil (k_:Int) (a:List (List Int)):Option (Int×(List (List Int))):=
 loop (ZfI) (k_,(0:Int),a)
/-- laws.markRuleS -/
def ZlR (i:Int) (k_3:Int):(List D4_)→Option ((Int×Int×(List D4_))⊕(Int×(List D4_))):=fun a5=>
 rq (i64 (k_3+(1:Int))) <|
 rq (0≤i∧i<a5.length) <|
 (Zil (k_3+(1:Int)) (a5.getD i.toNat (0,([],([],(0,[]))))).2.2.2.2).bind fun r6_=>
 rq (i64 (i+(1:Int))) <|
 some (.inl (r6_.1,(i+(1:Int)),(a5.set i.toNat ((a5.getD i.toNat (0,([],([],(0,[]))))).1,((a5.getD i.toNat (0,([],([],(0,[]))))).2.1,((a5.getD i.toNat (0,([],([],(0,[]))))).2.2.1,((a5.getD i.toNat (0,([],([],(0,[]))))).2.2.2.1,r6_.2)))))))
def ZlQ (i:Int):Int×(List D4_)→Option ((Int×Int×(List D4_))⊕(Int×(List D4_))):=fun (k_3,a4)=>
 rq (0≤i∧i<a4.length) <|
 ZlR i k_3 (a4.set i.toNat ((a4.getD i.toNat (0,([],([],(0,[]))))).1,((a4.getD i.toNat (0,([],([],(0,[]))))).2.1,((a4.getD i.toNat (0,([],([],(0,[]))))).2.2.1,(k_3,(a4.getD i.toNat (0,([],([],(0,[]))))).2.2.2.2)))))
def ZfJ:Int×Int×(List D4_)→Option ((Int×Int×(List D4_))⊕(Int×(List D4_))):=fun (k_1,i,a3)=>
 cond (decide (i<(a3.length:Int))) (
  rq (0≤i∧i<a3.length) <|
  rq (i64 (k_1+(1:Int))) <|
  rq (0≤i∧i<(a3.set i.toNat (k_1,(a3.getD i.toNat (0,([],([],(0,[]))))).2)).length) <|
  (ZdZ (k_1+(1:Int)) ((a3.set i.toNat (k_1,(a3.getD i.toNat (0,([],([],(0,[]))))).2)).getD i.toNat (0,([],([],(0,[]))))).2.1).bind fun r4_=>
  rq (0≤i∧i<(a3.set i.toNat (k_1,(a3.getD i.toNat (0,([],([],(0,[]))))).2)).length) <|
  (ZdZ r4_.1 (((a3.set i.toNat (k_1,(a3.getD i.toNat (0,([],([],(0,[]))))).2)).set i.toNat (((a3.set i.toNat (k_1,(a3.getD i.toNat (0,([],([],(0,[]))))).2)).getD i.toNat (0,([],([],(0,[]))))).1,(r4_.2,((a3.set i.toNat (k_1,(a3.getD i.toNat (0,([],([],(0,[]))))).2)).getD i.toNat (0,([],([],(0,[]))))).2.2))).getD i.toNat (0,([],([],(0,[]))))).2.2.1).bind fun r5_=>
  ZlQ i (r5_.1,(((a3.set i.toNat (k_1,(a3.getD i.toNat (0,([],([],(0,[]))))).2)).set i.toNat (((a3.set i.toNat (k_1,(a3.getD i.toNat (0,([],([],(0,[]))))).2)).getD i.toNat (0,([],([],(0,[]))))).1,(r4_.2,((a3.set i.toNat (k_1,(a3.getD i.toNat (0,([],([],(0,[]))))).2)).getD i.toNat (0,([],([],(0,[]))))).2.2))).set i.toNat ((((a3.set i.toNat (k_1,(a3.getD i.toNat (0,([],([],(0,[]))))).2)).set i.toNat (((a3.set i.toNat (k_1,(a3.getD i.toNat (0,([],([],(0,[]))))).2)).getD i.toNat (0,([],([],(0,[]))))).1,(r4_.2,((a3.set i.toNat (k_1,(a3.getD i.toNat (0,([],([],(0,[]))))).2)).getD i.toNat (0,([],([],(0,[]))))).2.2))).getD i.toNat (0,([],([],(0,[]))))).1,((((a3.set i.toNat (k_1,(a3.getD i.toNat (0,([],([],(0,[]))))).2)).set i.toNat (((a3.set i.toNat (k_1,(a3.getD i.toNat (0,([],([],(0,[]))))).2)).getD i.toNat (0,([],([],(0,[]))))).1,(r4_.2,((a3.set i.toNat (k_1,(a3.getD i.toNat (0,([],([],(0,[]))))).2)).getD i.toNat (0,([],([],(0,[]))))).2.2))).getD i.toNat (0,([],([],(0,[]))))).2.1,(r5_.2,(((a3.set i.toNat (k_1,(a3.getD i.toNat (0,([],([],(0,[]))))).2)).set i.toNat (((a3.set i.toNat (k_1,(a3.getD i.toNat (0,([],([],(0,[]))))).2)).getD i.toNat (0,([],([],(0,[]))))).1,(r4_.2,((a3.set i.toNat (k_1,(a3.getD i.toNat (0,([],([],(0,[]))))).2)).getD i.toNat (0,([],([],(0,[]))))).2.2))).getD i.toNat (0,([],([],(0,[]))))).2.2.2)))))) (
  some (.inr (k_1,a3)))
def Zgl (k_:Int) (a:List D4_):Option (Int×(List D4_)):=
 loop (ZfJ) (k_,(0:Int),a)
/-- laws.markModel -/
def Zim (k_:Int) (o0:List Int) (o1:List D4_):Option (Int×(List Int)×(List D4_)):=
 (ZdQ k_ o0).bind fun r1_=>
 (Zgl r1_.1 o1).bind fun r2_=>
 some (r2_.1,r1_.2,r2_.2)
/-- laws.markTermS -/
def ZiW (k_1:Int) (i:Int):(List D5_)→Option ((Int×Int×(List D5_))⊕(Int×(List D5_))):=fun a3=>
 rq (i64 ((k_1+(1:Int))+(1:Int))) <|
 rq (i64 (i+(1:Int))) <|
 some (.inl (((k_1+(1:Int))+(1:Int)),(i+(1:Int)),a3))
def Zei:Int×Int×(List D5_)→Option ((Int×Int×(List D5_))⊕(Int×(List D5_))):=fun (k_1,i,a2)=>
 cond (decide (i<(a2.length:Int))) (
  rq (0≤i∧i<a2.length) <|
  rq (i64 (k_1+(1:Int))) <|
  rq (0≤i∧i<(a2.set i.toNat (k_1,(a2.getD i.toNat (0,0)).2)).length) <|
  ZiW k_1 i ((a2.set i.toNat (k_1,(a2.getD i.toNat (0,0)).2)).set i.toNat (((a2.set i.toNat (k_1,(a2.getD i.toNat (0,0)).2)).getD i.toNat (0,0)).1,(k_1+(1:Int))))) (
  some (.inr (k_1,a2)))
def ZfL (k_:Int) (a:List D5_):Option (Int×(List D5_)):=
 loop (Zei) (k_,(0:Int),a)
/-- laws.markStepS -/
def ZlU (i:Int) (r2_:Int×(List D5_)):(List D9_)→Option ((Int×Int×(List D9_))⊕(Int×(List D9_))):=fun a7=>
 rq (i64 (r2_.1+(1:Int))) <|
 rq (i64 (i+(1:Int))) <|
 some (.inl ((r2_.1+(1:Int)),(i+(1:Int)),a7))
def ZlT (k_1:Int) (i:Int):(List D9_)→Option ((Int×Int×(List D9_))⊕(Int×(List D9_))):=fun a6=>
 rq (i64 (((k_1+(1:Int))+(1:Int))+(1:Int))) <|
 rq (0≤i∧i<a6.length) <|
 (ZfL (((k_1+(1:Int))+(1:Int))+(1:Int)) (a6.getD i.toNat (0,(0,(0,([],0))))).2.2.2.1).bind fun r2_=>
 rq (0≤i∧i<a6.length) <|
 ZlU i r2_ ((a6.set i.toNat ((a6.getD i.toNat (0,(0,(0,([],0))))).1,((a6.getD i.toNat (0,(0,(0,([],0))))).2.1,((a6.getD i.toNat (0,(0,(0,([],0))))).2.2.1,((a6.getD i.toNat (0,(0,(0,([],0))))).2.2.2.1,r2_.1))))).set i.toNat (((a6.set i.toNat ((a6.getD i.toNat (0,(0,(0,([],0))))).1,((a6.getD i.toNat (0,(0,(0,([],0))))).2.1,((a6.getD i.toNat (0,(0,(0,([],0))))).2.2.1,((a6.getD i.toNat (0,(0,(0,([],0))))).2.2.2.1,r2_.1))))).getD i.toNat (0,(0,(0,([],0))))).1,(((a6.set i.toNat ((a6.getD i.toNat (0,(0,(0,([],0))))).1,((a6.getD i.toNat (0,(0,(0,([],0))))).2.1,((a6.getD i.toNat (0,(0,(0,([],0))))).2.2.1,((a6.getD i.toNat (0,(0,(0,([],0))))).2.2.2.1,r2_.1))))).getD i.toNat (0,(0,(0,([],0))))).2.1,(((a6.set i.toNat ((a6.getD i.toNat (0,(0,(0,([],0))))).1,((a6.getD i.toNat (0,(0,(0,([],0))))).2.1,((a6.getD i.toNat (0,(0,(0,([],0))))).2.2.1,((a6.getD i.toNat (0,(0,(0,([],0))))).2.2.2.1,r2_.1))))).getD i.toNat (0,(0,(0,([],0))))).2.2.1,(r2_.2,((a6.set i.toNat ((a6.getD i.toNat (0,(0,(0,([],0))))).1,((a6.getD i.toNat (0,(0,(0,([],0))))).2.1,((a6.getD i.toNat (0,(0,(0,([],0))))).2.2.1,((a6.getD i.toNat (0,(0,(0,([],0))))).2.2.2.1,r2_.1))))).getD i.toNat (0,(0,(0,([],0))))).2.2.2.2)))))
def ZlS (k_1:Int) (i:Int):(List D9_)→Option ((Int×Int×(List D9_))⊕(Int×(List D9_))):=fun a5=>
 rq (i64 ((k_1+(1:Int))+(1:Int))) <|
 rq (0≤i∧i<a5.length) <|
 ZlT k_1 i (a5.set i.toNat ((a5.getD i.toNat (0,(0,(0,([],0))))).1,((a5.getD i.toNat (0,(0,(0,([],0))))).2.1,(((k_1+(1:Int))+(1:Int)),(a5.getD i.toNat (0,(0,(0,([],0))))).2.2.2))))
def ZfK:Int×Int×(List D9_)→Option ((Int×Int×(List D9_))⊕(Int×(List D9_))):=fun (k_1,i,a4)=>
 cond (decide (i<(a4.length:Int))) (
  rq (0≤i∧i<a4.length) <|
  rq (i64 (k_1+(1:Int))) <|
  rq (0≤i∧i<(a4.set i.toNat (k_1,(a4.getD i.toNat (0,(0,(0,([],0))))).2)).length) <|
  ZlS k_1 i ((a4.set i.toNat (k_1,(a4.getD i.toNat (0,(0,(0,([],0))))).2)).set i.toNat (((a4.set i.toNat (k_1,(a4.getD i.toNat (0,(0,(0,([],0))))).2)).getD i.toNat (0,(0,(0,([],0))))).1,((k_1+(1:Int)),((a4.set i.toNat (k_1,(a4.getD i.toNat (0,(0,(0,([],0))))).2)).getD i.toNat (0,(0,(0,([],0))))).2.2)))) (
  some (.inr (k_1,a4)))
def Zin (k_:Int) (a:List D9_):Option (Int×(List D9_)):=
 loop (ZfK) (k_,(0:Int),a)
/-- laws.heldIntS -/
def ZiV (a:List Int):Int×Int→Option ((Int×Int)⊕Int):=fun (k_1,i)=>
 cond (decide (i<(a.length:Int))) (
  rq (0≤i∧i<a.length) <|
  cond ((a.getD i.toNat 0) != k_1) (
   some (.inr (-1:Int))) (
   rq (i64 (k_1+(1:Int))) <|
   rq (i64 (i+(1:Int))) <|
   some (.inl ((k_1+(1:Int)),(i+(1:Int)))))) (
  some (.inr k_1))
def ZfA (a:List Int) (k_:Int):Option Int:=
 loop (ZiV a) (k_,(0:Int))
/-- laws.heldTermS -/
def Zh2 (a:List D5_):Int×Int→Option ((Int×Int)⊕Int):=fun (k_1,i)=>
 cond (decide (i<(a.length:Int))) (
  rq (0≤i∧i<a.length) <|
  cond ((a.getD i.toNat (0,0)).1 != k_1) (
   some (.inr (-1:Int))) (
   rq (i64 (k_1+(1:Int))) <|
   rq (0≤i∧i<a.length) <|
   cond ((a.getD i.toNat (0,0)).2 != (k_1+(1:Int))) (
    some (.inr (-1:Int))) (
    rq (i64 ((k_1+(1:Int))+(1:Int))) <|
    rq (i64 (i+(1:Int))) <|
    some (.inl (((k_1+(1:Int))+(1:Int)),(i+(1:Int))))))) (
  some (.inr k_1))
def Zik (a:List D5_) (k_:Int):Option Int:=
 loop (Zh2 a) (k_,(0:Int))
/-- laws.heldStepS -/
def Zh1 (a:List D9_):Int×Int→Option ((Int×Int)⊕Int):=fun (k_1,i)=>
 cond (decide (i<(a.length:Int))) (
  rq (0≤i∧i<a.length) <|
  cond ((a.getD i.toNat (0,(0,(0,([],0))))).1 != k_1) (
   some (.inr (-1:Int))) (
   rq (i64 (k_1+(1:Int))) <|
   rq (0≤i∧i<a.length) <|
   cond ((a.getD i.toNat (0,(0,(0,([],0))))).2.1 != (k_1+(1:Int))) (
    some (.inr (-1:Int))) (
    rq (i64 ((k_1+(1:Int))+(1:Int))) <|
    rq (0≤i∧i<a.length) <|
    cond ((a.getD i.toNat (0,(0,(0,([],0))))).2.2.1 != ((k_1+(1:Int))+(1:Int))) (
     some (.inr (-1:Int))) (
     rq (i64 (((k_1+(1:Int))+(1:Int))+(1:Int))) <|
     rq (0≤i∧i<a.length) <|
     (Zik (a.getD i.toNat (0,(0,(0,([],0))))).2.2.2.1 (((k_1+(1:Int))+(1:Int))+(1:Int))).bind fun r1_=>
     cond (decide (r1_<(0:Int))) (
      some (.inr (-1:Int))) (
      rq (0≤i∧i<a.length) <|
      cond ((a.getD i.toNat (0,(0,(0,([],0))))).2.2.2.2 != r1_) (
       some (.inr (-1:Int))) (
       rq (i64 (r1_+(1:Int))) <|
       rq (i64 (i+(1:Int))) <|
       some (.inl ((r1_+(1:Int)),(i+(1:Int)))))))))) (
  some (.inr k_1))
def ZeQ (a:List D9_) (k_:Int):Option Int:=
 loop (Zh1 a) (k_,(0:Int))
/-- laws.FnExactProveOptimum -/
def Zfe (a0:(List Int)×(List D4_)) (a1:List Int) (a2:Int) (r4_:Int×(List Int)×(List D9_)) (r5_:(List Int)×(List D4_)) (r6_:(List Int)) (r7_:Int×(List Int)×(List D9_)):Unit→Option Bool:=fun _=>
 (Zdn a1).bind fun r14_=>
 (Zdm r6_ r14_).bind fun r15_=>
 cond (!r15_) (
  some false) (
  (Zim (1:Int) r5_.1 r5_.2).bind fun r16_=>
  (ZdQ r16_.1 r6_).bind fun r17_=>
  cond (decide (r17_.1<(0:Int))) (
   some false) (
   cond (r7_.1 != r4_.1) (
    some false) (
    (Zdm r7_.2.1 r4_.2.1).bind fun r18_=>
    cond (!r18_) (
     some false) (
     (Zgv r7_.2.2 r4_.2.2).bind fun r19_=>
     cond (!r19_) (
      some false) (
      (ZdQ (1:Int) r7_.2.1).bind fun r20_=>
      (Zin r20_.1 r7_.2.2).bind fun r21_=>
      (ZfA r20_.2 (1:Int)).bind fun r22_=>
      cond (decide (r22_<(0:Int))) (
       some false) (
       (ZeQ r21_.2 r22_).bind fun r23_=>
       cond (decide (r23_<(0:Int))) (
        some false) (
        cond (r23_ != r21_.1) (
         some false) (
         (Zff a0).bind fun r24_=>
         (Zdn a1).bind fun r25_=>
         (Zeq r24_ r25_ a2).bind fun r26_=>
         cond (r26_.1 != r4_.1) (
          some false) (
          (Zdm r26_.2.1 r4_.2.1).bind fun r27_=>
          cond (!r27_) (
           some false) (
           (Zgv r26_.2.2 r4_.2.2).bind fun r28_=>
           cond (!r28_) (
            some false) (
            (ZfA r20_.2 (1:Int)).bind fun r29_=>
            cond (decide (r29_<(0:Int))) (
             some false) (
             (ZeQ r21_.2 r29_).bind fun r30_=>
             cond (decide (r30_<(0:Int))) (
              some false) (
              cond (r30_ != r21_.1) (
               some false) (
               some true))))))))))))))
def Zeh (a0:(List Int)×(List D4_)) (a1:List Int) (a2:Int):Option Bool:=
 cond (decide ((1048576:Int)<(a1.length:Int))) (
  some true) (
  (ZkY a0 (1048576:Int)).bind fun r1_=>
  cond (decide (r1_<(0:Int))) (
   some true) (
   (Zff a0).bind fun r2_=>
   (Zdn a1).bind fun r3_=>
   (ZfP r2_ r3_ a2).bind fun r4_=>
   (Zff a0).bind fun r5_=>
   (Zdn a1).bind fun r6_=>
   (Zeq r5_ r6_ a2).bind fun r7_=>
   cond (r7_.1 != r4_.1) (
    some false) (
    (Zdm r7_.2.1 r4_.2.1).bind fun r8_=>
    cond (!r8_) (
     some false) (
     (Zgv r7_.2.2 r4_.2.2).bind fun r9_=>
     cond (!r9_) (
      some false) (
      (Zff a0).bind fun r12_=>
      (ZkU r5_ r12_).bind fun r13_=>
      cond (!r13_) (
       some false) (
       Zfe a0 a1 a2 r4_ r5_ r6_ r7_ ()))))))
end
end Go.AE.Y
