/-
  Models of the functions: what each computes, as a Lean function into Option. Definitions alone.
-/
import Derived.Test.YtaeeiddjpigemaaGreatAEx3
namespace Go.AE.Y
open Go Go.AE
set_option linter.unusedVariables false
noncomputable section
abbrev y0_:Ty:=(.int .i64)
abbrev y1_:Ty:=(.pair (.sl (.int .u8)) y0_)
abbrev D1_:Type:=(List Int)×Int
abbrev y2_:Ty:=(.pair y0_ (.sl (.sl y0_)))
abbrev D2_:Type:=Int×(List (List Int))
abbrev y3_:Ty:=(.pair (.sl y0_) y2_)
abbrev D3_:Type:=(List Int)×Int×(List (List Int))
abbrev y4_:Ty:=(.pair (.sl y0_) y3_)
abbrev D4_:Type:=(List Int)×(List Int)×Int×(List (List Int))
abbrev y5_:Ty:=(.pair y0_ y4_)
abbrev D5_:Type:=Int×(List Int)×(List Int)×Int×(List (List Int))
abbrev y6_:Ty:=(.pair y0_ y0_)
abbrev D6_:Type:=Int×Int
abbrev y7_:Ty:=(.pair (.sl y6_) y0_)
abbrev D7_:Type:=(List (Int×Int))×Int
abbrev y8_:Ty:=(.pair y0_ y7_)
abbrev D8_:Type:=Int×(List (Int×Int))×Int
abbrev y9_:Ty:=(.pair y0_ y8_)
abbrev D9_:Type:=Int×Int×(List (Int×Int))×Int
abbrev Zdg:Ty:=(.pair y0_ y9_)
abbrev Zw:Type:=Int×Int×Int×(List (Int×Int))×Int
abbrev ZGk:Ty:=(.pair (.sl y0_) (.sl y5_))
abbrev ZRj:Type:=(List Int)×(List (Int×(List Int)×(List Int)×Int×(List (List Int))))
def Zm1:(List Int)→Option D1_:=fun code1=>
 some (code1,(0:Int))
def Zrd (code:List Int):Option D1_:=
 cond (decide ((2000:Int)<(code.length:Int))) (
  rq (0≤(2000:Int)∧(2000:Int)≤code.length) <|
  Zm1 (code.take (2000:Int).toNat)) (
  Zm1 code)
def ZbT (a1:Int) (o0:(List Int)×Int):Option (Int×D1_):=
 rq (i64 (o0.2+(1:Int))) <|
 cond (decide (a1<(1:Int))) (
  some ((0:Int),(o0.1,(o0.2+(1:Int))))) (
  cond ((o0.1.length:Int)==(0:Int)) (
   some ((0:Int),(o0.1,(o0.2+(1:Int))))) (
   rq (i64 ((o0.2+(1:Int)) - (1:Int))) <|
   cond (decide (((o0.2+(1:Int)) - (1:Int))<(o0.1.length:Int))) (
    rq (0≤((o0.2+(1:Int)) - (1:Int))∧((o0.2+(1:Int)) - (1:Int))<o0.1.length) <|
    rq (i64 (o0.1.getD ((o0.2+(1:Int)) - (1:Int)).toNat 0)) <|
    rq (1≤a1∧0≤(o0.1.getD ((o0.2+(1:Int)) - (1:Int)).toNat 0)) <|
    some (((o0.1.getD ((o0.2+(1:Int)) - (1:Int)).toNat 0) % a1),(o0.1,(o0.2+(1:Int))))) (
    rq (1≤(o0.1.length:Int)∧0≤((o0.2+(1:Int)) - (1:Int))) <|
    rq (0≤(((o0.2+(1:Int)) - (1:Int)) % (o0.1.length:Int))∧(((o0.2+(1:Int)) - (1:Int)) % (o0.1.length:Int))<o0.1.length) <|
    rq (i64 (o0.1.getD (((o0.2+(1:Int)) - (1:Int)) % (o0.1.length:Int)).toNat 0)) <|
    rq (i64 ((o0.1.getD (((o0.2+(1:Int)) - (1:Int)) % (o0.1.length:Int)).toNat 0)*(131:Int))) <|
    rq (i64 (((o0.2+(1:Int)) - (1:Int))*(7:Int))) <|
    rq (i64 ((((o0.2+(1:Int)) - (1:Int))*(7:Int))+(3:Int))) <|
    rq (1≤(o0.1.length:Int)∧0≤((((o0.2+(1:Int)) - (1:Int))*(7:Int))+(3:Int))) <|
    rq (0≤(((((o0.2+(1:Int)) - (1:Int))*(7:Int))+(3:Int)) % (o0.1.length:Int))∧(((((o0.2+(1:Int)) - (1:Int))*(7:Int))+(3:Int)) % (o0.1.length:Int))<o0.1.length) <|
    rq (i64 (o0.1.getD (((((o0.2+(1:Int)) - (1:Int))*(7:Int))+(3:Int)) % (o0.1.length:Int)).toNat 0)) <|
    rq (i64 ((o0.1.getD (((((o0.2+(1:Int)) - (1:Int))*(7:Int))+(3:Int)) % (o0.1.length:Int)).toNat 0)*(1117:Int))) <|
    rq (i64 (((o0.1.getD (((o0.2+(1:Int)) - (1:Int)) % (o0.1.length:Int)).toNat 0)*(131:Int))+((o0.1.getD (((((o0.2+(1:Int)) - (1:Int))*(7:Int))+(3:Int)) % (o0.1.length:Int)).toNat 0)*(1117:Int)))) <|
    rq (i64 (((o0.2+(1:Int)) - (1:Int))*(29:Int))) <|
    rq (i64 ((((o0.1.getD (((o0.2+(1:Int)) - (1:Int)) % (o0.1.length:Int)).toNat 0)*(131:Int))+((o0.1.getD (((((o0.2+(1:Int)) - (1:Int))*(7:Int))+(3:Int)) % (o0.1.length:Int)).toNat 0)*(1117:Int)))+(((o0.2+(1:Int)) - (1:Int))*(29:Int)))) <|
    rq (1≤(o0.1.length:Int)∧0≤((o0.2+(1:Int)) - (1:Int))) <|
    rq (i64 ((((o0.2+(1:Int)) - (1:Int)) / (o0.1.length:Int))*(53:Int))) <|
    rq (i64 (((((o0.1.getD (((o0.2+(1:Int)) - (1:Int)) % (o0.1.length:Int)).toNat 0)*(131:Int))+((o0.1.getD (((((o0.2+(1:Int)) - (1:Int))*(7:Int))+(3:Int)) % (o0.1.length:Int)).toNat 0)*(1117:Int)))+(((o0.2+(1:Int)) - (1:Int))*(29:Int)))+((((o0.2+(1:Int)) - (1:Int)) / (o0.1.length:Int))*(53:Int)))) <|
    rq (1≤(64:Int)∧0≤(((((o0.1.getD (((o0.2+(1:Int)) - (1:Int)) % (o0.1.length:Int)).toNat 0)*(131:Int))+((o0.1.getD (((((o0.2+(1:Int)) - (1:Int))*(7:Int))+(3:Int)) % (o0.1.length:Int)).toNat 0)*(1117:Int)))+(((o0.2+(1:Int)) - (1:Int))*(29:Int)))+((((o0.2+(1:Int)) - (1:Int)) / (o0.1.length:Int))*(53:Int)))) <|
    rq (0≤(((((o0.1.getD (((o0.2+(1:Int)) - (1:Int)) % (o0.1.length:Int)).toNat 0)*(131:Int))+((o0.1.getD (((((o0.2+(1:Int)) - (1:Int))*(7:Int))+(3:Int)) % (o0.1.length:Int)).toNat 0)*(1117:Int)))+(((o0.2+(1:Int)) - (1:Int))*(29:Int)))+((((o0.2+(1:Int)) - (1:Int)) / (o0.1.length:Int))*(53:Int)))∧0≤((((((o0.1.getD (((o0.2+(1:Int)) - (1:Int)) % (o0.1.length:Int)).toNat 0)*(131:Int))+((o0.1.getD (((((o0.2+(1:Int)) - (1:Int))*(7:Int))+(3:Int)) % (o0.1.length:Int)).toNat 0)*(1117:Int)))+(((o0.2+(1:Int)) - (1:Int))*(29:Int)))+((((o0.2+(1:Int)) - (1:Int)) / (o0.1.length:Int))*(53:Int))) / (64:Int))) <|
    rq (1≤a1∧0≤(((((((o0.1.getD (((o0.2+(1:Int)) - (1:Int)) % (o0.1.length:Int)).toNat 0)*(131:Int))+((o0.1.getD (((((o0.2+(1:Int)) - (1:Int))*(7:Int))+(3:Int)) % (o0.1.length:Int)).toNat 0)*(1117:Int)))+(((o0.2+(1:Int)) - (1:Int))*(29:Int)))+((((o0.2+(1:Int)) - (1:Int)) / (o0.1.length:Int))*(53:Int))).toNat ^^^ ((((((o0.1.getD (((o0.2+(1:Int)) - (1:Int)) % (o0.1.length:Int)).toNat 0)*(131:Int))+((o0.1.getD (((((o0.2+(1:Int)) - (1:Int))*(7:Int))+(3:Int)) % (o0.1.length:Int)).toNat 0)*(1117:Int)))+(((o0.2+(1:Int)) - (1:Int))*(29:Int)))+((((o0.2+(1:Int)) - (1:Int)) / (o0.1.length:Int))*(53:Int))) / (64:Int)).toNat:Nat):Int)) <|
    some (((((((((o0.1.getD (((o0.2+(1:Int)) - (1:Int)) % (o0.1.length:Int)).toNat 0)*(131:Int))+((o0.1.getD (((((o0.2+(1:Int)) - (1:Int))*(7:Int))+(3:Int)) % (o0.1.length:Int)).toNat 0)*(1117:Int)))+(((o0.2+(1:Int)) - (1:Int))*(29:Int)))+((((o0.2+(1:Int)) - (1:Int)) / (o0.1.length:Int))*(53:Int))).toNat ^^^ ((((((o0.1.getD (((o0.2+(1:Int)) - (1:Int)) % (o0.1.length:Int)).toNat 0)*(131:Int))+((o0.1.getD (((((o0.2+(1:Int)) - (1:Int))*(7:Int))+(3:Int)) % (o0.1.length:Int)).toNat 0)*(1117:Int)))+(((o0.2+(1:Int)) - (1:Int))*(29:Int)))+((((o0.2+(1:Int)) - (1:Int)) / (o0.1.length:Int))*(53:Int))) / (64:Int)).toNat:Nat):Int) % a1),(o0.1,(o0.2+(1:Int)))))))
def Zbk (list_:List Int) (r_:(List Int)×Int):Option (Int×D1_):=
 (ZbT (list_.length:Int) r_).bind fun r1_=>
 rq (0≤r1_.1∧r1_.1<list_.length) <|
 some ((list_.getD r1_.1.toNat 0),r1_.2)
def ZdT (i3:(List Int)×Int):(List Int)→Option (D1_×(List Int)):=fun i12=>
 cond (decide ((1:Int)<(i12.length:Int))) (
  (ZbT (3:Int) i3).bind fun r3_=>
  cond (r3_.1==(0:Int)) (
   rq (0≤(0:Int)∧(0:Int)<i12.length) <|
   rq (0≤(1:Int)∧(1:Int)<i12.length) <|
   rq (0≤(0:Int)∧(0:Int)<i12.length) <|
   rq (0≤(1:Int)∧(1:Int)<(i12.set (0:Int).toNat (i12.getD (1:Int).toNat 0)).length) <|
   some (r3_.2,((i12.set (0:Int).toNat (i12.getD (1:Int).toNat 0)).set (1:Int).toNat (i12.getD (0:Int).toNat 0)))) (
   some (r3_.2,i12))) (
  some (i3,i12))
def ZmL (a2:Int) (i3:(List Int)×Int):Int×(List Int)→Option ((Int×(List Int))⊕(D1_×(List Int))):=fun (i10,i11)=>
 cond (decide (i10<a2)) (
  rq (i11.length+[i10].length≤Zl) <|
  rq (i64 (i10+(1:Int))) <|
  some (.inl ((i10+(1:Int)),(i11++[i10])))) (
  up (ZdT i3 i11))
def ZmM (a2:Int) (i3:(List Int)×Int):Int×(List Int)→Option ((Int×(List Int))⊕(D1_×(List Int))):=fun (i8,i9)=>
 cond (decide (i8<a2)) (
  rq (i9.length+[i8].length≤Zl) <|
  rq (i64 (i8+(1:Int))) <|
  some (.inl ((i8+(1:Int)),(i9++[i8])))) (
  up (ZdT i3 i9))
def ZfM (a2:Int) (i3:(List Int)×Int):(List Int)→Option (D1_×(List Int)):=fun i7=>
 cond (decide ((i7.length:Int)<a2)) (
  loop (ZmL a2 i3) ((0:Int),([]:List Int))) (
  cond ((i7.length:Int)==(0:Int)) (
   loop (ZmM a2 i3) ((0:Int),([]:List Int))) (
   ZdT i3 i7))
def ZiI (a2:Int) (o1:List Int) (i3:(List Int)×Int):Int×(List Int)→Option ((Int×(List Int))⊕(D1_×(List Int))):=fun (i5,i6)=>
 cond (decide ((i6.length:Int)<a2)) (
  cond (decide (i5<(o1.length:Int))) (
   cond ((i6.length:Int)==(0:Int)) (
    rq (i6.length+[i5].length≤Zl) <|
    rq (i64 (i5+(1:Int))) <|
    some (.inl ((i5+(1:Int)),(i6++[i5])))) (
    rq (i64 ((i6.length:Int) - (1:Int))) <|
    rq (0≤((i6.length:Int) - (1:Int))∧((i6.length:Int) - (1:Int))<i6.length) <|
    cond (decide ((i6.getD ((i6.length:Int) - (1:Int)).toNat 0)<i5)) (
     rq (i6.length+[i5].length≤Zl) <|
     rq (i64 (i5+(1:Int))) <|
     some (.inl ((i5+(1:Int)),(i6++[i5])))) (
     rq (i64 (i5+(1:Int))) <|
     some (.inl ((i5+(1:Int)),i6))))) (
   up (ZfM a2 i3 i6))) (
  up (ZfM a2 i3 i6))
def ZiH (a2:Int) (o1:List Int):D1_×(List Int)→Option (D1_×(List Int)):=fun (i3,i4)=>
 loop (ZiI a2 o1 i3) ((0:Int),i4)
def ZiJ (a2:Int) (o1:List Int):Int×D1_×(List Int)→Option ((Int×D1_×(List Int))⊕(D1_×(List Int))):=fun (i,i1,i2)=>
 cond (decide (i<(o1.length:Int))) (
  (ZbT (3:Int) i1).bind fun r2_=>
  cond (decide ((0:Int)<r2_.1)) (
   rq (i2.length+[i].length≤Zl) <|
   rq (i64 (i+(1:Int))) <|
   some (.inl ((i+(1:Int)),r2_.2,(i2++[i])))) (
   rq (i64 (i+(1:Int))) <|
   some (.inl ((i+(1:Int)),r2_.2,i2)))) (
  up (ZiH a2 o1 (i1,i2)))
def Zig (a2:Int) (o0:(List Int)×Int) (o1:List Int) (o2:List D5_):Option (D1_×(List Int)):=
 loop (ZiJ a2 o1) ((0:Int),o0,([]:List Int))
def ZmJ (r1_:Int×D1_) (r2_:D1_×(List Int)):D1_×(List Int)→Option (D1_×Int×Int×(List Int)×(List Int)×(List (List Int))):=fun (i2,i_21)=>
 (Zbk [(1:Int),(2:Int),(0:Int),(-1:Int),(3:Int),(-3:Int),(4:Int)] i2).bind fun r6_=>
 some (r6_.2,r1_.1,r6_.1,r2_.2,i_21,([]:List (List Int)))
def ZiE (r1_:Int×D1_) (r2_:D1_×(List Int)):Int×D1_×(List Int)→Option ((Int×D1_×(List Int))⊕(D1_×Int×Int×(List Int)×(List Int)×(List (List Int)))):=fun (i,i1,i_2)=>
 cond (decide (i<(r2_.2.length:Int))) (
  (Zbk [(1:Int),(-1:Int),(2:Int),(1:Int),(-2:Int),(3:Int)] i1).bind fun r5_=>
  rq (i_2.length+[r5_.1].length≤Zl) <|
  rq (i64 (i+(1:Int))) <|
  some (.inl ((i+(1:Int)),r5_.2,(i_2++[r5_.1])))) (
  up (ZmJ r1_ r2_ (i1,i_2)))
def ZmK (i3:Int) (i_4:List (List Int)):D1_×(List Int)→Option ((Int×D1_×(List (List Int)))⊕(D1_×Int×Int×(List Int)×(List Int)×(List (List Int)))):=fun (i13,i14)=>
 rq (i_4.length+[i14].length≤Zl) <|
 rq (i64 (i3 - (1:Int))) <|
 some (.inl ((i3 - (1:Int)),i13,(i_4++[i14])))
def ZiG (r2_:D1_×(List Int)) (i3:Int) (i_4:List (List Int)):Int×D1_×(List Int)→Option ((Int×D1_×(List Int))⊕((Int×D1_×(List (List Int)))⊕(D1_×Int×Int×(List Int)×(List Int)×(List (List Int))))):=fun (i10,i11,i12)=>
 cond (decide (i10<(r2_.2.length:Int))) (
  (ZbT (4:Int) i11).bind fun r11_=>
  rq (i12.length+[r11_.1].length≤Zl) <|
  rq (i64 (i10+(1:Int))) <|
  some (.inl ((i10+(1:Int)),r11_.2,(i12++[r11_.1])))) (
  up (ZmK i3 i_4 (i11,i12)))
def ZiF (r1_:Int×D1_) (r2_:D1_×(List Int)):Int×D1_×(List (List Int))→Option ((Int×D1_×(List (List Int)))⊕(D1_×Int×Int×(List Int)×(List Int)×(List (List Int)))):=fun (i3,i9,i_4)=>
 cond (decide ((0:Int)<i3)) (
  loop (ZiG r2_ i3 i_4) ((0:Int),i9,([]:List Int))) (
  some (.inr (i9,r1_.1,(0:Int),r2_.2,([]:List Int),i_4)))
def ZlK (o0:(List Int)×Int) (o1:List Int) (o2:List D5_):Option (D1_×Int×Int×(List Int)×(List Int)×(List (List Int))):=
 (Zbk [(1:Int),(2:Int),(3:Int),(4:Int),(1:Int)] o0).bind fun r1_=>
 (Zig (1:Int) r1_.2 o1 o2).bind fun r2_=>
 cond (r1_.1==(1:Int)) (
  loop (ZiE r1_ r2_) ((0:Int),r2_.1,([]:List Int))) (
  cond (r1_.1==(3:Int)) (
   (Zbk [(3:Int),(4:Int),(2:Int),(6:Int),(0:Int),(8:Int)] r2_.1).bind fun r7_=>
   loop (ZiF r1_ r2_) (r7_.1,r7_.2,([]:List (List Int)))) (
   cond (r1_.1==(4:Int)) (
    (Zig (2:Int) r2_.1 o1 o2).bind fun r12_=>
    rq (0≤(2:Int)∧(2:Int)≤r12_.2.length) <|
    some (r12_.1,r1_.1,(0:Int),(r12_.2.take (2:Int).toNat),([]:List Int),([]:List (List Int)))) (
    some (r2_.1,r1_.1,(0:Int),r2_.2,([]:List Int),([]:List (List Int))))))
def Znc (i_03:List Int):Int×D1_×(List D5_)→Option ((Int×D1_×(List D5_))⊕(D1_×(List Int)×(List D5_))):=fun (i8,i9,i_1)=>
 cond (decide ((0:Int)<i8)) (
  (ZlK i9 i_03 i_1).bind fun r8_=>
  rq (i_1.length+[(r8_.2.1,(r8_.2.2.2.1,(r8_.2.2.2.2.1,(r8_.2.2.1,r8_.2.2.2.2.2))))].length≤Zl) <|
  rq (i64 (i8 - (1:Int))) <|
  some (.inl ((i8 - (1:Int)),r8_.1,(i_1++[(r8_.2.1,(r8_.2.2.2.1,(r8_.2.2.2.2.1,(r8_.2.2.1,r8_.2.2.2.2.2))))])))) (
  some (.inr (i9,i_03,i_1)))
def Znb (i2:(List Int)×Int):(List Int)→Option (D1_×(List Int)×(List D5_)):=fun i_03=>
 (Zbk [(2:Int),(3:Int),(1:Int),(4:Int),(0:Int)] i2).bind fun r5_=>
 loop (Znc i_03) (r5_.1,r5_.2,([]:List D5_))
def ZgL (i_02:List Int):Int×Int→Option ((Int×Int)⊕((Int×(List Int))⊕(D1_×(List Int)×(List D5_)))):=fun (i6,i7)=>
 cond (decide (i7<(i_02.length:Int))) (
  rq (0≤i7∧i7<i_02.length) <|
  rq (i64 (i6+(i_02.getD i7.toNat 0))) <|
  rq (i64 ((i6+(i_02.getD i7.toNat 0))+(1:Int))) <|
  rq (i64 (i7+(1:Int))) <|
  some (.inl (((i6+(i_02.getD i7.toNat 0))+(1:Int)),(i7+(1:Int))))) (
  cond (decide ((12:Int)<i6)) (
   rq (i64 ((i_02.length:Int) - (1:Int))) <|
   rq (0≤((i_02.length:Int) - (1:Int))∧((i_02.length:Int) - (1:Int))≤i_02.length) <|
   some (.inr (.inl ((0:Int),(i_02.take ((i_02.length:Int) - (1:Int)).toNat))))) (
   some (.inr (.inl (i6,i_02)))))
def Znd (i2:(List Int)×Int):Int×(List Int)→Option ((Int×(List Int))⊕(D1_×(List Int)×(List D5_))):=fun (i3,i_02)=>
 cond (i3==(0:Int)) (
  loop (ZgL i_02) (i3,(0:Int))) (
  up (Znb i2 i_02))
def Zna:D1_×(List Int)→Option (D1_×(List Int)×(List D5_)):=fun (i2,i_01)=>
 loop (Znd i2) ((0:Int),i_01)
def Zne:Int×D1_×(List Int)→Option ((Int×D1_×(List Int))⊕(D1_×(List Int)×(List D5_))):=fun (i,i1,i_0)=>
 cond (decide ((0:Int)<i)) (
  (Zbk [(2:Int),(1:Int),(3:Int),(2:Int),(0:Int)] i1).bind fun r4_=>
  rq (i_0.length+[r4_.1].length≤Zl) <|
  rq (i64 (i - (1:Int))) <|
  some (.inl ((i - (1:Int)),r4_.2,(i_0++[r4_.1])))) (
  up (Zna (i1,i_0)))
def Zrh (o0:(List Int)×Int):Option (D1_×(List Int)×(List D5_)):=
 (Zbk [(3:Int),(2:Int),(4:Int),(3:Int)] o0).bind fun r1_=>
 loop (Zne) (r1_.1,r1_.2,([]:List Int))
def ZxV (m:(List Int)×(List D5_)) (i:Int) (out_1:List D5_):(List (List Int))→Option ((Int×(List D5_))⊕((List Int)×(List D5_))):=fun y_43=>
 rq (out_1.length+[((m.2.getD i.toNat (0,([],([],(0,[]))))).1,((([]:List Int)++(m.2.getD i.toNat (0,([],([],(0,[]))))).2.1),((([]:List Int)++(m.2.getD i.toNat (0,([],([],(0,[]))))).2.2.1),((m.2.getD i.toNat (0,([],([],(0,[]))))).2.2.2.1,y_43))))].length≤Zl) <|
 rq (i64 (i+(1:Int))) <|
 some (.inl ((i+(1:Int)),(out_1++[((m.2.getD i.toNat (0,([],([],(0,[]))))).1,((([]:List Int)++(m.2.getD i.toNat (0,([],([],(0,[]))))).2.1),((([]:List Int)++(m.2.getD i.toNat (0,([],([],(0,[]))))).2.2.1),((m.2.getD i.toNat (0,([],([],(0,[]))))).2.2.2.1,y_43))))])))
def ZhO (m:(List Int)×(List D5_)) (i:Int) (out_1:List D5_):Int×(List (List Int))→Option ((Int×(List (List Int)))⊕((Int×(List D5_))⊕((List Int)×(List D5_)))):=fun (k_1,y_42)=>
 cond (decide (k_1<((m.2.getD i.toNat (0,([],([],(0,[]))))).2.2.2.2.length:Int))) (
  rq (0≤k_1∧k_1<(m.2.getD i.toNat (0,([],([],(0,[]))))).2.2.2.2.length) <|
  rq (([]:List Int).length+((m.2.getD i.toNat (0,([],([],(0,[]))))).2.2.2.2.getD k_1.toNat []).length≤Zl) <|
  rq (y_42.length+[(([]:List Int)++((m.2.getD i.toNat (0,([],([],(0,[]))))).2.2.2.2.getD k_1.toNat []))].length≤Zl) <|
  rq (i64 (k_1+(1:Int))) <|
  some (.inl ((k_1+(1:Int)),(y_42++[(([]:List Int)++((m.2.getD i.toNat (0,([],([],(0,[]))))).2.2.2.2.getD k_1.toNat []))])))) (
  up (ZxV m i out_1 y_42))
def ZxU (m:(List Int)×(List D5_)) (i:Int) (out_1:List D5_):Unit→Option ((Int×(List D5_))⊕((List Int)×(List D5_))):=fun _=>
 loop (ZhO m i out_1) ((0:Int),([]:List (List Int)))
def ZxT (m:(List Int)×(List D5_)) (i:Int) (out_1:List D5_):Unit→Option ((Int×(List D5_))⊕((List Int)×(List D5_))):=fun _=>
 rq (([]:List Int).length+(m.2.getD i.toNat (0,([],([],(0,[]))))).2.1.length≤Zl) <|
 rq (([]:List Int).length+(m.2.getD i.toNat (0,([],([],(0,[]))))).2.2.1.length≤Zl) <|
 ZxU m i out_1 ()
def ZrU (m:(List Int)×(List D5_)):Int×(List D5_)→Option ((Int×(List D5_))⊕((List Int)×(List D5_))):=fun (i,out_1)=>
 cond (decide (i<(m.2.length:Int))) (
  rq (0≤i∧i<m.2.length) <|
  ZxT m i out_1 ()) (
  some (.inr ((([]:List Int)++m.1),out_1)))
def ZxS (m:(List Int)×(List D5_)):Unit→Option ((List Int)×(List D5_)):=fun _=>
 rq (([]:List Int).length+m.1.length≤Zl) <|
 loop (ZrU m) ((0:Int),([]:List D5_))
def Zr8 (m:(List Int)×(List D5_)):Option ((List Int)×(List D5_)):=
 ZxS m ()
def ZlM (r1_:(List Int)×(List D5_)) (r2_:Int×D1_):(List Int)→Option ((List Int)⊕(D1_×(List Int)×(List D5_))):=fun i_0=>
 cond (decide ((i_0.length:Int)≤(5:Int))) (
  rq (i_0.length+[(0:Int)].length≤Zl) <|
  some (.inl (i_0++[(0:Int)]))) (
  some (.inr (r2_.2,i_0,r1_.2)))
def Zpx (a1:(List Int)×(List D5_)) (o0:(List Int)×Int):Option (D1_×(List Int)×(List D5_)):=
 (Zr8 a1).bind fun r1_=>
 (ZbT (50:Int) o0).bind fun r2_=>
 cond (r2_.1==(0:Int)) (
  cond (decide ((0:Int)<(r1_.1.length:Int))) (
   (Zbk [(-1:Int),(4:Int),(3:Int),(9223372036854775807:Int)] r2_.2).bind fun r4_=>
   rq (0≤(0:Int)∧(0:Int)<r1_.1.length) <|
   some (r4_.2,(r1_.1.set (0:Int).toNat r4_.1),r1_.2)) (
   some (r2_.2,r1_.1,r1_.2))) (
  cond (r2_.1==(1:Int)) (
   loop (ZlM r1_ r2_) r1_.1) (
   cond (r2_.1==(2:Int)) (
    cond (decide ((0:Int)<(r1_.2.length:Int))) (
     (Zbk [(0:Int),(5:Int),(1:Int),(2:Int),(3:Int)] r2_.2).bind fun r6_=>
     rq (0≤(0:Int)∧(0:Int)<r1_.2.length) <|
     some (r6_.2,r1_.1,(r1_.2.set (0:Int).toNat (r6_.1,(r1_.2.getD (0:Int).toNat (0,([],([],(0,[]))))).2)))) (
     some (r2_.2,r1_.1,r1_.2))) (
    cond (r2_.1==(3:Int)) (
     cond (decide ((0:Int)<(r1_.2.length:Int))) (
      rq (i64 ((r1_.2.length:Int) - (1:Int))) <|
      rq (0≤((r1_.2.length:Int) - (1:Int))∧((r1_.2.length:Int) - (1:Int))<r1_.2.length) <|
      cond (decide ((0:Int)<((r1_.2.getD ((r1_.2.length:Int) - (1:Int)).toNat (0,([],([],(0,[]))))).2.1.length:Int))) (
       rq (i64 ((r1_.2.length:Int) - (1:Int))) <|
       rq (0≤((r1_.2.length:Int) - (1:Int))∧((r1_.2.length:Int) - (1:Int))<r1_.2.length) <|
       (Zbk [(-1:Int),(5:Int),(1:Int),(0:Int)] r2_.2).bind fun r8_=>
       rq (0≤(0:Int)∧(0:Int)<((r1_.2.set ((r1_.2.length:Int) - (1:Int)).toNat (r1_.2.getD ((r1_.2.length:Int) - (1:Int)).toNat (0,([],([],(0,[])))))).getD ((r1_.2.length:Int) - (1:Int)).toNat (0,([],([],(0,[]))))).2.1.length) <|
       some (r8_.2,r1_.1,((r1_.2.set ((r1_.2.length:Int) - (1:Int)).toNat (r1_.2.getD ((r1_.2.length:Int) - (1:Int)).toNat (0,([],([],(0,[])))))).set ((r1_.2.length:Int) - (1:Int)).toNat (((r1_.2.set ((r1_.2.length:Int) - (1:Int)).toNat (r1_.2.getD ((r1_.2.length:Int) - (1:Int)).toNat (0,([],([],(0,[])))))).getD ((r1_.2.length:Int) - (1:Int)).toNat (0,([],([],(0,[]))))).1,((((r1_.2.set ((r1_.2.length:Int) - (1:Int)).toNat (r1_.2.getD ((r1_.2.length:Int) - (1:Int)).toNat (0,([],([],(0,[])))))).getD ((r1_.2.length:Int) - (1:Int)).toNat (0,([],([],(0,[]))))).2.1.set (0:Int).toNat r8_.1),((r1_.2.set ((r1_.2.length:Int) - (1:Int)).toNat (r1_.2.getD ((r1_.2.length:Int) - (1:Int)).toNat (0,([],([],(0,[])))))).getD ((r1_.2.length:Int) - (1:Int)).toNat (0,([],([],(0,[]))))).2.2))))) (
       some (r2_.2,r1_.1,(r1_.2.set ((r1_.2.length:Int) - (1:Int)).toNat (r1_.2.getD ((r1_.2.length:Int) - (1:Int)).toNat (0,([],([],(0,[]))))))))) (
      some (r2_.2,r1_.1,r1_.2))) (
     cond (r2_.1==(4:Int)) (
      cond (decide ((0:Int)<(r1_.2.length:Int))) (
       (Zbk [(1001:Int),(-1001:Int),(1000:Int)] r2_.2).bind fun r10_=>
       rq (0≤(0:Int)∧(0:Int)<r1_.2.length) <|
       some (r10_.2,r1_.1,(r1_.2.set (0:Int).toNat ((r1_.2.getD (0:Int).toNat (0,([],([],(0,[]))))).1,((r1_.2.getD (0:Int).toNat (0,([],([],(0,[]))))).2.1,((r1_.2.getD (0:Int).toNat (0,([],([],(0,[]))))).2.2.1,(r10_.1,(r1_.2.getD (0:Int).toNat (0,([],([],(0,[]))))).2.2.2.2))))))) (
       some (r2_.2,r1_.1,r1_.2))) (
      cond (r2_.1==(5:Int)) (
       some (r2_.2,([]:List Int),([]:List D5_))) (
       some (r2_.2,r1_.1,r1_.2)))))))
def ZkU (list_:List Int) (i:Int):Int→Option (Int⊕(Int⊕Bool)):=fun k_=>
 cond (decide (k_<i)) (
  rq (0≤k_∧k_<list_.length) <|
  rq (0≤i∧i<list_.length) <|
  cond ((list_.getD k_.toNat 0)==(list_.getD i.toNat 0)) (
   some (.inr (.inr false))) (
   rq (i64 (k_+(1:Int))) <|
   some (.inl (k_+(1:Int))))) (
  rq (i64 (i+(1:Int))) <|
  some (.inr (.inl (i+(1:Int)))))
def Zop (m:(List Int)×(List D5_)) (list_:List Int):Int→Option (Int⊕Bool):=fun i=>
 cond (decide (i<(list_.length:Int))) (
  rq (0≤i∧i<list_.length) <|
  cond (decide ((list_.getD i.toNat 0)<(0:Int))) (
   some (.inr false)) (
   rq (0≤i∧i<list_.length) <|
   cond (decide ((m.1.length:Int)≤(list_.getD i.toNat 0))) (
    some (.inr false)) (
    loop (ZkU list_ i) (0:Int)))) (
  some (.inr (decide ((1:Int)≤(list_.length:Int)))))
def Zsb (m:(List Int)×(List D5_)) (list_:List Int):Option Bool:=
 loop (Zop m list_) (0:Int)
def ZlL (r_:Int×(List Int)×(List Int)×Int×(List (List Int))):Int→Option (Int⊕Bool):=fun i=>
 cond (decide (i<(r_.2.2.1.length:Int))) (
  rq (0≤i∧i<r_.2.2.1.length) <|
  cond (decide ((r_.2.2.1.getD i.toNat 0)<(-9:Int))) (
   some (.inr false)) (
   rq (0≤i∧i<r_.2.2.1.length) <|
   cond (decide ((9:Int)<(r_.2.2.1.getD i.toNat 0))) (
    some (.inr false)) (
    rq (0≤i∧i<r_.2.2.1.length) <|
    cond ((r_.2.2.1.getD i.toNat 0)==(0:Int)) (
     some (.inr false)) (
     rq (i64 (i+(1:Int))) <|
     some (.inl (i+(1:Int))))))) (
  cond ((r_.2.2.1.length:Int)==(r_.2.1.length:Int)) (
   cond (decide ((-1000:Int)≤r_.2.2.2.1)) (
    some (.inr (decide (r_.2.2.2.1≤(1000:Int))))) (
    some (.inr false))) (
   some (.inr false)))
def Zpw (r_:Int×(List Int)×(List Int)×Int×(List (List Int))):Option Bool:=
 loop (ZlL r_) (0:Int)
def ZjE (r_:Int×(List Int)×(List Int)×Int×(List (List Int))) (i:Int):Int→Option (Int⊕(Int⊕Bool)):=fun k_=>
 rq (0≤i∧i<r_.2.2.2.2.length) <|
 cond (decide (k_<((r_.2.2.2.2.getD i.toNat []).length:Int))) (
  rq (0≤i∧i<r_.2.2.2.2.length) <|
  rq (0≤k_∧k_<(r_.2.2.2.2.getD i.toNat []).length) <|
  cond (decide (((r_.2.2.2.2.getD i.toNat []).getD k_.toNat 0)<(0:Int))) (
   some (.inr (.inr false))) (
   rq (0≤i∧i<r_.2.2.2.2.length) <|
   rq (0≤k_∧k_<(r_.2.2.2.2.getD i.toNat []).length) <|
   cond (decide ((3:Int)<((r_.2.2.2.2.getD i.toNat []).getD k_.toNat 0))) (
    some (.inr (.inr false))) (
    rq (i64 (k_+(1:Int))) <|
    some (.inl (k_+(1:Int)))))) (
  rq (i64 (i+(1:Int))) <|
  some (.inr (.inl (i+(1:Int)))))
def Znf (r_:Int×(List Int)×(List Int)×Int×(List (List Int))):Int→Option (Int⊕Bool):=fun i=>
 cond (decide (i<(r_.2.2.2.2.length:Int))) (
  rq (0≤i∧i<r_.2.2.2.2.length) <|
  cond (((r_.2.2.2.2.getD i.toNat []).length:Int) != (r_.2.1.length:Int)) (
   some (.inr false)) (
   loop (ZjE r_ i) (0:Int))) (
  some (.inr (decide ((r_.2.2.2.2.length:Int)≤(8:Int)))))
def Zri (r_:Int×(List Int)×(List Int)×Int×(List (List Int))):Option Bool:=
 loop (Znf r_) (0:Int)
def Zf1 (r_:Int×(List Int)×(List Int)×Int×(List (List Int))):Unit→Option Bool:=fun _=>
 cond (r_.1==(1:Int)) (
  (Zpw r_).bind fun r2_=>
  some r2_) (
  cond (r_.1==(2:Int)) (
   some true) (
   cond (r_.1==(3:Int)) (
    (Zri r_).bind fun r3_=>
    some r3_) (
    cond (r_.1==(4:Int)) (
     some ((r_.2.1.length:Int)==(2:Int))) (
     some false))))
def Zsa (m:(List Int)×(List D5_)) (r_:Int×(List Int)×(List Int)×Int×(List (List Int))):Option Bool:=
 (Zsb m r_.2.1).bind fun r1_=>
 cond (!r1_) (
  some false) (
  cond (r_.1 != (1:Int)) (
   cond ((r_.2.2.1.length:Int) != (0:Int)) (
    some false) (
    cond (r_.2.2.2.1 != (0:Int)) (
     some false) (
     cond (r_.1 != (3:Int)) (
      cond ((r_.2.2.2.2.length:Int) != (0:Int)) (
       some false) (
       Zf1 r_ ())) (
      Zf1 r_ ())))) (
   cond (r_.1 != (3:Int)) (
    cond ((r_.2.2.2.2.length:Int) != (0:Int)) (
     some false) (
     Zf1 r_ ())) (
    Zf1 r_ ())))
def ZjA (a0:(List Int)×(List D5_)):Int→Option (Int⊕Bool):=fun i3=>
 cond (decide (i3<(a0.2.length:Int))) (
  rq (0≤i3∧i3<a0.2.length) <|
  (Zsa a0 (a0.2.getD i3.toNat (0,([],([],(0,[])))))).bind fun r2_=>
  cond (!r2_) (
   some (.inr false)) (
   rq (i64 (i3+(1:Int))) <|
   some (.inl (i3+(1:Int))))) (
  some (.inr true))
def Zgv (a0:(List Int)×(List D5_)):Int→Option Bool:=fun i2=>
 cond (decide ((a0.1.length:Int)<(1:Int))) (
  some false) (
  cond (decide ((5:Int)<(a0.1.length:Int))) (
   some false) (
   cond (decide ((12:Int)<i2)) (
    some false) (
    cond (decide ((8:Int)<(a0.2.length:Int))) (
     some false) (
     loop (ZjA a0) (0:Int)))))
def ZnU (a0:(List Int)×(List D5_)):Int×Int→Option ((Int×Int)⊕Bool):=fun (i,i1)=>
 cond (decide (i1<(a0.1.length:Int))) (
  cond (decide (i1<(5:Int))) (
   rq (0≤i1∧i1<a0.1.length) <|
   cond (decide ((a0.1.getD i1.toNat 0)<(0:Int))) (
    some (.inr false)) (
    rq (0≤i1∧i1<a0.1.length) <|
    cond (decide ((3:Int)<(a0.1.getD i1.toNat 0))) (
     some (.inr false)) (
     rq (0≤i1∧i1<a0.1.length) <|
     rq (i64 (i+(a0.1.getD i1.toNat 0))) <|
     rq (i64 ((i+(a0.1.getD i1.toNat 0))+(1:Int))) <|
     rq (i64 (i1+(1:Int))) <|
     some (.inl (((i+(a0.1.getD i1.toNat 0))+(1:Int)),(i1+(1:Int))))))) (
   up (Zgv a0 i))) (
  up (Zgv a0 i))
def Zfj (a0:(List Int)×(List D5_)):Option Bool:=
 loop (ZnU a0) ((0:Int),(0:Int))
def ZtC (m:(List Int)×(List D5_)) (cell:Int):Int×Int→Option ((Int×Int)⊕Int):=fun (n,i)=>
 cond (decide (i<cell)) (
  rq (0≤i∧i<m.1.length) <|
  rq (i64 (n+(m.1.getD i.toNat 0))) <|
  rq (i64 ((n+(m.1.getD i.toNat 0))+(1:Int))) <|
  rq (i64 (i+(1:Int))) <|
  some (.inl (((n+(m.1.getD i.toNat 0))+(1:Int)),(i+(1:Int))))) (
  some (.inr n))
def Zhy (m:(List Int)×(List D5_)) (cell:Int) (value:Int):Option Int:=
 rq (i64 ((1:Int)+value)) <|
 loop (ZtC m cell) (((1:Int)+value),(0:Int))
def Zol (n:Int):Option Bool:=
 cond (n != (0:Int)) (
  cond (decide ((-12:Int)≤n)) (
   some (decide (n≤(12:Int)))) (
   some false)) (
  some false)
def ZlF (n:Int):Option Int:=
 cond (decide (n<(0:Int))) (
  rq (i64 (0 - n)) <|
  some (0 - n)) (
  some n)
def Zh6 (i2:List Int):Int×(List D6_)→Option ((Int×(List D6_))⊕(Bool×Int×(List D6_))):=fun (i3,i_0)=>
 cond (decide (i3≤(12:Int))) (
  rq (0≤i3∧i3<i2.length) <|
  cond ((i2.getD i3.toNat 0) != (0:Int)) (
   rq (0≤i3∧i3<i2.length) <|
   rq (i_0.length+[((1:Int),(i2.getD i3.toNat 0))].length≤Zl) <|
   rq (i64 (i3+(1:Int))) <|
   some (.inl ((i3+(1:Int)),(i_0++[((1:Int),(i2.getD i3.toNat 0))])))) (
   rq (i64 (i3+(1:Int))) <|
   some (.inl ((i3+(1:Int)),i_0)))) (
  some (.inr (true,(1:Int),i_0)))
def Zp0:(List Int)→Option (Bool×Int×(List D6_)):=fun i2=>
 loop (Zh6 i2) ((1:Int),([]:List D6_))
def ZlC (a0:List Int):Int×(List Int)→Option ((Int×(List Int))⊕(Bool×Int×(List D6_))):=fun (i,i1)=>
 cond (decide (i<(a0.length:Int))) (
  rq (0≤i∧i<a0.length) <|
  (Zol (a0.getD i.toNat 0)).bind fun r3_=>
  cond (!r3_) (
   some (.inr (false,(0:Int),([]:List D6_)))) (
   rq (0≤i∧i<a0.length) <|
   (ZlF (a0.getD i.toNat 0)).bind fun r4_=>
   rq (0≤r4_∧r4_<i1.length) <|
   rq (0≤i∧i<a0.length) <|
   rq (i64 (0 - (a0.getD i.toNat 0))) <|
   cond ((i1.getD r4_.toNat 0)==(0 - (a0.getD i.toNat 0))) (
    some (.inr (false,(0:Int),([]:List D6_)))) (
    rq (0≤i∧i<a0.length) <|
    rq (0≤r4_∧r4_<i1.length) <|
    rq (i64 (i+(1:Int))) <|
    some (.inl ((i+(1:Int)),(i1.set r4_.toNat (a0.getD i.toNat 0))))))) (
  up (Zp0 i1))
def Zi7 (a0:List Int):Option (Bool×Int×(List D6_)):=
 rq (0≤(13:Int)∧(13:Int)≤Zl∧(13:Int)=(13:Int)) <|
 cond (decide ((40:Int)<(a0.length:Int))) (
  some (false,(0:Int),([]:List D6_))) (
  loop (ZlC a0) ((0:Int),(List.replicate (13:Int).toNat 0)))
def ZkX (vars:List Int):Int×(List D6_)→Option ((Int×(List D6_))⊕(Int×(List D6_))):=fun (i,c_0)=>
 cond (decide (i<(vars.length:Int))) (
  rq (0≤i∧i<vars.length) <|
  rq (i64 (0 - (vars.getD i.toNat 0))) <|
  rq (c_0.length+[((1:Int),(0 - (vars.getD i.toNat 0)))].length≤Zl) <|
  rq (i64 (i+(1:Int))) <|
  some (.inl ((i+(1:Int)),(c_0++[((1:Int),(0 - (vars.getD i.toNat 0)))])))) (
  some (.inr (((vars.length:Int) - (1:Int)),c_0)))
def Zph (vars:List Int):Option (Int×(List D6_)):=
 rq (i64 ((vars.length:Int) - (1:Int))) <|
 loop (ZkX vars) ((0:Int),([]:List D6_))
def ZkV:(List Int)→Option (List D7_):=fun vars1=>
 (Zi7 vars1).bind fun r3_=>
 (Zph vars1).bind fun r5_=>
 some [(r3_.2.2,r3_.2.1),(r5_.2,r5_.1)]
def ZkW (m:(List Int)×(List D5_)) (cell:Int):Int×(List Int)→Option ((Int×(List Int))⊕(List D7_)):=fun (k_,vars)=>
 rq (0≤cell∧cell<m.1.length) <|
 cond (decide (k_≤(m.1.getD cell.toNat 0))) (
  (Zhy m cell k_).bind fun r2_=>
  rq (vars.length+[r2_].length≤Zl) <|
  rq (i64 (k_+(1:Int))) <|
  some (.inl ((k_+(1:Int)),(vars++[r2_])))) (
  up (ZkV vars))
def Zsc (m:(List Int)×(List D5_)) (cell:Int):Option (List D7_):=
 loop (ZkW m cell) ((0:Int),([]:List Int))
def ZfD (c_:(List D6_)×Int):Int→Option (Int⊕Bool):=fun i=>
 cond (decide (i<(c_.1.length:Int))) (
  rq (0≤i∧i<c_.1.length) <|
  (Zol (c_.1.getD i.toNat (0,0)).2).bind fun r4_=>
  cond (!r4_) (
   some (.inr false)) (
   cond (decide ((c_.1.getD i.toNat (0,0)).1<(1:Int))) (
    some (.inr false)) (
    cond (decide ((1000:Int)<(c_.1.getD i.toNat (0,0)).1)) (
     some (.inr false)) (
     cond (decide ((0:Int)<i)) (
      rq (i64 (i - (1:Int))) <|
      rq (0≤(i - (1:Int))∧(i - (1:Int))<c_.1.length) <|
      (ZlF (c_.1.getD (i - (1:Int)).toNat (0,0)).2).bind fun r5_=>
      (ZlF (c_.1.getD i.toNat (0,0)).2).bind fun r6_=>
      cond (decide (r6_≤r5_)) (
       some (.inr false)) (
       rq (i64 (i+(1:Int))) <|
       some (.inl (i+(1:Int))))) (
      rq (i64 (i+(1:Int))) <|
      some (.inl (i+(1:Int)))))))) (
  cond (decide ((0:Int)≤c_.2)) (
   some (.inr (decide (c_.2≤(20000:Int))))) (
   some (.inr false)))
def ZV (c_:(List D6_)×Int):Option Bool:=
 loop (ZfD c_) (0:Int)
def ZeL (c_03:List D6_):Int→Option (Bool×Int×(List D6_)):=fun bound_3=>
 (ZV (c_03,bound_3)).bind fun r1_=>
 cond (!r1_) (
  some (false,(0:Int),([]:List D6_))) (
  some (true,bound_3,c_03))
def ZlG:Int×(List D6_)→Option (Bool×Int×(List D6_)):=fun (bound_2,c_03)=>
 cond (decide (bound_2<(0:Int))) (
  ZeL c_03 (0:Int)) (
  ZeL c_03 bound_2)
def ZlH (net:List Int) (bound_1:Int) (v:Int) (c_02:List D6_):Unit→Option ((Int×Int×(List D6_))⊕(Bool×Int×(List D6_))):=fun _=>
 rq (0≤v∧v<net.length) <|
 rq (i64 (bound_1 - (net.getD v.toNat 0))) <|
 rq (i64 (v+(1:Int))) <|
 some (.inl ((bound_1 - (net.getD v.toNat 0)),(v+(1:Int)),(c_02++[((0 - (net.getD v.toNat 0)),(0 - v))])))
def Zie (net:List Int) (bound_1:Int) (v:Int):(List D6_)→Option ((Int×Int×(List D6_))⊕(Bool×Int×(List D6_))):=fun c_02=>
 rq (0≤v∧v<net.length) <|
 cond (decide ((net.getD v.toNat 0)<(0:Int))) (
  rq (0≤v∧v<net.length) <|
  rq (i64 (0 - (net.getD v.toNat 0))) <|
  rq (i64 (0 - v)) <|
  rq (c_02.length+[((0 - (net.getD v.toNat 0)),(0 - v))].length≤Zl) <|
  ZlH net bound_1 v c_02 ()) (
  rq (i64 (v+(1:Int))) <|
  some (.inl (bound_1,(v+(1:Int)),c_02)))
def Zf0 (net:List Int):Int×Int×(List D6_)→Option ((Int×Int×(List D6_))⊕(Bool×Int×(List D6_))):=fun (bound_1,v,c_01)=>
 cond (decide (v≤(12:Int))) (
  rq (0≤v∧v<net.length) <|
  cond (decide ((0:Int)<(net.getD v.toNat 0))) (
   rq (0≤v∧v<net.length) <|
   rq (c_01.length+[((net.getD v.toNat 0),v)].length≤Zl) <|
   Zie net bound_1 v (c_01++[((net.getD v.toNat 0),v)])) (
   Zie net bound_1 v c_01)) (
  up (ZlG (bound_1,c_01)))
def Zfs (net:List Int) (bound_:Int):Option (Bool×Int×(List D6_)):=
 loop (Zf0 net) (bound_,(1:Int),([]:List D6_))
def ZlR (r_:Int×(List Int)×(List Int)×Int×(List (List Int))):(List Int)→Option (List D7_):=fun net3=>
 (Zfs net3 r_.2.2.2.1).bind fun r6_=>
 some [(r6_.2.2,r6_.2.1)]
def ZlS (m:(List Int)×(List D5_)) (r_:Int×(List Int)×(List Int)×Int×(List (List Int))) (i:Int):Int×(List Int)→Option ((Int×(List Int))⊕((Int×(List Int))⊕(List D7_))):=fun (k_1,net2)=>
 rq (0≤i∧i<r_.2.1.length) <|
 rq (0≤(r_.2.1.getD i.toNat 0)∧(r_.2.1.getD i.toNat 0)<m.1.length) <|
 cond (decide (k_1≤(m.1.getD (r_.2.1.getD i.toNat 0).toNat 0))) (
  rq (0≤i∧i<r_.2.1.length) <|
  (Zhy m (r_.2.1.getD i.toNat 0) k_1).bind fun r5_=>
  rq (0≤i∧i<r_.2.2.1.length) <|
  rq (i64 ((r_.2.2.1.getD i.toNat 0)*k_1)) <|
  rq (0≤r5_∧r5_<net2.length) <|
  rq (i64 (k_1+(1:Int))) <|
  some (.inl ((k_1+(1:Int)),(net2.set r5_.toNat ((r_.2.2.1.getD i.toNat 0)*k_1))))) (
  rq (i64 (i+(1:Int))) <|
  some (.inr (.inl ((i+(1:Int)),net2))))
def Zp3 (m:(List Int)×(List D5_)) (r_:Int×(List Int)×(List Int)×Int×(List (List Int))):Int×(List Int)→Option ((Int×(List Int))⊕(List D7_)):=fun (i,net1)=>
 cond (decide (i<(r_.2.1.length:Int))) (
  loop (ZlS m r_ i) ((0:Int),net1)) (
  up (ZlR r_ net1))
def ZpA (m:(List Int)×(List D5_)) (r_:Int×(List Int)×(List Int)×Int×(List (List Int))):Option (List D7_):=
 rq (0≤(13:Int)∧(13:Int)≤Zl∧(13:Int)=(13:Int)) <|
 loop (Zp3 m r_) ((0:Int),(List.replicate (13:Int).toNat 0))
def ZlU (i:Int):Int×(List Int)→Option ((Int×(List Int))⊕((Int×(List Int))⊕(List Int))):=fun (k_1,out2)=>
 cond (decide ((0:Int)<k_1)) (
  rq (0≤k_1∧k_1<out2.length) <|
  rq (i64 (k_1 - (1:Int))) <|
  rq (0≤(k_1 - (1:Int))∧(k_1 - (1:Int))<out2.length) <|
  cond (decide ((out2.getD k_1.toNat 0)<(out2.getD (k_1 - (1:Int)).toNat 0))) (
   rq (0≤k_1∧k_1<out2.length) <|
   rq (i64 (k_1 - (1:Int))) <|
   rq (0≤(k_1 - (1:Int))∧(k_1 - (1:Int))<out2.length) <|
   rq (0≤k_1∧k_1<out2.length) <|
   rq (i64 (k_1 - (1:Int))) <|
   rq (0≤(k_1 - (1:Int))∧(k_1 - (1:Int))<(out2.set k_1.toNat (out2.getD (k_1 - (1:Int)).toNat 0)).length) <|
   rq (i64 (k_1 - (1:Int))) <|
   some (.inl ((k_1 - (1:Int)),((out2.set k_1.toNat (out2.getD (k_1 - (1:Int)).toNat 0)).set (k_1 - (1:Int)).toNat (out2.getD k_1.toNat 0))))) (
   rq (i64 (i+(1:Int))) <|
   some (.inr (.inl ((i+(1:Int)),out2))))) (
  rq (i64 (i+(1:Int))) <|
  some (.inr (.inl ((i+(1:Int)),out2))))
def ZlT:Int×(List Int)→Option ((Int×(List Int))⊕(List Int)):=fun (i,out1)=>
 cond (decide (i<(out1.length:Int))) (
  loop (ZlU i) (i,out1)) (
  some (.inr out1))
def ZpB (list_:List Int):Option (List Int):=
 rq (([]:List Int).length+list_.length≤Zl) <|
 loop (ZlT) ((0:Int),(([]:List Int)++list_))
def ZfN (k_:Int) (out:List D7_):(List Int)→Option ((Int×(List D7_))⊕(List D7_)):=fun vars3=>
 cond (decide ((1:Int)<(vars3.length:Int))) (
  (ZpB vars3).bind fun r8_=>
  (Zph r8_).bind fun r9_=>
  rq (out.length+[(r9_.2,r9_.1)].length≤Zl) <|
  rq (i64 (k_+(1:Int))) <|
  some (.inl ((k_+(1:Int)),(out++[(r9_.2,r9_.1)])))) (
  rq (i64 (k_+(1:Int))) <|
  some (.inl ((k_+(1:Int)),out)))
def ZfO (m:(List Int)×(List D5_)) (r_:Int×(List Int)×(List Int)×Int×(List (List Int))) (k_:Int) (out:List D7_):Int×(List Int)→Option ((Int×(List Int))⊕((Int×(List D7_))⊕(List D7_))):=fun (i1,vars2)=>
 cond (decide (i1<(r_.2.1.length:Int))) (
  rq (0≤i1∧i1<r_.2.1.length) <|
  rq (0≤(r_.2.1.getD i1.toNat 0)∧(r_.2.1.getD i1.toNat 0)<m.1.length) <|
  cond (decide (k_≤(m.1.getD (r_.2.1.getD i1.toNat 0).toNat 0))) (
   rq (0≤i1∧i1<r_.2.1.length) <|
   (Zhy m (r_.2.1.getD i1.toNat 0) k_).bind fun r7_=>
   rq (vars2.length+[r7_].length≤Zl) <|
   rq (i64 (i1+(1:Int))) <|
   some (.inl ((i1+(1:Int)),(vars2++[r7_])))) (
   rq (i64 (i1+(1:Int))) <|
   some (.inl ((i1+(1:Int)),vars2)))) (
  up (ZfN k_ out vars2))
def ZmN (m:(List Int)×(List D5_)) (r_:Int×(List Int)×(List Int)×Int×(List (List Int))):Int×(List D7_)→Option ((Int×(List D7_))⊕(List D7_)):=fun (k_,out)=>
 cond (decide (k_≤(3:Int))) (
  loop (ZfO m r_ k_ out) ((0:Int),([]:List Int))) (
  some (.inr out))
def ZlO (m:(List Int)×(List D5_)) (r_:Int×(List Int)×(List Int)×Int×(List (List Int))):Option (List D7_):=
 loop (ZmN m r_) ((0:Int),([]:List D7_))
def Zon (a:List Int) (b:List Int):Int→Option (Int⊕Bool):=fun i=>
 cond (decide (i<(a.length:Int))) (
  rq (0≤i∧i<a.length) <|
  rq (0≤i∧i<b.length) <|
  cond ((a.getD i.toNat 0) != (b.getD i.toNat 0)) (
   some (.inr false)) (
   rq (i64 (i+(1:Int))) <|
   some (.inl (i+(1:Int))))) (
  some (.inr true))
def Zr9 (a:List Int) (b:List Int):Option Bool:=
 cond ((a.length:Int) != (b.length:Int)) (
  some false) (
  loop (Zon a b) (0:Int))
def Zrg (a0:Int×(List Int)×(List Int)×Int×(List (List Int))) (i2:List Int):Int×Int→Option ((Int×Int)⊕Bool):=fun (i3,i4)=>
 cond (decide (i4<(i2.length:Int))) (
  rq (0≤i4∧i4<a0.2.2.1.length) <|
  rq (0≤i4∧i4<i2.length) <|
  rq (i64 ((a0.2.2.1.getD i4.toNat 0)*(i2.getD i4.toNat 0))) <|
  rq (i64 (i3+((a0.2.2.1.getD i4.toNat 0)*(i2.getD i4.toNat 0)))) <|
  rq (i64 (i4+(1:Int))) <|
  some (.inl ((i3+((a0.2.2.1.getD i4.toNat 0)*(i2.getD i4.toNat 0))),(i4+(1:Int))))) (
  some (.inr (decide (a0.2.2.2.1≤i3))))
def ZjD (i2:List Int) (i5:Int):Int→Option (Int⊕(Int⊕Bool)):=fun i6=>
 cond (decide (i6<i5)) (
  rq (0≤i6∧i6<i2.length) <|
  rq (0≤i5∧i5<i2.length) <|
  cond ((i2.getD i6.toNat 0)==(i2.getD i5.toNat 0)) (
   some (.inr (.inr false))) (
   rq (i64 (i6+(1:Int))) <|
   some (.inl (i6+(1:Int))))) (
  rq (i64 (i5+(1:Int))) <|
  some (.inr (.inl (i5+(1:Int)))))
def ZjC (i2:List Int):Int→Option (Int⊕Bool):=fun i5=>
 cond (decide (i5<(i2.length:Int))) (
  loop (ZjD i2 i5) (0:Int)) (
  some (.inr true))
def Zm8 (a0:Int×(List Int)×(List Int)×Int×(List (List Int))) (i2:List Int):Int→Option (Int⊕Bool):=fun i7=>
 cond (decide (i7<(a0.2.2.2.2.length:Int))) (
  rq (0≤i7∧i7<a0.2.2.2.2.length) <|
  (Zr9 (a0.2.2.2.2.getD i7.toNat []) i2).bind fun r1_=>
  cond r1_ (
   some (.inr true)) (
   rq (i64 (i7+(1:Int))) <|
   some (.inl (i7+(1:Int))))) (
  some (.inr false))
def Zm7 (a0:Int×(List Int)×(List Int)×Int×(List (List Int))):(List Int)→Option Bool:=fun i2=>
 cond (a0.1==(1:Int)) (
  loop (Zrg a0 i2) ((0:Int),(0:Int))) (
  cond (a0.1==(2:Int)) (
   loop (ZjC i2) (0:Int)) (
   cond (a0.1==(4:Int)) (
    rq (0≤(0:Int)∧(0:Int)<i2.length) <|
    rq (0≤(1:Int)∧(1:Int)<i2.length) <|
    some (decide ((i2.getD (0:Int).toNat 0)<(i2.getD (1:Int).toNat 0)))) (
    loop (Zm8 a0 i2) (0:Int))))
def Zm9 (a0:Int×(List Int)×(List Int)×Int×(List (List Int))) (a1:List Int):Int×(List Int)→Option ((Int×(List Int))⊕Bool):=fun (i,i1)=>
 cond (decide (i<(a0.2.1.length:Int))) (
  rq (0≤i∧i<a0.2.1.length) <|
  rq (0≤(a0.2.1.getD i.toNat 0)∧(a0.2.1.getD i.toNat 0)<a1.length) <|
  rq (i1.length+[(a1.getD (a0.2.1.getD i.toNat 0).toNat 0)].length≤Zl) <|
  rq (i64 (i+(1:Int))) <|
  some (.inl ((i+(1:Int)),(i1++[(a1.getD (a0.2.1.getD i.toNat 0).toNat 0)])))) (
  up (Zm7 a0 i1))
def ZnZ (a0:Int×(List Int)×(List Int)×Int×(List (List Int))) (a1:List Int):Option Bool:=
 loop (Zm9 a0 a1) ((0:Int),([]:List Int))
def Zoo (m:(List Int)×(List D5_)):Int×(List Int)→Option ((Int×(List Int))⊕(Bool×(List Int))):=fun (i,out)=>
 cond (decide ((0:Int)≤i)) (
  rq (0≤i∧i<out.length) <|
  rq (0≤i∧i<m.1.length) <|
  cond (decide ((out.getD i.toNat 0)<(m.1.getD i.toNat 0))) (
   rq (0≤i∧i<out.length) <|
   rq (i64 ((out.getD i.toNat 0)+(1:Int))) <|
   rq (0≤i∧i<out.length) <|
   some (.inr (true,(out.set i.toNat ((out.getD i.toNat 0)+(1:Int)))))) (
   rq (0≤i∧i<out.length) <|
   rq (i64 (i - (1:Int))) <|
   some (.inl ((i - (1:Int)),(out.set i.toNat (0:Int)))))) (
  some (.inr (false,out)))
def Zpg (m:(List Int)×(List D5_)) (cells:List Int):Option (Bool×(List Int)):=
 rq (([]:List Int).length+cells.length≤Zl) <|
 rq (i64 (((([]:List Int)++cells).length:Int) - (1:Int))) <|
 loop (Zoo m) ((((([]:List Int)++cells).length:Int) - (1:Int)),(([]:List Int)++cells))
def Zij (i_01:List Int) (i9:List Int):(List D7_)→Option ((Bool×(List D7_)×(List Int))⊕(List D7_)):=fun i15=>
 (Zpg (i_01,([]:List D5_)) i9).bind fun r11_=>
 some (.inl (r11_.1,i15,r11_.2))
def Zii (a1:Int×(List Int)×(List Int)×Int×(List (List Int))) (i_01:List Int) (i8:List D7_) (i9:List Int):(List Int)×(List Int)→Option ((Bool×(List D7_)×(List Int))⊕(List D7_)):=fun (i13,i14)=>
 (ZnZ a1 i13).bind fun r9_=>
 cond (!r9_) (
  (Zi7 i14).bind fun r10_=>
  rq (i8.length+[(r10_.2.2,r10_.2.1)].length≤Zl) <|
  Zij i_01 i9 (i8++[(r10_.2.2,r10_.2.1)])) (
  Zij i_01 i9 i8)
def Zp2 (a0:(List Int)×(List D5_)) (a1:Int×(List Int)×(List Int)×Int×(List (List Int))) (i9:List Int) (i10:Int) (i11:List Int) (i12:List Int):Unit→Option ((Int×(List Int)×(List Int))⊕((Bool×(List D7_)×(List Int))⊕(List D7_))):=fun _=>
 rq (0≤i10∧i10<i9.length) <|
 rq (0≤i10∧i10<a1.2.1.length) <|
 (Zhy a0 (a1.2.1.getD i10.toNat 0) (i9.getD i10.toNat 0)).bind fun r8_=>
 rq (i64 (0 - r8_)) <|
 rq (i12.length+[(0 - r8_)].length≤Zl) <|
 rq (i64 (i10+(1:Int))) <|
 some (.inl ((i10+(1:Int)),(i11.set (a1.2.1.getD i10.toNat 0).toNat (i9.getD i10.toNat 0)),(i12++[(0 - r8_)])))
def ZlQ (a0:(List Int)×(List D5_)) (a1:Int×(List Int)×(List Int)×Int×(List (List Int))) (i_01:List Int) (i8:List D7_) (i9:List Int):Int×(List Int)×(List Int)→Option ((Int×(List Int)×(List Int))⊕((Bool×(List D7_)×(List Int))⊕(List D7_))):=fun (i10,i11,i12)=>
 cond (decide (i10<(i9.length:Int))) (
  rq (0≤i10∧i10<i9.length) <|
  rq (0≤i10∧i10<a1.2.1.length) <|
  rq (0≤(a1.2.1.getD i10.toNat 0)∧(a1.2.1.getD i10.toNat 0)<i11.length) <|
  Zp2 a0 a1 i9 i10 i11 i12 ()) (
  up (Zii a1 i_01 i8 i9 (i11,i12)))
def ZlP (a0:(List Int)×(List D5_)) (a1:Int×(List Int)×(List Int)×Int×(List (List Int))) (i_01:List Int):Bool×(List D7_)×(List Int)→Option ((Bool×(List D7_)×(List Int))⊕(List D7_)):=fun (i1,i8,i9)=>
 cond i1 (
  rq (0≤(a0.1.length:Int)∧(a0.1.length:Int)≤Zl∧(a0.1.length:Int)=(a0.1.length:Int)) <|
  loop (ZlQ a0 a1 i_01 i8 i9) ((0:Int),(List.replicate (a0.1.length:Int).toNat 0),([]:List Int))) (
  some (.inr i8))
def Zih (a0:(List Int)×(List D5_)) (a1:Int×(List Int)×(List Int)×Int×(List (List Int))):(List Int)→Option (List D7_):=fun i_01=>
 rq (0≤(a1.2.1.length:Int)∧(a1.2.1.length:Int)≤Zl∧(a1.2.1.length:Int)=(a1.2.1.length:Int)) <|
 loop (ZlP a0 a1 i_01) (true,([]:List D7_),(List.replicate (a1.2.1.length:Int).toNat 0))
def Zik (a0:(List Int)×(List D5_)) (a1:Int×(List Int)×(List Int)×Int×(List (List Int))):Int×(List Int)→Option ((Int×(List Int))⊕(List D7_)):=fun (i,i_0)=>
 cond (decide (i<(a1.2.1.length:Int))) (
  rq (0≤i∧i<a1.2.1.length) <|
  rq (0≤(a1.2.1.getD i.toNat 0)∧(a1.2.1.getD i.toNat 0)<a0.1.length) <|
  rq (i_0.length+[(a0.1.getD (a1.2.1.getD i.toNat 0).toNat 0)].length≤Zl) <|
  rq (i64 (i+(1:Int))) <|
  some (.inl ((i+(1:Int)),(i_0++[(a0.1.getD (a1.2.1.getD i.toNat 0).toNat 0)])))) (
  up (Zih a0 a1 i_0))
def Zpz (a0:(List Int)×(List D5_)) (a1:Int×(List Int)×(List Int)×Int×(List (List Int))):Option (List D7_):=
 loop (Zik a0 a1) ((0:Int),([]:List Int))
def Zsd (m:(List Int)×(List D5_)) (r_:Int×(List Int)×(List Int)×Int×(List (List Int))):Option (List D7_):=
 cond (r_.1==(1:Int)) (
  (ZpA m r_).bind fun r1_=>
  some r1_) (
  cond (r_.1==(2:Int)) (
   (ZlO m r_).bind fun r2_=>
   some r2_) (
   (Zpz m r_).bind fun r3_=>
   some r3_))
def Ziy:(List D7_)→Option (Bool×(List D7_)):=fun out3=>
 cond (decide ((400:Int)<(out3.length:Int))) (
  some (false,([]:List D7_))) (
  some (true,out3))
def Ziz (m:(List Int)×(List D5_)):Int×(List D7_)→Option ((Int×(List D7_))⊕(Bool×(List D7_))):=fun (i1,out2)=>
 cond (decide (i1<(m.2.length:Int))) (
  rq (0≤i1∧i1<m.2.length) <|
  (Zsd m (m.2.getD i1.toNat (0,([],([],(0,[])))))).bind fun r6_=>
  rq (out2.length+r6_.length≤Zl) <|
  rq (i64 (i1+(1:Int))) <|
  some (.inl ((i1+(1:Int)),(out2++r6_)))) (
  up (Ziy out2))
def Zix (m:(List Int)×(List D5_)):(List D7_)→Option (Bool×(List D7_)):=fun out1=>
 loop (Ziz m) ((0:Int),out1)
def ZiA (m:(List Int)×(List D5_)):Int×(List D7_)→Option ((Int×(List D7_))⊕(Bool×(List D7_))):=fun (i,out)=>
 cond (decide (i<(m.1.length:Int))) (
  (Zsc m i).bind fun r3_=>
  rq (out.length+r3_.length≤Zl) <|
  rq (i64 (i+(1:Int))) <|
  some (.inl ((i+(1:Int)),(out++r3_)))) (
  up (Zix m out))
def Zh8 (m:(List Int)×(List D5_)):Option (Bool×(List D7_)):=
 (Zfj m).bind fun r1_=>
 cond (!r1_) (
  some (false,([]:List D7_))) (
  loop (ZiA m) ((0:Int),([]:List D7_)))
def Zng (coefs:List Int):Int→Option (Int⊕Bool):=fun i=>
 cond (decide (i<(coefs.length:Int))) (
  rq (0≤i∧i<coefs.length) <|
  cond (decide ((coefs.getD i.toNat 0)<(-9:Int))) (
   some (.inr false)) (
   rq (0≤i∧i<coefs.length) <|
   cond (decide ((9:Int)<(coefs.getD i.toNat 0))) (
    some (.inr false)) (
    rq (i64 (i+(1:Int))) <|
    some (.inl (i+(1:Int)))))) (
  some (.inr true))
def ZkY (m:(List Int)×(List D5_)) (coefs:List Int):Option Bool:=
 (Zfj m).bind fun r1_=>
 cond (!r1_) (
  some false) (
  cond ((coefs.length:Int) != (m.1.length:Int)) (
   some false) (
   loop (Zng coefs) (0:Int)))
def Zrk (coefs:List Int) (cells:List Int):Int×Int→Option ((Int×Int)⊕Int):=fun (n,i)=>
 cond (decide (i<(cells.length:Int))) (
  rq (0≤i∧i<coefs.length) <|
  rq (0≤i∧i<cells.length) <|
  rq (i64 ((coefs.getD i.toNat 0)*(cells.getD i.toNat 0))) <|
  rq (i64 (n+((coefs.getD i.toNat 0)*(cells.getD i.toNat 0)))) <|
  rq (i64 (i+(1:Int))) <|
  some (.inl ((n+((coefs.getD i.toNat 0)*(cells.getD i.toNat 0))),(i+(1:Int))))) (
  some (.inr n))
def Zn0 (coefs:List Int) (cells:List Int):Option Int:=
 loop (Zrk coefs cells) ((0:Int),(0:Int))
def Zh5 (most:Int):(List Int)→Option (Bool×Int×(List D6_)):=fun net3=>
 rq (i64 (0 - most)) <|
 (Zfs net3 (0 - most)).bind fun r7_=>
 some (r7_.1,r7_.2.1,r7_.2.2)
def Zfh (m:(List Int)×(List D5_)) (coefs:List Int) (i:Int):Int×(List Int)→Option ((Int×(List Int))⊕((Int×(List Int))⊕(Bool×Int×(List D6_)))):=fun (k_1,net2)=>
 rq (0≤i∧i<m.1.length) <|
 cond (decide (k_1≤(m.1.getD i.toNat 0))) (
  rq (0≤i∧i<coefs.length) <|
  rq (i64 (0 - (coefs.getD i.toNat 0))) <|
  rq (i64 ((0 - (coefs.getD i.toNat 0))*k_1)) <|
  (Zhy m i k_1).bind fun r6_=>
  rq (0≤r6_∧r6_<net2.length) <|
  rq (i64 (k_1+(1:Int))) <|
  some (.inl ((k_1+(1:Int)),(net2.set r6_.toNat ((0 - (coefs.getD i.toNat 0))*k_1))))) (
  rq (i64 (i+(1:Int))) <|
  some (.inr (.inl ((i+(1:Int)),net2))))
def Zfg (m:(List Int)×(List D5_)) (coefs:List Int) (most:Int):Int×(List Int)→Option ((Int×(List Int))⊕(Bool×Int×(List D6_))):=fun (i,net1)=>
 cond (decide (i<(coefs.length:Int))) (
  loop (Zfh m coefs i) ((0:Int),net1)) (
  up (Zh5 most net1))
def ZeT (m:(List Int)×(List D5_)) (coefs:List Int) (most:Int):Option (Bool×Int×(List D6_)):=
 (ZkY m coefs).bind fun r1_=>
 cond (!r1_) (
  some (false,(0:Int),([]:List D6_))) (
  cond (decide (most<(-1000:Int))) (
   some (false,(0:Int),([]:List D6_))) (
   cond (decide ((1000:Int)<most)) (
    some (false,(0:Int),([]:List D6_))) (
    rq (0≤(13:Int)∧(13:Int)≤Zl∧(13:Int)=(13:Int)) <|
    loop (Zfg m coefs most) ((0:Int),(List.replicate (13:Int).toNat 0)))))
def Zhv (list_:List D7_):Int→Option (Int⊕Bool):=fun i=>
 cond (decide (i<(list_.length:Int))) (
  rq (0≤i∧i<list_.length) <|
  (ZV (list_.getD i.toNat ([],0))).bind fun r1_=>
  cond (!r1_) (
   some (.inr false)) (
   rq (i64 (i+(1:Int))) <|
   some (.inl (i+(1:Int))))) (
  some (.inr (decide ((list_.length:Int)≤(400:Int)))))
def Zg5 (list_:List D7_):Option Bool:=
 loop (Zhv list_) (0:Int)
def ZgU (lit:Int) (p:List Int):Option (List Int):=
 cond (decide ((0:Int)<lit)) (
  rq (i64 (lit - (1:Int))) <|
  rq (0≤(lit - (1:Int))∧(lit - (1:Int))<p.length) <|
  some (p.set (lit - (1:Int)).toNat (1:Int))) (
  rq (i64 (0 - lit)) <|
  rq (i64 ((0 - lit) - (1:Int))) <|
  rq (0≤((0 - lit) - (1:Int))∧((0 - lit) - (1:Int))<p.length) <|
  some (p.set ((0 - lit) - (1:Int)).toNat (-1:Int)))
def ZnX (p:List Int) (lit:Int):Option Int:=
 cond (decide ((0:Int)<lit)) (
  rq (i64 (lit - (1:Int))) <|
  rq (0≤(lit - (1:Int))∧(lit - (1:Int))<p.length) <|
  some (p.getD (lit - (1:Int)).toNat 0)) (
  rq (i64 (0 - lit)) <|
  rq (i64 ((0 - lit) - (1:Int))) <|
  rq (0≤((0 - lit) - (1:Int))∧((0 - lit) - (1:Int))<p.length) <|
  rq (i64 (0 - (p.getD ((0 - lit) - (1:Int)).toNat 0))) <|
  some (0 - (p.getD ((0 - lit) - (1:Int)).toNat 0)))
def Zm4 (c_:(List D6_)×Int) (p:List Int):Int×Int→Option ((Int×Int)⊕Int):=fun (n,i)=>
 cond (decide (i<(c_.1.length:Int))) (
  rq (0≤i∧i<c_.1.length) <|
  (ZnX p (c_.1.getD i.toNat (0,0)).2).bind fun r1_=>
  cond (decide ((0:Int)≤r1_)) (
   rq (0≤i∧i<c_.1.length) <|
   rq (i64 (n+(c_.1.getD i.toNat (0,0)).1)) <|
   rq (i64 (i+(1:Int))) <|
   some (.inl ((n+(c_.1.getD i.toNat (0,0)).1),(i+(1:Int))))) (
   rq (i64 (i+(1:Int))) <|
   some (.inl (n,(i+(1:Int)))))) (
  some (.inr n))
def ZnW (c_:(List D6_)×Int) (p:List Int):Option Int:=
 rq (i64 (0 - c_.2)) <|
 loop (Zm4 c_ p) ((0 - c_.2),(0:Int))
def Zg7 (c_:(List D6_)×Int) (p:List Int) (r1_:Int):Int×(List Int)→Option ((Int×(List Int))⊕(List Int)):=fun (i,out)=>
 cond (decide (i<(c_.1.length:Int))) (
  cond (decide ((0:Int)≤r1_)) (
   rq (0≤i∧i<c_.1.length) <|
   (ZnX p (c_.1.getD i.toNat (0,0)).2).bind fun r3_=>
   cond (r3_==(0:Int)) (
    rq (0≤i∧i<c_.1.length) <|
    cond (decide (r1_<(c_.1.getD i.toNat (0,0)).1)) (
     rq (0≤i∧i<c_.1.length) <|
     rq (out.length+[(c_.1.getD i.toNat (0,0)).2].length≤Zl) <|
     rq (i64 (i+(1:Int))) <|
     some (.inl ((i+(1:Int)),(out++[(c_.1.getD i.toNat (0,0)).2])))) (
     rq (i64 (i+(1:Int))) <|
     some (.inl ((i+(1:Int)),out)))) (
    rq (i64 (i+(1:Int))) <|
    some (.inl ((i+(1:Int)),out)))) (
   some (.inr out))) (
  some (.inr out))
def ZhN (c_:(List D6_)×Int) (p:List Int):Option (List Int):=
 (ZnW c_ p).bind fun r1_=>
 loop (Zg7 c_ p r1_) ((0:Int),([]:List Int))
def ZdS (i1:Int) (r14_:(List Int)):Bool×Int×(List Int)→Option ((Bool×Int×(List Int))⊕((Bool×Int×(List Int))⊕((Bool×(List Int))⊕(Int×(List Int))))):=fun (changed6,k_3,p7)=>
 cond (decide (k_3<(r14_.length:Int))) (
  rq (0≤k_3∧k_3<r14_.length) <|
  (ZgU (r14_.getD k_3.toNat 0) p7).bind fun r16_=>
  rq (i64 (k_3+(1:Int))) <|
  some (.inl (true,(k_3+(1:Int)),r16_))) (
  rq (i64 (i1+(1:Int))) <|
  some (.inr (.inl (changed6,(i1+(1:Int)),p7))))
def ZdR (list_:List D7_):Bool×Int×(List Int)→Option ((Bool×Int×(List Int))⊕((Bool×(List Int))⊕(Int×(List Int)))):=fun (changed4,i1,p6)=>
 cond (decide (i1<(list_.length:Int))) (
  rq (0≤i1∧i1<list_.length) <|
  (ZnW (list_.getD i1.toNat ([],0)) p6).bind fun r13_=>
  cond (decide (r13_<(0:Int))) (
   some (.inr (.inr (i1,p6)))) (
   rq (0≤i1∧i1<list_.length) <|
   (ZhN (list_.getD i1.toNat ([],0)) p6).bind fun r14_=>
   loop (ZdS i1 r14_) (changed4,(0:Int),p6))) (
  some (.inr (.inl (changed4,p6))))
def ZfL (list_:List D7_):Bool×(List Int)→Option ((Bool×(List Int))⊕(Int×(List Int))):=fun (changed,p4)=>
 cond changed (
  loop (ZdR list_) (false,(0:Int),p4)) (
  some (.inr ((-1:Int),p4)))
def Zdy (list_:List D7_) (p:List Int):Option (Int×(List Int)):=
 loop (ZfL list_) (true,p)
def ZiB (s_2:Int) (o0:List D7_) (o1:List Zw):(List Int)→Option (Int×(List D7_)×(List Zw)):=fun lits1=>
 (Zi7 lits1).bind fun r1_=>
 rq (o0.length+[(r1_.2.2,r1_.2.1)].length≤Zl) <|
 rq (o1.length+[((7:Int),((0:Int),((0:Int),(r1_.2.2,r1_.2.1))))].length≤Zl) <|
 some (s_2,(o0++[(r1_.2.2,r1_.2.1)]),(o1++[((7:Int),((0:Int),((0:Int),(r1_.2.2,r1_.2.1))))]))
def ZcZ (s_2:Int) (decisions:List Int) (o0:List D7_) (o1:List Zw):Int×(List Int)→Option ((Int×(List Int))⊕(Int×(List D7_)×(List Zw))):=fun (i,lits)=>
 cond (decide (i<(decisions.length:Int))) (
  rq (0≤i∧i<decisions.length) <|
  rq (i64 (0 - (decisions.getD i.toNat 0))) <|
  rq (lits.length+[(0 - (decisions.getD i.toNat 0))].length≤Zl) <|
  rq (i64 (i+(1:Int))) <|
  some (.inl ((i+(1:Int)),(lits++[(0 - (decisions.getD i.toNat 0))])))) (
  up (ZiB s_2 o0 o1 lits))
def Zdz (s_2:Int) (decisions:List Int) (o0:List D7_) (o1:List Zw):Option (Int×(List D7_)×(List Zw)):=
 loop (ZcZ s_2 decisions o0 o1) ((0:Int),([]:List Int))
def ZkT (p:List Int):Int→Option (Int⊕Int):=fun i=>
 cond (decide (i<(p.length:Int))) (
  rq (0≤i∧i<p.length) <|
  cond ((p.getD i.toNat 0)==(0:Int)) (
   rq (i64 (i+(1:Int))) <|
   some (.inr (i+(1:Int)))) (
   rq (i64 (i+(1:Int))) <|
   some (.inl (i+(1:Int))))) (
  some (.inr (0:Int)))
def ZjU (p:List Int):Option Int:=
 loop (ZkT p) (0:Int)
def ZlJ (a0_2:Int) (o0:List D7_) (o1:List Zw):(List Bool)→Option (Int×Int×(List Bool)×(List D7_)×(List Zw)):=fun i5=>
 some ((1:Int),(a0_2 - (1:Int)),i5,o0,o1)
def ZcQ (a0_2:Int) (o0:List D7_) (o1:List Zw) (r3_:Int×(List Int)):Int×(List Bool)→Option ((Int×(List Bool))⊕(Int×Int×(List Bool)×(List D7_)×(List Zw))):=fun (i3,i4)=>
 cond (decide (i3<(r3_.2.length:Int))) (
  rq (0≤i3∧i3<r3_.2.length) <|
  rq (i4.length+[(decide ((0:Int)<(r3_.2.getD i3.toNat 0)))].length≤Zl) <|
  rq (i64 (i3+(1:Int))) <|
  some (.inl ((i3+(1:Int)),(i4++[(decide ((0:Int)<(r3_.2.getD i3.toNat 0)))])))) (
  up (ZlJ a0_2 o0 o1 i4))
def Zhw (a1:List Int):Int×(List D7_)×(List Zw)→Option (Int×Int×(List Bool)×(List D7_)×(List Zw)):=fun (i_23,i_03,i_13)=>
 cond (decide ((1000:Int)≤(i_13.length:Int))) (
  some ((0:Int),i_23,([]:List Bool),i_03,i_13)) (
  (Zdz i_23 a1 i_03 i_13).bind fun r9_=>
  some ((2:Int),r9_.1,([]:List Bool),r9_.2.1,r9_.2.2))
def Zhx (i6:Int):Int×Int×(List Bool)×(List D7_)×(List Zw)→Option ((Int×Int×(List D7_)×(List Zw))⊕(Int×Int×(List Bool)×(List D7_)×(List Zw))):=fun (i9,i_22,i10,i_02,i_12)=>
 cond (i9 != (2:Int)) (
  some (.inr (i9,i_22,i10,i_02,i_12))) (
  rq (i64 (i6+(1:Int))) <|
  some (.inl ((i6+(1:Int)),i_22,i_02,i_12)))
def Zej (a1:List Int) (r5_:Int) (rec_:Int→(List Int)→(List D7_)→(List Zw)→Option (Int×Int×(List Bool)×(List D7_)×(List Zw))):Int×Int×(List D7_)×(List Zw)→Option ((Int×Int×(List D7_)×(List Zw))⊕(Int×Int×(List Bool)×(List D7_)×(List Zw))):=fun (i6,i_21,i_01,i_11)=>
 cond (decide (i6<([r5_,(0 - r5_)].length:Int))) (
  rq (0≤i6∧i6 < [r5_,(0 - r5_)].length) <|
  rq (([]:List Int).length+a1.length≤Zl) <|
  rq ((([]:List Int)++a1).length+[([r5_,(0 - r5_)].getD i6.toNat 0)].length≤Zl) <|
  (rec_ i_21 ((([]:List Int)++a1)++[([r5_,(0 - r5_)].getD i6.toNat 0)]) i_01 i_11).bind fun r8_=>
  Zhx i6 (r8_.1,r8_.2.1,r8_.2.2.1,r8_.2.2.2.1,r8_.2.2.2.2)) (
  up (Zhw a1 (i_21,i_01,i_11)))
def Zco (a0_2:Int) (a1:List Int) (o0:List D7_) (o1:List Zw) (rec_:Int→(List Int)→(List D7_)→(List Zw)→Option (Int×Int×(List Bool)×(List D7_)×(List Zw))):(List Int)→Option (Int×Int×(List Bool)×(List D7_)×(List Zw)):=fun i2=>
 (Zdy o0 i2).bind fun r3_=>
 cond (decide ((0:Int)≤r3_.1)) (
  (Zdz (a0_2 - (1:Int)) a1 o0 o1).bind fun r4_=>
  some ((2:Int),r4_.1,([]:List Bool),r4_.2.1,r4_.2.2)) (
  (ZjU r3_.2).bind fun r5_=>
  cond (r5_==(0:Int)) (
   loop (ZcQ a0_2 o0 o1 r3_) ((0:Int),([]:List Bool))) (
   rq (i64 (0 - r5_)) <|
   loop (Zej a1 r5_ rec_) ((0:Int),(a0_2 - (1:Int)),o0,o1)))
def ZdA (a0_2:Int) (a1:List Int) (o0:List D7_) (o1:List Zw) (rec_:Int→(List Int)→(List D7_)→(List Zw)→Option (Int×Int×(List Bool)×(List D7_)×(List Zw))):Int×(List Int)→Option ((Int×(List Int))⊕(Int×Int×(List Bool)×(List D7_)×(List Zw))):=fun (i,i1)=>
 cond (decide (i<(a1.length:Int))) (
  rq (0≤i∧i<a1.length) <|
  (ZgU (a1.getD i.toNat 0) i1).bind fun r2_=>
  rq (i64 (i+(1:Int))) <|
  some (.inl ((i+(1:Int)),r2_))) (
  up (Zco a0_2 a1 o0 o1 rec_ i1))
def Zbv (rec_:Int→(List Int)→(List D7_)→(List Zw)→Option (Int×Int×(List Bool)×(List D7_)×(List Zw))) (a0_2:Int) (a1:List Int) (o0:List D7_) (o1:List Zw):Option (Int×Int×(List Bool)×(List D7_)×(List Zw)):=
 cond (a0_2==(0:Int)) (
  some ((0:Int),a0_2,([]:List Bool),o0,o1)) (
  cond (decide ((1000:Int)≤(o1.length:Int))) (
   some ((0:Int),a0_2,([]:List Bool),o0,o1)) (
   rq (i64 (a0_2 - (1:Int))) <|
   rq (0≤(12:Int)∧(12:Int)≤Zl∧(12:Int)=(12:Int)) <|
   loop (ZdA a0_2 a1 o0 o1 rec_) ((0:Int),(List.replicate (12:Int).toNat 0))))
def Zba:Nat→Int→(List Int)→(List D7_)→(List Zw)→Option (Int×Int×(List Bool)×(List D7_)×(List Zw))
  |0=>fun _ _ _ _=>none
  |n_+1=>Zbv (Zba n_)
def Zrw (a0_2:Int) (o0:List D7_):(List Bool)→Option (Int×Int×(List Bool)×(List D7_)×(List Zw)):=fun i5=>
 some ((1:Int),(a0_2 - (1:Int)),i5,o0,([]:List Zw))
def Zrz (a0_2:Int) (o0:List D7_) (r3_:Int×(List Int)):Int×(List Bool)→Option ((Int×(List Bool))⊕(Int×Int×(List Bool)×(List D7_)×(List Zw))):=fun (i3,i4)=>
 cond (decide (i3<(r3_.2.length:Int))) (
  rq (0≤i3∧i3<r3_.2.length) <|
  rq (i4.length+[(decide ((0:Int)<(r3_.2.getD i3.toNat 0)))].length≤Zl) <|
  rq (i64 (i3+(1:Int))) <|
  some (.inl ((i3+(1:Int)),(i4++[(decide ((0:Int)<(r3_.2.getD i3.toNat 0)))])))) (
  up (Zrw a0_2 o0 i4))
def Zrx (a1:List Int):Int×(List D7_)×(List Zw)→Option (Int×Int×(List Bool)×(List D7_)×(List Zw)):=fun (i_23,i_03,i_13)=>
 cond (decide ((1000:Int)≤(i_13.length:Int))) (
  some ((0:Int),i_23,([]:List Bool),i_03,i_13)) (
  (Zdz i_23 a1 i_03 i_13).bind fun r9_=>
  some ((2:Int),r9_.1,([]:List Bool),r9_.2.1,r9_.2.2))
def Zry (i6:Int):Int×Int×(List Bool)×(List D7_)×(List Zw)→Option ((Int×Int×(List D7_)×(List Zw))⊕(Int×Int×(List Bool)×(List D7_)×(List Zw))):=fun (i9,i_22,i10,i_02,i_12)=>
 cond (i9 != (2:Int)) (
  some (.inr (i9,i_22,i10,i_02,i_12))) (
  rq (i64 (i6+(1:Int))) <|
  some (.inl ((i6+(1:Int)),i_22,i_02,i_12)))
def ZmI (a1:List Int) (r5_:Int):Int×Int×(List D7_)×(List Zw)→Option ((Int×Int×(List D7_)×(List Zw))⊕(Int×Int×(List Bool)×(List D7_)×(List Zw))):=fun (i6,i_21,i_01,i_11)=>
 cond (decide (i6<([r5_,(0 - r5_)].length:Int))) (
  rq (0≤i6∧i6 < [r5_,(0 - r5_)].length) <|
  rq (([]:List Int).length+a1.length≤Zl) <|
  rq ((([]:List Int)++a1).length+[([r5_,(0 - r5_)].getD i6.toNat 0)].length≤Zl) <|
  (Zba 64 i_21 ((([]:List Int)++a1)++[([r5_,(0 - r5_)].getD i6.toNat 0)]) i_01 i_11).bind fun r8_=>
  Zry i6 (r8_.1,r8_.2.1,r8_.2.2.1,r8_.2.2.2.1,r8_.2.2.2.2)) (
  up (Zrx a1 (i_21,i_01,i_11)))
def ZiC (a0_2:Int) (a1:List Int) (o0:List D7_):(List Int)→Option (Int×Int×(List Bool)×(List D7_)×(List Zw)):=fun i2=>
 (Zdy o0 i2).bind fun r3_=>
 cond (decide ((0:Int)≤r3_.1)) (
  (Zdz (a0_2 - (1:Int)) a1 o0 ([]:List Zw)).bind fun r4_=>
  some ((2:Int),r4_.1,([]:List Bool),r4_.2.1,r4_.2.2)) (
  (ZjU r3_.2).bind fun r5_=>
  cond (r5_==(0:Int)) (
   loop (Zrz a0_2 o0 r3_) ((0:Int),([]:List Bool))) (
   rq (i64 (0 - r5_)) <|
   loop (ZmI a1 r5_) ((0:Int),(a0_2 - (1:Int)),o0,([]:List Zw))))
def ZiD (a0_2:Int) (a1:List Int) (o0:List D7_):Int×(List Int)→Option ((Int×(List Int))⊕(Int×Int×(List Bool)×(List D7_)×(List Zw))):=fun (i,i1)=>
 cond (decide (i<(a1.length:Int))) (
  rq (0≤i∧i<a1.length) <|
  (ZgU (a1.getD i.toNat 0) i1).bind fun r2_=>
  rq (i64 (i+(1:Int))) <|
  some (.inl ((i+(1:Int)),r2_))) (
  up (ZiC a0_2 a1 o0 i1))
def ZlI (a0_2:Int) (a1:List Int) (o0:List D7_):Option (Int×Int×(List Bool)×(List D7_)×(List Zw)):=
 cond (a0_2==(0:Int)) (
  some ((0:Int),a0_2,([]:List Bool),o0,([]:List Zw))) (
  cond (decide ((1000:Int)≤(0:Int))) (
   some ((0:Int),a0_2,([]:List Bool),o0,([]:List Zw))) (
   rq (i64 (a0_2 - (1:Int))) <|
   rq (0≤(12:Int)∧(12:Int)≤Zl∧(12:Int)=(12:Int)) <|
   loop (ZiD a0_2 a1 o0) ((0:Int),(List.replicate (12:Int).toNat 0))))
def Zpf (c_:(List D6_)×Int):Option (Int×(List D6_)):=
 rq (([]:List D6_).length+c_.1.length≤Zl) <|
 some (c_.2,(([]:List D6_)++c_.1))
def ZlE (r2_:Int×Int×(List Bool)×(List D7_)×(List Zw)):(List Zw)→Option (Int×(List Bool)×(List Zw)):=fun i2=>
 some (r2_.1,([]:List Bool),i2)
def Zei (r2_:Int×Int×(List Bool)×(List D7_)×(List Zw)):Int×(List Zw)→Option ((Int×(List Zw))⊕(Int×(List Bool)×(List Zw))):=fun (i,i1)=>
 cond (decide (i<(r2_.2.2.2.2.length:Int))) (
  rq (0≤i∧i<r2_.2.2.2.2.length) <|
  (Zpf (r2_.2.2.2.2.getD i.toNat (0,(0,(0,([],0))))).2.2.2).bind fun r4_=>
  rq (i1.length+[((r2_.2.2.2.2.getD i.toNat (0,(0,(0,([],0))))).1,((r2_.2.2.2.2.getD i.toNat (0,(0,(0,([],0))))).2.1,((r2_.2.2.2.2.getD i.toNat (0,(0,(0,([],0))))).2.2.1,(r4_.2,r4_.1))))].length≤Zl) <|
  rq (i64 (i+(1:Int))) <|
  some (.inl ((i+(1:Int)),(i1++[((r2_.2.2.2.2.getD i.toNat (0,(0,(0,([],0))))).1,((r2_.2.2.2.2.getD i.toNat (0,(0,(0,([],0))))).2.1,((r2_.2.2.2.2.getD i.toNat (0,(0,(0,([],0))))).2.2.1,(r4_.2,r4_.1))))])))) (
  up (ZlE r2_ i1))
def Zke (a0:List D7_) (a1:Int):Option (Int×(List Bool)×(List Zw)):=
 (Zg5 a0).bind fun r1_=>
 cond (!r1_) (
  some ((3:Int),([]:List Bool),([]:List Zw))) (
  cond (decide (a1<(0:Int))) (
   some ((3:Int),([]:List Bool),([]:List Zw))) (
   cond (decide ((2000:Int)<a1)) (
    some ((3:Int),([]:List Bool),([]:List Zw))) (
    rq (([]:List D7_).length+a0.length≤Zl) <|
    (ZlI a1 ([]:List Int) (([]:List D7_)++a0)).bind fun r2_=>
    cond (r2_.1 != (2:Int)) (
     some (r2_.1,r2_.2.2.1,([]:List Zw))) (
     loop (Zei r2_) ((0:Int),([]:List Zw))))))
def Zhu (m:(List Int)×(List D5_)) (values:List Bool) (i:Int) (out:List Int):Int×Int×Int→Option ((Int×Int×Int)⊕((Int×(List Int))⊕(Bool×(List Int)))):=fun (v1,n1,k_1)=>
 rq (0≤i∧i<m.1.length) <|
 cond (decide (k_1≤(m.1.getD i.toNat 0))) (
  (Zhy m i k_1).bind fun r3_=>
  rq (i64 (r3_ - (1:Int))) <|
  rq (0≤(r3_ - (1:Int))∧(r3_ - (1:Int))<values.length) <|
  cond (values.getD (r3_ - (1:Int)).toNat false) (
   rq (i64 (n1+(1:Int))) <|
   rq (i64 (k_1+(1:Int))) <|
   some (.inl (k_1,(n1+(1:Int)),(k_1+(1:Int))))) (
   rq (i64 (k_1+(1:Int))) <|
   some (.inl (v1,n1,(k_1+(1:Int)))))) (
  cond (n1 != (1:Int)) (
   some (.inr (.inr (false,([]:List Int))))) (
   rq (out.length+[v1].length≤Zl) <|
   rq (i64 (i+(1:Int))) <|
   some (.inr (.inl ((i+(1:Int)),(out++[v1]))))))
def Zht (m:(List Int)×(List D5_)) (values:List Bool):Int×(List Int)→Option ((Int×(List Int))⊕(Bool×(List Int))):=fun (i,out)=>
 cond (decide (i<(m.1.length:Int))) (
  loop (Zhu m values i out) ((-1:Int),(0:Int),(0:Int))) (
  some (.inr (true,out)))
def Zkc (m:(List Int)×(List D5_)) (values:List Bool):Option (Bool×(List Int)):=
 (Zfj m).bind fun r1_=>
 cond (!r1_) (
  some (false,([]:List Int))) (
  cond ((values.length:Int) != (12:Int)) (
   some (false,([]:List Int))) (
   loop (Zht m values) ((0:Int),([]:List Int))))
def Zeh (a0:(List Int)×(List D5_)) (i1:List Int) (r11_:Int×(List Bool)×(List Zw)):Unit→Option ((List Int)⊕(Int×(List Int)×(List Zw))):=fun _=>
 cond (r11_.1==(2:Int)) (
  some (.inr ((1:Int),i1,r11_.2.2))) (
  (Zkc a0 r11_.2.1).bind fun r12_=>
  some (.inl r12_.2))
def ZcP (a0:(List Int)×(List D5_)) (a2:Int) (i1:List Int):(List D7_)→Option ((List Int)⊕(Int×(List Int)×(List Zw))):=fun i2=>
 (Zke i2 a2).bind fun r11_=>
 cond (r11_.1==(0:Int)) (
  some (.inr (r11_.1,i1,([]:List Zw)))) (
  cond (r11_.1==(2:Int)) (
   cond ((i1.length:Int)==(0:Int)) (
    some (.inr (r11_.1,i1,r11_.2.2))) (
    Zeh a0 i1 r11_ ())) (
   Zeh a0 i1 r11_ ()))
def ZlD (a0:(List Int)×(List D5_)) (a2:Int) (r1_:Bool×(List D7_)) (i1:List Int):Int×(List D6_)→Option ((List Int)⊕(Int×(List Int)×(List Zw))):=fun (i_11,i_01)=>
 rq ((([]:List D7_)++r1_.2).length+[(i_01,i_11)].length≤Zl) <|
 ZcP a0 a2 i1 ((([]:List D7_)++r1_.2)++[(i_01,i_11)])
def Zcn (a0:(List Int)×(List D5_)) (a1:List Int) (a2:Int) (r1_:Bool×(List D7_)):(List Int)→Option ((List Int)⊕(Int×(List Int)×(List Zw))):=fun i1=>
 rq (([]:List D7_).length+r1_.2.length≤Zl) <|
 cond (decide ((0:Int)<(i1.length:Int))) (
  (Zn0 a1 i1).bind fun r9_=>
  rq (i64 (r9_ - (1:Int))) <|
  (ZeT a0 a1 (r9_ - (1:Int))).bind fun r10_=>
  ZlD a0 a2 r1_ i1 (r10_.2.1,r10_.2.2)) (
  ZcP a0 a2 i1 (([]:List D7_)++r1_.2))
def Zg6 (a0:(List Int)×(List D5_)) (a1:List Int) (a2:Int):Option (Int×(List Int)×(List Zw)):=
 (Zh8 a0).bind fun r1_=>
 cond (!r1_.1) (
  some ((3:Int),([]:List Int),([]:List Zw))) (
  (ZkY a0 a1).bind fun r2_=>
  cond (!r2_) (
   some ((3:Int),([]:List Int),([]:List Zw))) (
   cond (decide (a2<(0:Int))) (
    some ((3:Int),([]:List Int),([]:List Zw))) (
    cond (decide ((2000:Int)<a2)) (
     some ((3:Int),([]:List Int),([]:List Zw))) (
     cond (decide ((400:Int)≤(r1_.2.length:Int))) (
      some ((3:Int),([]:List Int),([]:List Zw))) (
      loop (Zcn a0 a1 a2 r1_) ([]:List Int))))))
def ZmO:D1_×(List Int)→Option (D1_×(List Int)):=fun (r_2,out1)=>
 (ZbT (30:Int) r_2).bind fun r3_=>
 cond (r3_.1==(0:Int)) (
  cond (decide ((0:Int)<(out1.length:Int))) (
   (Zbk [(10:Int),(-10:Int),(9:Int),(9223372036854775807:Int)] r3_.2).bind fun r4_=>
   rq (0≤(0:Int)∧(0:Int)<out1.length) <|
   some (r4_.2,(out1.set (0:Int).toNat r4_.1))) (
   some (r3_.2,out1))) (
  cond (r3_.1==(1:Int)) (
   rq (out1.length+[(1:Int)].length≤Zl) <|
   some (r3_.2,(out1++[(1:Int)]))) (
   some (r3_.2,out1)))
def ZiK (o1:List Int):Int×D1_×(List Int)→Option ((Int×D1_×(List Int))⊕(D1_×(List Int))):=fun (i,r_1,out)=>
 cond (decide (i<(o1.length:Int))) (
  (Zbk [(1:Int),(-1:Int),(2:Int),(0:Int),(-2:Int),(3:Int)] r_1).bind fun r2_=>
  rq (out.length+[r2_.1].length≤Zl) <|
  rq (i64 (i+(1:Int))) <|
  some (.inl ((i+(1:Int)),r2_.2,(out++[r2_.1])))) (
  up (ZmO (r_1,out)))
def ZlV (r_:(List Int)×Int) (o1:List Int) (o2:List D5_):Option (D1_×(List Int)):=
 loop (ZiK o1) ((0:Int),r_,([]:List Int))
def Zif:D1_×(List Int)→Option (D1_×(List Int)):=fun (r_2,out1)=>
 (ZbT (40:Int) r_2).bind fun r3_=>
 cond (r3_.1==(0:Int)) (
  rq (out1.length+[(0:Int)].length≤Zl) <|
  some (r3_.2,(out1++[(0:Int)]))) (
  cond (r3_.1==(1:Int)) (
   cond (decide ((0:Int)<(out1.length:Int))) (
    (Zbk [(-1:Int),(4:Int),(9223372036854775807:Int)] r3_.2).bind fun r4_=>
    rq (0≤(0:Int)∧(0:Int)<out1.length) <|
    some (r4_.2,(out1.set (0:Int).toNat r4_.1))) (
    some (r3_.2,out1))) (
   some (r3_.2,out1)))
def ZbI (i:Int) (r_1:(List Int)×Int) (out:List Int):Int→Option ((Int×D1_×(List Int))⊕(D1_×(List Int))):=fun n1=>
 (ZbT n1 r_1).bind fun r2_=>
 rq (out.length+[r2_.1].length≤Zl) <|
 rq (i64 (i+(1:Int))) <|
 some (.inl ((i+(1:Int)),r2_.2,(out++[r2_.1])))
def Zfl (o1:List Int):Int×D1_×(List Int)→Option ((Int×D1_×(List Int))⊕(D1_×(List Int))):=fun (i,r_1,out)=>
 cond (decide (i<(o1.length:Int))) (
  rq (0≤i∧i<o1.length) <|
  cond (decide ((w64 ((o1.getD i.toNat 0)+(1:Int)))<(1:Int))) (
   ZbI i r_1 out (1:Int)) (
   cond (decide ((4:Int)<(w64 ((o1.getD i.toNat 0)+(1:Int))))) (
    ZbI i r_1 out (1:Int)) (
    ZbI i r_1 out (w64 ((o1.getD i.toNat 0)+(1:Int)))))) (
  up (Zif (r_1,out)))
def ZgK (r_:(List Int)×Int) (o1:List Int) (o2:List D5_):Option (D1_×(List Int)):=
 loop (Zfl o1) ((0:Int),r_,([]:List Int))
def Zeb (r3_:D1_×(List Int)×(List D5_)) (r4_:D1_×(List Int)) (cells:List Int):(List Zw)→Option ((List Zw)×(List Int)×(List Int)×(List Int)×(List D5_)):=fun steps=>
 some (steps,r4_.2,cells,r3_.2.1,r3_.2.2)
def Zea (r3_:D1_×(List Int)×(List D5_)) (r4_:D1_×(List Int)) (r5_:Int×(List Int)×(List Zw)):D1_×(List Int)→Option ((List Zw)×(List Int)×(List Int)×(List Int)×(List D5_)):=fun (r_,cells)=>
 cond (decide ((0:Int)<(r5_.2.2.length:Int))) (
  (ZbT (6:Int) r_).bind fun r8_=>
  cond (r8_.1==(0:Int)) (
   rq (i64 ((r5_.2.2.length:Int) - (1:Int))) <|
   rq (0≤((r5_.2.2.length:Int) - (1:Int))∧((r5_.2.2.length:Int) - (1:Int))≤r5_.2.2.length) <|
   Zeb r3_ r4_ cells (r5_.2.2.take ((r5_.2.2.length:Int) - (1:Int)).toNat)) (
   Zeb r3_ r4_ cells r5_.2.2)) (
  Zeb r3_ r4_ cells r5_.2.2)
def ZgH (code:List Int):Option ((List Zw)×(List Int)×(List Int)×(List Int)×(List D5_)):=
 (Zrd code).bind fun r1_=>
 (Zrh r1_).bind fun r2_=>
 (Zpx r2_.2 r2_.1).bind fun r3_=>
 (ZlV r3_.1 r3_.2.1 r3_.2.2).bind fun r4_=>
 (Zg6 r3_.2 r4_.2 (400:Int)).bind fun r5_=>
 (ZbT (4:Int) r4_.1).bind fun r6_=>
 cond (r6_.1==(0:Int)) (
  (ZgK r6_.2 r3_.2.1 r3_.2.2).bind fun r7_=>
  Zea r3_ r4_ r5_ (r7_.1,r7_.2)) (
  Zea r3_ r4_ r5_ (r6_.2,r5_.2.1))
def ZbB (n:Int) (low:Int) (high:Int):Option Bool:=
 cond (decide (low≤n)) (
  some (decide (n≤high))) (
  some false)
def ZcY (s_:List Int) (v:Int):Int→Option (Int⊕Int):=fun i=>
 cond (decide (i<(s_.length:Int))) (
  rq (0≤i∧i<s_.length) <|
  cond (v==(s_.getD i.toNat 0)) (
   some (.inr i)) (
   rq (i64 (i+(1:Int))) <|
   some (.inl (i+(1:Int))))) (
  some (.inr (-1:Int)))
def Zlz (s_:List Int) (v:Int):Option Int:=
 loop (ZcY s_ v) (0:Int)
def Zcz (s_:List Int) (v:Int):Option Bool:=
 (Zlz s_ v).bind fun r1_=>
 some (decide ((0:Int)≤r1_))
def ZpQ (n:Int):Option Bool:=
 cond (n==(0:Int)) (
  some true) (
  (ZbB n (-9:Int) (9:Int)).bind fun r1_=>
  some (!r1_))
def ZbA (s_:List Int):Int→Option (Int⊕Int):=fun i=>
 cond (decide (i<(s_.length:Int))) (
  rq (0≤i∧i<s_.length) <|
  (ZpQ (s_.getD i.toNat 0)).bind fun r1_=>
  cond r1_ (
   some (.inr i)) (
   rq (i64 (i+(1:Int))) <|
   some (.inl (i+(1:Int))))) (
  some (.inr (-1:Int)))
def ZdQ (s_:List Int):Option Int:=
 loop (ZbA s_) (0:Int)
def Zcc (s_:List Int):Option Bool:=
 (ZdQ s_).bind fun r1_=>
 some (decide ((0:Int)≤r1_))
def ZnK (n:Int):Option Bool:=
 (ZbB n (0:Int) (3:Int)).bind fun r1_=>
 some (!r1_)
def Zbp (s_:List Int):Int→Option (Int⊕Int):=fun i=>
 cond (decide (i<(s_.length:Int))) (
  rq (0≤i∧i<s_.length) <|
  (ZnK (s_.getD i.toNat 0)).bind fun r1_=>
  cond r1_ (
   some (.inr i)) (
   rq (i64 (i+(1:Int))) <|
   some (.inl (i+(1:Int))))) (
  some (.inr (-1:Int)))
def Zdw (s_:List Int):Option Int:=
 loop (Zbp s_) (0:Int)
def Zb4 (s_:List Int):Option Bool:=
 (Zdw s_).bind fun r1_=>
 some (decide ((0:Int)≤r1_))
def ZpR (row:List Int) (o0:Int×(List Int)×(List Int)×Int×(List (List Int))):Option Bool:=
 cond ((row.length:Int) != (o0.2.1.length:Int)) (
  some true) (
  (Zb4 row).bind fun r1_=>
  some r1_)
def Zbq (s_:List (List Int)) (o0:Int×(List Int)×(List Int)×Int×(List (List Int))):Int→Option (Int⊕Int):=fun i=>
 cond (decide (i<(s_.length:Int))) (
  rq (0≤i∧i<s_.length) <|
  (ZpR (s_.getD i.toNat []) o0).bind fun r1_=>
  cond r1_ (
   some (.inr i)) (
   rq (i64 (i+(1:Int))) <|
   some (.inl (i+(1:Int))))) (
  some (.inr (-1:Int)))
def Zdx (s_:List (List Int)) (o0:Int×(List Int)×(List Int)×Int×(List (List Int))):Option Int:=
 loop (Zbq s_ o0) (0:Int)
def Zb5 (s_:List (List Int)) (o0:Int×(List Int)×(List Int)×Int×(List (List Int))):Option Bool:=
 (Zdx s_ o0).bind fun r1_=>
 some (decide ((0:Int)≤r1_))
def Zen (a0:Int×(List Int)×(List Int)×Int×(List (List Int))):Unit→Option (Int⊕Bool):=fun _=>
 cond (a0.1==(1:Int)) (
  cond ((a0.2.2.1.length:Int)==(a0.2.1.length:Int)) (
   (ZbB a0.2.2.2.1 (-1000:Int) (1000:Int)).bind fun r3_=>
   cond r3_ (
    (Zcc a0.2.2.1).bind fun r4_=>
    some (.inr (!r4_))) (
    some (.inr false))) (
   some (.inr false))) (
  cond (a0.1==(3:Int)) (
   cond (decide ((a0.2.2.2.2.length:Int)≤(8:Int))) (
    (Zb5 a0.2.2.2.2 a0).bind fun r5_=>
    some (.inr (!r5_))) (
    some (.inr false))) (
   cond (a0.1==(4:Int)) (
    some (.inr ((a0.2.1.length:Int)==(2:Int)))) (
    some (.inr (a0.1==(2:Int))))))
def Zj8 (a0:Int×(List Int)×(List Int)×Int×(List (List Int))) (a1:Int):Int→Option (Int⊕Bool):=fun i=>
 cond (decide (i<(a0.2.1.length:Int))) (
  rq (0≤i∧i<a0.2.1.length) <|
  rq (i64 (a1 - (1:Int))) <|
  (ZbB (a0.2.1.getD i.toNat 0) (0:Int) (a1 - (1:Int))).bind fun r1_=>
  cond (!r1_) (
   some (.inr false)) (
   rq (0≤i∧i≤a0.2.1.length) <|
   (Zcz (a0.2.1.take i.toNat) (a0.2.1.getD i.toNat 0)).bind fun r2_=>
   cond r2_ (
    some (.inr false)) (
    rq (i64 (i+(1:Int))) <|
    some (.inl (i+(1:Int)))))) (
  cond ((a0.2.1.length:Int)==(0:Int)) (
   some (.inr false)) (
   cond (a0.1 != (1:Int)) (
    cond (decide ((0:Int)<(a0.2.2.1.length:Int))) (
     some (.inr false)) (
     cond (a0.2.2.2.1 != (0:Int)) (
      some (.inr false)) (
      cond (a0.1 != (3:Int)) (
       cond (decide ((0:Int)<(a0.2.2.2.2.length:Int))) (
        some (.inr false)) (
        Zen a0 ())) (
       Zen a0 ())))) (
    cond (a0.1 != (3:Int)) (
     cond (decide ((0:Int)<(a0.2.2.2.2.length:Int))) (
      some (.inr false)) (
      Zen a0 ())) (
     Zen a0 ()))))
def Zof (a0:Int×(List Int)×(List Int)×Int×(List (List Int))) (a1:Int):Option Bool:=
 loop (Zj8 a0 a1) (0:Int)
def ZoG (r_:Int×(List Int)×(List Int)×Int×(List (List Int))) (o0:(List Int)×(List D5_)):Option Bool:=
 (Zof r_ (o0.1.length:Int)).bind fun r1_=>
 some (!r1_)
def Zbb (s_:List D5_) (o0:(List Int)×(List D5_)):Int→Option (Int⊕Int):=fun i=>
 cond (decide (i<(s_.length:Int))) (
  rq (0≤i∧i<s_.length) <|
  (ZoG (s_.getD i.toNat (0,([],([],(0,[]))))) o0).bind fun r1_=>
  cond r1_ (
   some (.inr i)) (
   rq (i64 (i+(1:Int))) <|
   some (.inl (i+(1:Int))))) (
  some (.inr (-1:Int)))
def ZcO (s_:List D5_) (o0:(List Int)×(List D5_)):Option Int:=
 loop (Zbb s_ o0) (0:Int)
def ZbH (s_:List D5_) (o0:(List Int)×(List D5_)):Option Bool:=
 (ZcO s_ o0).bind fun r1_=>
 some (decide ((0:Int)≤r1_))
def ZnG (m:(List Int)×(List D5_)):Int×Int→Option ((Int×Int)⊕Bool):=fun (count,i)=>
 cond (decide (i<(m.1.length:Int))) (
  rq (0≤i∧i<m.1.length) <|
  (ZbB (m.1.getD i.toNat 0) (0:Int) (3:Int)).bind fun r2_=>
  cond (!r2_) (
   some (.inr false)) (
   rq (i64 ((m.1.getD i.toNat 0)+(1:Int))) <|
   rq (i64 (count+((m.1.getD i.toNat 0)+(1:Int)))) <|
   rq (i64 (i+(1:Int))) <|
   some (.inl ((count+((m.1.getD i.toNat 0)+(1:Int))),(i+(1:Int)))))) (
  cond (decide (count≤(12:Int))) (
   (ZbH m.2 m).bind fun r3_=>
   some (.inr (!r3_))) (
   some (.inr false)))
def Zeu (m:(List Int)×(List D5_)):Option Bool:=
 (ZbB (m.1.length:Int) (1:Int) (5:Int)).bind fun r1_=>
 cond (!r1_) (
  some false) (
  cond (decide ((8:Int)<(m.2.length:Int))) (
   some false) (
   loop (ZnG m) ((0:Int),(0:Int))))
def ZkF (m:(List Int)×(List D5_)) (cell:Int):Int×Int→Option ((Int×Int)⊕Int):=fun (v,i)=>
 cond (decide (i<((m.1.take cell.toNat).length:Int))) (
  rq (0≤i∧i<(m.1.take cell.toNat).length) <|
  rq (i64 (((m.1.take cell.toNat).getD i.toNat 0)+(1:Int))) <|
  rq (i64 (v+(((m.1.take cell.toNat).getD i.toNat 0)+(1:Int)))) <|
  rq (i64 (i+(1:Int))) <|
  some (.inl ((v+(((m.1.take cell.toNat).getD i.toNat 0)+(1:Int))),(i+(1:Int))))) (
  some (.inr v))
def Zdr (m:(List Int)×(List D5_)) (cell:Int) (value:Int):Option Int:=
 rq (i64 ((1:Int)+value)) <|
 rq (0≤cell∧cell≤m.1.length) <|
 loop (ZkF m cell) (((1:Int)+value),(0:Int))
def Zfa (m:(List Int)×(List D5_)) (cell:Int):Int×(List Int)→Option ((Int×(List Int))⊕(List Int)):=fun (i,out)=>
 cond (decide (i<((m.1.getD cell.toNat 0)+(1:Int)))) (
  (Zdr m cell i).bind fun r2_=>
  rq (out.length+[r2_].length≤Zl) <|
  rq (i64 (i+(1:Int))) <|
  some (.inl ((i+(1:Int)),(out++[r2_])))) (
  some (.inr out))
def ZgZ (m:(List Int)×(List D5_)) (cell:Int):Option (List Int):=
 rq (0≤cell∧cell<m.1.length) <|
 rq (i64 ((m.1.getD cell.toNat 0)+(1:Int))) <|
 loop (Zfa m cell) ((0:Int),([]:List Int))
def ZhJ (l:Int):Option Bool:=
 cond (l != (0:Int)) (
  (ZbB l (-12:Int) (12:Int)).bind fun r1_=>
  some r1_) (
  some false)
def Zbr (s_:List Int):Option (List Int):=
 nt (s_=[]) (
  some ([]:List Int)) (
  rq (([]:List Int).length+s_.length≤Zl) <|
  some (([]:List Int)++s_))
def Zdk (l:Int):Option Int:=
 rq (i64 (0 - l)) <|
 some (max l (0 - l))
def Zjn (a:Int) (b:Int):Option Int:=
 (Zdk a).bind fun r1_=>
 (Zdk b).bind fun r2_=>
 rq (i64 (r1_ - r2_)) <|
 some (r1_ - r2_)
def ZkR:Int×(List Int)→Option (Int⊕(List Int)):=fun (k_2,s_2)=>
 rq (0≤k_2∧k_2≤s_2.length) <|
 rq (0≤k_2∧k_2≤(s_2.take k_2.toNat++List.replicate (s_2.length - k_2.toNat) (0:Int)).length) <|
 some (.inr ((s_2.take k_2.toNat++List.replicate (s_2.length - k_2.toNat) (0:Int)).take k_2.toNat))
def ZgE (k_:Int):Int×Int×(List Int)→Option ((Int×Int×(List Int))⊕(Int⊕(List Int))):=fun (k_1,k2_,s_1)=>
 cond (decide (k2_<((s_1.length:Int) - k_))) (
  rq (0≤k2_∧k_+k2_<s_1.length) <|
  rq (i64 (k2_ - (1:Int))) <|
  rq (0≤(k2_ - (1:Int))∧k_+(k2_ - (1:Int))<s_1.length) <|
  cond ((s_1.getD (k_+k2_).toNat 0) != (s_1.getD (k_+(k2_ - (1:Int))).toNat 0)) (
   rq (0≤k2_∧k_+k2_<s_1.length) <|
   rq (0≤k_1∧k_1<s_1.length) <|
   rq (i64 (k_1+(1:Int))) <|
   rq (i64 (k2_+(1:Int))) <|
   some (.inl ((k_1+(1:Int)),(k2_+(1:Int)),(s_1.set k_1.toNat (s_1.getD (k_+k2_).toNat 0))))) (
   rq (i64 (k2_+(1:Int))) <|
   some (.inl (k_1,(k2_+(1:Int)),s_1)))) (
  up (ZkR (k_1,s_1)))
def ZgD (s_:List Int):Int→Option (Int⊕(List Int)):=fun k_=>
 cond (decide (k_<(s_.length:Int))) (
  rq (0≤k_∧k_<s_.length) <|
  rq (i64 (k_ - (1:Int))) <|
  rq (0≤(k_ - (1:Int))∧(k_ - (1:Int))<s_.length) <|
  cond ((s_.getD k_.toNat 0)==(s_.getD (k_ - (1:Int)).toNat 0)) (
   rq (0≤k_∧k_≤s_.length) <|
   loop (ZgE k_) (k_,(1:Int),s_)) (
   rq (i64 (k_+(1:Int))) <|
   some (.inl (k_+(1:Int))))) (
  some (.inr s_))
def Zjx (s_:List Int):Option (List Int):=
 cond (decide ((s_.length:Int)<(2:Int))) (
  some s_) (
  loop (ZgD s_) (1:Int))
def Zll (r5_:(List Int)):Int×(List D6_)→Option ((Int×(List D6_))⊕(Int⊕(Bool×Int×(List D6_)))):=fun (i1,c_0)=>
 cond (decide (i1<(r5_.length:Int))) (
  rq (0≤i1∧i1<r5_.length) <|
  rq (c_0.length+[((1:Int),(r5_.getD i1.toNat 0))].length≤Zl) <|
  rq (i64 (i1+(1:Int))) <|
  some (.inl ((i1+(1:Int)),(c_0++[((1:Int),(r5_.getD i1.toNat 0))])))) (
  some (.inr (.inr (true,(1:Int),c_0))))
def Zlk (lits:List Int):Int→Option (Int⊕(Bool×Int×(List D6_))):=fun i=>
 cond (decide (i<(lits.length:Int))) (
  rq (0≤i∧i<lits.length) <|
  (ZhJ (lits.getD i.toNat 0)).bind fun r1_=>
  cond (!r1_) (
   some (.inr (false,(0:Int),([]:List D6_)))) (
   rq (i64 (0 - (lits.getD i.toNat 0))) <|
   (Zcz lits (0 - (lits.getD i.toNat 0))).bind fun r2_=>
   cond r2_ (
    some (.inr (false,(0:Int),([]:List D6_)))) (
    rq (i64 (i+(1:Int))) <|
    some (.inl (i+(1:Int)))))) (
  (Zbr lits).bind fun r3_=>
  (ZBJ Zjn r3_).bind fun r4_=>
  (Zjx r4_).bind fun r5_=>
  loop (Zll r5_) ((0:Int),([]:List D6_)))
def Zi5 (lits:List Int):Option (Bool×Int×(List D6_)):=
 cond (decide ((40:Int)<(lits.length:Int))) (
  some (false,(0:Int),([]:List D6_))) (
  loop (Zlk lits) (0:Int))
def Zg2 (vars:List Int):Int×(List D6_)→Option ((Int×(List D6_))⊕(Int×(List D6_))):=fun (i,c_0)=>
 cond (decide (i<(vars.length:Int))) (
  rq (0≤i∧i<vars.length) <|
  rq (i64 (0 - (vars.getD i.toNat 0))) <|
  rq (c_0.length+[((1:Int),(0 - (vars.getD i.toNat 0)))].length≤Zl) <|
  rq (i64 (i+(1:Int))) <|
  some (.inl ((i+(1:Int)),(c_0++[((1:Int),(0 - (vars.getD i.toNat 0)))])))) (
  some (.inr (((vars.length:Int) - (1:Int)),c_0)))
def ZkG (vars:List Int):Option (Int×(List D6_)):=
 rq (i64 ((vars.length:Int) - (1:Int))) <|
 loop (Zg2 vars) ((0:Int),([]:List D6_))
def Zi1 (c_:(List D6_)×Int):Int×Int→Option ((Int×Int)⊕Bool):=fun (before,i)=>
 cond (decide (i<(c_.1.length:Int))) (
  rq (0≤i∧i<c_.1.length) <|
  (ZhJ (c_.1.getD i.toNat (0,0)).2).bind fun r1_=>
  cond (!r1_) (
   some (.inr false)) (
   (Zdk (c_.1.getD i.toNat (0,0)).2).bind fun r2_=>
   cond (decide (r2_≤before)) (
    some (.inr false)) (
    (ZbB (c_.1.getD i.toNat (0,0)).1 (1:Int) (1000:Int)).bind fun r3_=>
    cond (!r3_) (
     some (.inr false)) (
     (Zdk (c_.1.getD i.toNat (0,0)).2).bind fun r4_=>
     rq (i64 (i+(1:Int))) <|
     some (.inl (r4_,(i+(1:Int)))))))) (
  (ZbB c_.2 (0:Int) (20000:Int)).bind fun r5_=>
  some (.inr r5_))
def Z5 (c_:(List D6_)×Int):Option Bool:=
 loop (Zi1 c_) ((0:Int),(0:Int))
def Zc8 (c_1:Int) (o0:List D6_):Option (Bool×Int×(List D6_)):=
 (Z5 (o0,c_1)).bind fun r1_=>
 cond (!r1_) (
  some (false,(0:Int),([]:List D6_))) (
  some (true,c_1,o0))
def Zod:Int×(List D6_)→Option (Bool×Int×(List D6_)):=fun (i9,i_03)=>
 (Zc8 (max (0:Int) i9) i_03).bind fun r1_=>
 some (r1_.1,r1_.2.1,r1_.2.2)
def Zoe (i5:Int) (i6:Int):Int×(List D6_)→Option ((Int×Int×(List D6_))⊕(Bool×Int×(List D6_))):=fun (i8,i_02)=>
 rq (i64 (i5 - i8)) <|
 rq (i64 (i6+(1:Int))) <|
 some (.inl ((i5 - i8),(i6+(1:Int)),i_02))
def ZfV (i4:List Int):Int×Int×(List D6_)→Option ((Int×Int×(List D6_))⊕(Bool×Int×(List D6_))):=fun (i5,i6,i_01)=>
 cond (decide (i6<(13:Int))) (
  rq ((0≤i6∧i6<13)∧13≤[(i4.getD 0 0),(i4.getD 1 0),(i4.getD 2 0),(i4.getD 3 0),(i4.getD 4 0),(i4.getD 5 0),(i4.getD 6 0),(i4.getD 7 0),(i4.getD 8 0),(i4.getD 9 0),(i4.getD 10 0),(i4.getD 11 0),(i4.getD 12 0)].length) <|
  cond (decide ((0:Int)<([(i4.getD 0 0),(i4.getD 1 0),(i4.getD 2 0),(i4.getD 3 0),(i4.getD 4 0),(i4.getD 5 0),(i4.getD 6 0),(i4.getD 7 0),(i4.getD 8 0),(i4.getD 9 0),(i4.getD 10 0),(i4.getD 11 0),(i4.getD 12 0)].getD i6.toNat 0))) (
   rq (i_01.length+[(([(i4.getD 0 0),(i4.getD 1 0),(i4.getD 2 0),(i4.getD 3 0),(i4.getD 4 0),(i4.getD 5 0),(i4.getD 6 0),(i4.getD 7 0),(i4.getD 8 0),(i4.getD 9 0),(i4.getD 10 0),(i4.getD 11 0),(i4.getD 12 0)].getD i6.toNat 0),i6)].length≤Zl) <|
   rq (i64 (i6+(1:Int))) <|
   some (.inl (i5,(i6+(1:Int)),(i_01++[(([(i4.getD 0 0),(i4.getD 1 0),(i4.getD 2 0),(i4.getD 3 0),(i4.getD 4 0),(i4.getD 5 0),(i4.getD 6 0),(i4.getD 7 0),(i4.getD 8 0),(i4.getD 9 0),(i4.getD 10 0),(i4.getD 11 0),(i4.getD 12 0)].getD i6.toNat 0),i6)])))) (
   cond (decide (([(i4.getD 0 0),(i4.getD 1 0),(i4.getD 2 0),(i4.getD 3 0),(i4.getD 4 0),(i4.getD 5 0),(i4.getD 6 0),(i4.getD 7 0),(i4.getD 8 0),(i4.getD 9 0),(i4.getD 10 0),(i4.getD 11 0),(i4.getD 12 0)].getD i6.toNat 0)<(0:Int))) (
    rq (i64 (0 - ([(i4.getD 0 0),(i4.getD 1 0),(i4.getD 2 0),(i4.getD 3 0),(i4.getD 4 0),(i4.getD 5 0),(i4.getD 6 0),(i4.getD 7 0),(i4.getD 8 0),(i4.getD 9 0),(i4.getD 10 0),(i4.getD 11 0),(i4.getD 12 0)].getD i6.toNat 0))) <|
    rq (i64 (0 - i6)) <|
    rq (i_01.length+[((0 - ([(i4.getD 0 0),(i4.getD 1 0),(i4.getD 2 0),(i4.getD 3 0),(i4.getD 4 0),(i4.getD 5 0),(i4.getD 6 0),(i4.getD 7 0),(i4.getD 8 0),(i4.getD 9 0),(i4.getD 10 0),(i4.getD 11 0),(i4.getD 12 0)].getD i6.toNat 0)),(0 - i6))].length≤Zl) <|
    Zoe i5 i6 (([(i4.getD 0 0),(i4.getD 1 0),(i4.getD 2 0),(i4.getD 3 0),(i4.getD 4 0),(i4.getD 5 0),(i4.getD 6 0),(i4.getD 7 0),(i4.getD 8 0),(i4.getD 9 0),(i4.getD 10 0),(i4.getD 11 0),(i4.getD 12 0)].getD i6.toNat 0),(i_01++[((0 - ([(i4.getD 0 0),(i4.getD 1 0),(i4.getD 2 0),(i4.getD 3 0),(i4.getD 4 0),(i4.getD 5 0),(i4.getD 6 0),(i4.getD 7 0),(i4.getD 8 0),(i4.getD 9 0),(i4.getD 10 0),(i4.getD 11 0),(i4.getD 12 0)].getD i6.toNat 0)),(0 - i6))]))) (
    rq (i64 (i6+(1:Int))) <|
    some (.inl (i5,(i6+(1:Int)),i_01))))) (
  up (Zod (i5,i_01)))
def ZkH:Int×(List Int)→Option (Bool×Int×(List D6_)):=fun (i3,i4)=>
 rq ((0:Int)=0∧0=0∧13≤i4.length) <|
 loop (ZfV i4) (i3,(0:Int),([]:List D6_))
def ZhK (a0:List D6_):Int×Int×(List Int)→Option ((Int×Int×(List Int))⊕(Bool×Int×(List D6_))):=fun (i,i1,i2)=>
 cond (decide (i1<(a0.length:Int))) (
  rq (0≤i1∧i1<a0.length) <|
  cond (decide ((a0.getD i1.toNat (0,0)).2<(0:Int))) (
   rq (i64 (i - (a0.getD i1.toNat (0,0)).1)) <|
   rq (i64 (0 - (a0.getD i1.toNat (0,0)).2)) <|
   rq ((0:Int)=0∧(0≤(0 - (a0.getD i1.toNat (0,0)).2)∧(0 - (a0.getD i1.toNat (0,0)).2)<13)∧13≤i2.length) <|
   rq (i64 ((i2.getD (0 - (a0.getD i1.toNat (0,0)).2).toNat 0) - (a0.getD i1.toNat (0,0)).1)) <|
   rq ((0:Int)=0∧(0≤(0 - (a0.getD i1.toNat (0,0)).2)∧(0 - (a0.getD i1.toNat (0,0)).2)<13)∧13≤i2.length) <|
   rq (i64 (i1+(1:Int))) <|
   some (.inl ((i - (a0.getD i1.toNat (0,0)).1),(i1+(1:Int)),(i2.set (0 - (a0.getD i1.toNat (0,0)).2).toNat ((i2.getD (0 - (a0.getD i1.toNat (0,0)).2).toNat 0) - (a0.getD i1.toNat (0,0)).1))))) (
   rq ((0:Int)=0∧(0≤(a0.getD i1.toNat (0,0)).2∧(a0.getD i1.toNat (0,0)).2<13)∧13≤i2.length) <|
   rq (i64 ((i2.getD (a0.getD i1.toNat (0,0)).2.toNat 0)+(a0.getD i1.toNat (0,0)).1)) <|
   rq ((0:Int)=0∧(0≤(a0.getD i1.toNat (0,0)).2∧(a0.getD i1.toNat (0,0)).2<13)∧13≤i2.length) <|
   rq (i64 (i1+(1:Int))) <|
   some (.inl (i,(i1+(1:Int)),(i2.set (a0.getD i1.toNat (0,0)).2.toNat ((i2.getD (a0.getD i1.toNat (0,0)).2.toNat 0)+(a0.getD i1.toNat (0,0)).1)))))) (
  up (ZkH (i,i2)))
def ZhG (a0:List D6_) (a1:Int):Option (Bool×Int×(List D6_)):=
 loop (ZhK a0) (a1,(0:Int),(List.replicate 13 0))
def Ziv (s1_:List Int) (s2_:List Int):Int→Option (Int⊕Bool):=fun i=>
 cond (decide (i<(s1_.length:Int))) (
  rq (0≤i∧i<s1_.length) <|
  rq (0≤i∧i<s2_.length) <|
  cond ((s1_.getD i.toNat 0) != (s2_.getD i.toNat 0)) (
   some (.inr false)) (
   rq (i64 (i+(1:Int))) <|
   some (.inl (i+(1:Int))))) (
  some (.inr true))
def Zly (s1_:List Int) (s2_:List Int):Option Bool:=
 cond ((s1_.length:Int) != (s2_.length:Int)) (
  some false) (
  loop (Ziv s1_ s2_) (0:Int))
def ZoH (row:List Int) (o0:List Int):Option Bool:=
 (Zly row o0).bind fun r1_=>
 some r1_
def Zbm (s_:List (List Int)) (o0:List Int):Int→Option (Int⊕Int):=fun i=>
 cond (decide (i<(s_.length:Int))) (
  rq (0≤i∧i<s_.length) <|
  (ZoH (s_.getD i.toNat []) o0).bind fun r1_=>
  cond r1_ (
   some (.inr i)) (
   rq (i64 (i+(1:Int))) <|
   some (.inl (i+(1:Int))))) (
  some (.inr (-1:Int)))
def Zdn (s_:List (List Int)) (o0:List Int):Option Int:=
 loop (Zbm s_ o0) (0:Int)
def ZcR (s_:List (List Int)) (o0:List Int):Option Bool:=
 (Zdn s_ o0).bind fun r1_=>
 some (decide ((0:Int)≤r1_))
def ZnH (r_:Int×(List Int)×(List Int)×Int×(List (List Int))) (vals:List Int):Int×Int→Option ((Int×Int)⊕Bool):=fun (sum,i)=>
 cond (decide (i<(vals.length:Int))) (
  rq (0≤i∧i<vals.length) <|
  rq (0≤i∧i<r_.2.2.1.length) <|
  rq (i64 ((r_.2.2.1.getD i.toNat 0)*(vals.getD i.toNat 0))) <|
  rq (i64 (sum+((r_.2.2.1.getD i.toNat 0)*(vals.getD i.toNat 0)))) <|
  rq (i64 (i+(1:Int))) <|
  some (.inl ((sum+((r_.2.2.1.getD i.toNat 0)*(vals.getD i.toNat 0))),(i+(1:Int))))) (
  some (.inr (decide (r_.2.2.2.1≤sum))))
def Zgo (vals:List Int):Int→Option (Int⊕Bool):=fun i1=>
 cond (decide (i1<(vals.length:Int))) (
  rq (0≤i1∧i1<vals.length) <|
  rq (0≤i1∧i1≤vals.length) <|
  (Zcz (vals.take i1.toNat) (vals.getD i1.toNat 0)).bind fun r1_=>
  cond r1_ (
   some (.inr false)) (
   rq (i64 (i1+(1:Int))) <|
   some (.inl (i1+(1:Int))))) (
  some (.inr true))
def Zjo (r_:Int×(List Int)×(List Int)×Int×(List (List Int))) (vals:List Int):Option Bool:=
 cond (r_.1==(1:Int)) (
  loop (ZnH r_ vals) ((0:Int),(0:Int))) (
  cond (r_.1==(2:Int)) (
   loop (Zgo vals) (0:Int)) (
   cond (r_.1==(3:Int)) (
    (ZcR r_.2.2.2.2 vals).bind fun r2_=>
    some r2_) (
    rq (0≤(0:Int)∧(0:Int)<vals.length) <|
    rq (0≤(1:Int)∧(1:Int)<vals.length) <|
    some (decide ((vals.getD (0:Int).toNat 0)<(vals.getD (1:Int).toNat 0))))))
def Zcq (o4:List D7_):(List Int)→Option (Bool×(List D7_)):=fun lits1=>
 (Zi5 lits1).bind fun r5_=>
 rq (o4.length+[(r5_.2.2,r5_.2.1)].length≤Zl) <|
 some (true,(o4++[(r5_.2.2,r5_.2.1)]))
def Zcr (o0:Int×(List Int)×(List Int)×Int×(List (List Int))) (o1:(List Int)×(List D5_)) (vals:List Int) (o4:List D7_):Int×(List Int)→Option ((Int×(List Int))⊕(Bool×(List D7_))):=fun (i,lits)=>
 cond (decide (i<(o0.2.1.length:Int))) (
  rq (0≤i∧i<o0.2.1.length) <|
  rq (0≤i∧i<vals.length) <|
  (Zdr o1 (o0.2.1.getD i.toNat 0) (vals.getD i.toNat 0)).bind fun r4_=>
  rq (i64 (0 - r4_)) <|
  rq (lits.length+[(0 - r4_)].length≤Zl) <|
  rq (i64 (i+(1:Int))) <|
  some (.inl ((i+(1:Int)),(lits++[(0 - r4_)])))) (
  up (Zcq o4 lits))
def ZdV (o0:Int×(List Int)×(List Int)×Int×(List (List Int))) (o1:(List Int)×(List D5_)) (vals:List Int) (o4:List D7_):Option (Bool×(List D7_)):=
 (Zjo o0 vals).bind fun r1_=>
 cond (!r1_) (
  loop (Zcr o0 o1 vals o4) ((0:Int),([]:List Int))) (
  some (true,o4))
def Zb2 (r3_:Bool×(List D7_)):Int×(List Int)→Option (((List Int)×(List D7_))⊕(List D7_)):=fun (i3,cells4)=>
 cond (decide (i3<(0:Int))) (
  some (.inr r3_.2)) (
  rq (0≤i3∧i3<cells4.length) <|
  rq (i64 ((cells4.getD i3.toNat 0)+(1:Int))) <|
  rq (0≤i3∧i3<cells4.length) <|
  some (.inl ((cells4.set i3.toNat ((cells4.getD i3.toNat 0)+(1:Int))),r3_.2)))
def ZcW (sizes:List Int) (r3_:Bool×(List D7_)):Int×(List Int)→Option ((Int×(List Int))⊕(((List Int)×(List D7_))⊕(List D7_))):=fun (i2,cells3)=>
 cond (decide ((0:Int)≤i2)) (
  rq (0≤i2∧i2<cells3.length) <|
  rq (0≤i2∧i2<sizes.length) <|
  cond ((cells3.getD i2.toNat 0)==(sizes.getD i2.toNat 0)) (
   rq (0≤i2∧i2<cells3.length) <|
   rq (i64 (i2 - (1:Int))) <|
   some (.inl ((i2 - (1:Int)),(cells3.set i2.toNat (0:Int))))) (
   up (Zb2 r3_ (i2,cells3)))) (
  up (Zb2 r3_ (i2,cells3)))
def Zb3 (sizes:List Int) (o0:Int×(List Int)×(List Int)×Int×(List (List Int))) (o1:(List Int)×(List D5_)):(List Int)×(List D7_)→Option (((List Int)×(List D7_))⊕(List D7_)):=fun (cells2,cap)=>
 (ZdV o0 o1 cells2 cap).bind fun r3_=>
 cond r3_.1 (
  rq (i64 ((cells2.length:Int) - (1:Int))) <|
  loop (ZcW sizes r3_) (((cells2.length:Int) - (1:Int)),cells2)) (
  some (.inr r3_.2))
def Zck (sizes:List Int) (from_:List Int) (o0:Int×(List Int)×(List Int)×Int×(List (List Int))) (o1:(List Int)×(List D5_)):Option (List D7_):=
 (Zbr from_).bind fun r1_=>
 loop (Zb3 sizes o0 o1) (r1_,([]:List D7_))
def Ze9 (a1:Int×(List Int)×(List Int)×Int×(List (List Int))):(List D6_)→Option (List D7_):=fun i6=>
 (ZhG i6 a1.2.2.2.1).bind fun r6_=>
 some [(r6_.2.2,r6_.2.1)]
def Zc9 (a0:(List Int)×(List D5_)) (a1:Int×(List Int)×(List Int)×Int×(List (List Int))) (i:Int):Int×(List D6_)→Option ((Int×(List D6_))⊕((Int×(List D6_))⊕(List D7_))):=fun (i4,i5)=>
 cond (decide (i4<((a0.1.getD (a1.2.1.getD i.toNat 0).toNat 0)+(1:Int)))) (
  rq (0≤i∧i<a1.2.2.1.length) <|
  rq (i64 ((a1.2.2.1.getD i.toNat 0)*i4)) <|
  (Zdr a0 (a1.2.1.getD i.toNat 0) i4).bind fun r5_=>
  rq (i5.length+[(((a1.2.2.1.getD i.toNat 0)*i4),r5_)].length≤Zl) <|
  rq (i64 (i4+(1:Int))) <|
  some (.inl ((i4+(1:Int)),(i5++[(((a1.2.2.1.getD i.toNat 0)*i4),r5_)])))) (
  rq (i64 (i+(1:Int))) <|
  some (.inr (.inl ((i+(1:Int)),i5))))
def ZhY (a0:(List Int)×(List D5_)) (a1:Int×(List Int)×(List Int)×Int×(List (List Int))):Int×(List D6_)→Option ((Int×(List D6_))⊕(List D7_)):=fun (i,i3)=>
 cond (decide (i<(a1.2.1.length:Int))) (
  rq (0≤i∧i<a1.2.1.length) <|
  rq (0≤(a1.2.1.getD i.toNat 0)∧(a1.2.1.getD i.toNat 0)<a0.1.length) <|
  rq (i64 ((a0.1.getD (a1.2.1.getD i.toNat 0).toNat 0)+(1:Int))) <|
  loop (Zc9 a0 a1 i) ((0:Int),i3)) (
  up (Ze9 a1 i3))
def Zd3 (i7:Int) (i11:List D7_):(List Int)→Option ((Int×(List D7_))⊕(List D7_)):=fun i14=>
 cond (decide ((1:Int)<(i14.length:Int))) (
  (ZHN i14).bind fun r14_=>
  (ZkG r14_).bind fun r15_=>
  rq (i11.length+[(r15_.2,r15_.1)].length≤Zl) <|
  rq (i64 (i7+(1:Int))) <|
  some (.inl ((i7+(1:Int)),(i11++[(r15_.2,r15_.1)])))) (
  rq (i64 (i7+(1:Int))) <|
  some (.inl ((i7+(1:Int)),i11)))
def Zd5 (a0:(List Int)×(List D5_)) (a1:Int×(List Int)×(List Int)×Int×(List (List Int))) (i7:Int) (i11:List D7_):Int×(List Int)→Option ((Int×(List Int))⊕((Int×(List D7_))⊕(List D7_))):=fun (i12,i13)=>
 cond (decide (i12<(a1.2.1.length:Int))) (
  rq (0≤i12∧i12<a1.2.1.length) <|
  rq (0≤(a1.2.1.getD i12.toNat 0)∧(a1.2.1.getD i12.toNat 0)<a0.1.length) <|
  cond (decide (i7≤(a0.1.getD (a1.2.1.getD i12.toNat 0).toNat 0))) (
   (Zdr a0 (a1.2.1.getD i12.toNat 0) i7).bind fun r13_=>
   rq (i13.length+[r13_].length≤Zl) <|
   rq (i64 (i12+(1:Int))) <|
   some (.inl ((i12+(1:Int)),(i13++[r13_])))) (
   rq (i64 (i12+(1:Int))) <|
   some (.inl ((i12+(1:Int)),i13)))) (
  up (Zd3 i7 i11 i13))
def ZhZ (a0:(List Int)×(List D5_)) (a1:Int×(List Int)×(List Int)×Int×(List (List Int))):Int×(List D7_)→Option ((Int×(List D7_))⊕(List D7_)):=fun (i7,i11)=>
 cond (decide (i7<(4:Int))) (
  loop (Zd5 a0 a1 i7 i11) ((0:Int),([]:List Int))) (
  some (.inr i11))
def Zd4 (a0:(List Int)×(List D5_)) (a1:Int×(List Int)×(List Int)×Int×(List (List Int))):(List Int)→Option (List D7_):=fun i17=>
 rq (0≤(i17.length:Int)∧(i17.length:Int)≤Zl∧(i17.length:Int)=(i17.length:Int)) <|
 (Zck i17 (List.replicate (i17.length:Int).toNat 0) a1 a0).bind fun r16_=>
 some r16_
def Zd6 (a0:(List Int)×(List D5_)) (a1:Int×(List Int)×(List Int)×Int×(List (List Int))):Int×(List Int)→Option ((Int×(List Int))⊕(List D7_)):=fun (i15,i16)=>
 cond (decide (i15<(a1.2.1.length:Int))) (
  rq (0≤i15∧i15<a1.2.1.length) <|
  rq (0≤(a1.2.1.getD i15.toNat 0)∧(a1.2.1.getD i15.toNat 0)<a0.1.length) <|
  rq (i16.length+[(a0.1.getD (a1.2.1.getD i15.toNat 0).toNat 0)].length≤Zl) <|
  rq (i64 (i15+(1:Int))) <|
  some (.inl ((i15+(1:Int)),(i16++[(a0.1.getD (a1.2.1.getD i15.toNat 0).toNat 0)])))) (
  up (Zd4 a0 a1 i16))
def Zb7 (a0:(List Int)×(List D5_)) (a1:Int×(List Int)×(List Int)×Int×(List (List Int))):Option (List D7_):=
 cond (a1.1==(1:Int)) (
  loop (ZhY a0 a1) ((0:Int),([]:List D6_))) (
  cond (a1.1==(2:Int)) (
   loop (ZhZ a0 a1) ((0:Int),([]:List D7_))) (
   loop (Zd6 a0 a1) ((0:Int),([]:List Int))))
def Ziq:(List D7_)→Option (Bool×(List D7_)):=fun out3=>
 cond (decide ((400:Int)<(out3.length:Int))) (
  some (false,([]:List D7_))) (
  some (true,out3))
def Zir (m:(List Int)×(List D5_)):Int×(List D7_)→Option ((Int×(List D7_))⊕(Bool×(List D7_))):=fun (i1,out2)=>
 cond (decide (i1<(m.2.length:Int))) (
  rq (0≤i1∧i1<m.2.length) <|
  (Zb7 m (m.2.getD i1.toNat (0,([],([],(0,[])))))).bind fun r10_=>
  rq (out2.length+r10_.length≤Zl) <|
  rq (i64 (i1+(1:Int))) <|
  some (.inl ((i1+(1:Int)),(out2++r10_)))) (
  up (Ziq out2))
def Zip (m:(List Int)×(List D5_)):(List D7_)→Option (Bool×(List D7_)):=fun out1=>
 loop (Zir m) ((0:Int),out1)
def Zis (m:(List Int)×(List D5_)):Int×(List D7_)→Option ((Int×(List D7_))⊕(Bool×(List D7_))):=fun (i,out)=>
 cond (decide (i<(m.1.length:Int))) (
  (ZgZ m i).bind fun r6_=>
  (Zi5 r6_).bind fun r7_=>
  (ZkG r6_).bind fun r8_=>
  rq (out.length+[(r7_.2.2,r7_.2.1),(r8_.2,r8_.1)].length≤Zl) <|
  rq (i64 (i+(1:Int))) <|
  some (.inl ((i+(1:Int)),(out++[(r7_.2.2,r7_.2.1),(r8_.2,r8_.1)])))) (
  up (Zip m out))
def Zlo (m:(List Int)×(List D5_)):Option (Bool×(List D7_)):=
 (Zeu m).bind fun r1_=>
 cond (!r1_) (
  some (false,([]:List D7_))) (
  loop (Zis m) ((0:Int),([]:List D7_)))
def ZnI (m:(List Int)×(List D5_)):Option (Bool×(List D7_)):=
 (Zlo m).bind fun r1_=>
 cond r1_.1 (
  some ((decide ((r1_.2.length:Int)<(400:Int))),r1_.2)) (
  some (false,r1_.2))
def Zjm (m:(List Int)×(List D5_)) (cells:List Int):Int→Option (Int⊕Bool):=fun i=>
 cond (decide (i<(cells.length:Int))) (
  rq (0≤i∧i<cells.length) <|
  rq (0≤i∧i<m.1.length) <|
  (ZbB (cells.getD i.toNat 0) (0:Int) (m.1.getD i.toNat 0)).bind fun r2_=>
  cond (!r2_) (
   some (.inr false)) (
   rq (i64 (i+(1:Int))) <|
   some (.inl (i+(1:Int))))) (
  some (.inr true))
def Zjl (m:(List Int)×(List D5_)) (cells:List Int):Option Bool:=
 (Zeu m).bind fun r1_=>
 cond (!r1_) (
  some false) (
  cond ((cells.length:Int) != (m.1.length:Int)) (
   some false) (
   loop (Zjm m cells) (0:Int)))
def ZqY (r_:Int×(List Int)×(List Int)×Int×(List (List Int))):(List Int)→Option Bool:=fun vals1=>
 (Zjo r_ vals1).bind fun r1_=>
 some r1_
def ZmY (r_:Int×(List Int)×(List Int)×Int×(List (List Int))) (cells:List Int):Int×(List Int)→Option ((Int×(List Int))⊕Bool):=fun (i,vals)=>
 cond (decide (i<(r_.2.1.length:Int))) (
  rq (0≤i∧i<r_.2.1.length) <|
  rq (0≤(r_.2.1.getD i.toNat 0)∧(r_.2.1.getD i.toNat 0)<cells.length) <|
  rq (vals.length+[(cells.getD (r_.2.1.getD i.toNat 0).toNat 0)].length≤Zl) <|
  rq (i64 (i+(1:Int))) <|
  some (.inl ((i+(1:Int)),(vals++[(cells.getD (r_.2.1.getD i.toNat 0).toNat 0)])))) (
  up (ZqY r_ vals))
def ZqX (r_:Int×(List Int)×(List Int)×Int×(List (List Int))) (cells:List Int):Option Bool:=
 loop (ZmY r_ cells) ((0:Int),([]:List Int))
def ZmE (r_:Int×(List Int)×(List Int)×Int×(List (List Int))) (o0:List Int):Option Bool:=
 (ZqX r_ o0).bind fun r1_=>
 some (!r1_)
def Z7 (s_:List D5_) (o0:List Int):Int→Option (Int⊕Int):=fun i=>
 cond (decide (i<(s_.length:Int))) (
  rq (0≤i∧i<s_.length) <|
  (ZmE (s_.getD i.toNat (0,([],([],(0,[]))))) o0).bind fun r1_=>
  cond r1_ (
   some (.inr i)) (
   rq (i64 (i+(1:Int))) <|
   some (.inl (i+(1:Int))))) (
  some (.inr (-1:Int)))
def ZcD (s_:List D5_) (o0:List Int):Option Int:=
 loop (Z7 s_ o0) (0:Int)
def Zcm (s_:List D5_) (o0:List Int):Option Bool:=
 (ZcD s_ o0).bind fun r1_=>
 some (decide ((0:Int)≤r1_))
def ZgY (m:(List Int)×(List D5_)) (cells:List Int):Option Bool:=
 (Zcm m.2 cells).bind fun r1_=>
 some (!r1_)
def Zlp (m:(List Int)×(List D5_)) (cells:List Int):Option Bool:=
 (Zjl m cells).bind fun r1_=>
 cond r1_ (
  (ZgY m cells).bind fun r2_=>
  some r2_) (
  some false)
def ZnJ (n:Int):Option Bool:=
 (ZbB n (-9:Int) (9:Int)).bind fun r1_=>
 some (!r1_)
def Zbo (s_:List Int):Int→Option (Int⊕Int):=fun i=>
 cond (decide (i<(s_.length:Int))) (
  rq (0≤i∧i<s_.length) <|
  (ZnJ (s_.getD i.toNat 0)).bind fun r1_=>
  cond r1_ (
   some (.inr i)) (
   rq (i64 (i+(1:Int))) <|
   some (.inl (i+(1:Int))))) (
  some (.inr (-1:Int)))
def Zdv (s_:List Int):Option Int:=
 loop (Zbo s_) (0:Int)
def ZcX (s_:List Int):Option Bool:=
 (Zdv s_).bind fun r1_=>
 some (decide ((0:Int)≤r1_))
def Zd7 (m:(List Int)×(List D5_)) (coefs:List Int):Option Bool:=
 cond ((coefs.length:Int)==(m.1.length:Int)) (
  (ZcX coefs).bind fun r1_=>
  some (!r1_)) (
  some false)
def Zq1 (coefs:List Int) (cells:List Int):Int×Int→Option ((Int×Int)⊕Int):=fun (sum,i)=>
 cond (decide (i<(cells.length:Int))) (
  rq (0≤i∧i<cells.length) <|
  rq (0≤i∧i<coefs.length) <|
  rq (i64 ((coefs.getD i.toNat 0)*(cells.getD i.toNat 0))) <|
  rq (i64 (sum+((coefs.getD i.toNat 0)*(cells.getD i.toNat 0)))) <|
  rq (i64 (i+(1:Int))) <|
  some (.inl ((sum+((coefs.getD i.toNat 0)*(cells.getD i.toNat 0))),(i+(1:Int))))) (
  some (.inr sum))
def Zfc (coefs:List Int) (cells:List Int):Option Int:=
 loop (Zq1 coefs cells) ((0:Int),(0:Int))
def ZhX (most:Int):(List D6_)→Option (Bool×Int×(List D6_)):=fun terms3=>
 rq (i64 (0 - most)) <|
 (ZhG terms3 (0 - most)).bind fun r9_=>
 some (r9_.1,r9_.2.1,r9_.2.2)
def Ze4 (m:(List Int)×(List D5_)) (coefs:List Int) (i:Int):Int×(List D6_)→Option ((Int×(List D6_))⊕((Int×(List D6_))⊕(Bool×Int×(List D6_)))):=fun (i2,terms2)=>
 cond (decide (i2<((m.1.getD i.toNat 0)+(1:Int)))) (
  rq (0≤i∧i<coefs.length) <|
  rq (i64 (0 - (coefs.getD i.toNat 0))) <|
  rq (i64 ((0 - (coefs.getD i.toNat 0))*i2)) <|
  (Zdr m i i2).bind fun r8_=>
  rq (terms2.length+[(((0 - (coefs.getD i.toNat 0))*i2),r8_)].length≤Zl) <|
  rq (i64 (i2+(1:Int))) <|
  some (.inl ((i2+(1:Int)),(terms2++[(((0 - (coefs.getD i.toNat 0))*i2),r8_)])))) (
  rq (i64 (i+(1:Int))) <|
  some (.inr (.inl ((i+(1:Int)),terms2))))
def Ze3 (m:(List Int)×(List D5_)) (coefs:List Int) (most:Int):Int×(List D6_)→Option ((Int×(List D6_))⊕(Bool×Int×(List D6_))):=fun (i,terms1)=>
 cond (decide (i<(m.1.length:Int))) (
  rq (0≤i∧i<m.1.length) <|
  rq (i64 ((m.1.getD i.toNat 0)+(1:Int))) <|
  loop (Ze4 m coefs i) ((0:Int),terms1)) (
  up (ZhX most terms1))
def ZdY (m:(List Int)×(List D5_)) (coefs:List Int) (most:Int):Option (Bool×Int×(List D6_)):=
 (Zeu m).bind fun r1_=>
 cond (!r1_) (
  some (false,(0:Int),([]:List D6_))) (
  (Zd7 m coefs).bind fun r2_=>
  cond (!r2_) (
   some (false,(0:Int),([]:List D6_))) (
   (ZbB most (-1000:Int) (1000:Int)).bind fun r3_=>
   cond (!r3_) (
    some (false,(0:Int),([]:List D6_))) (
    loop (Ze3 m coefs most) ((0:Int),([]:List D6_)))))
def Zbg (s_:List D7_):Option (List D7_):=
 nt (s_=[]) (
  some ([]:List D7_)) (
  rq (([]:List D7_).length+s_.length≤Zl) <|
  some (([]:List D7_)++s_))
def ZqZ (c_:(List D6_)×Int):Option Bool:=
 (Z5 c_).bind fun r1_=>
 some (!r1_)
def Z2 (s_:List D7_):Int→Option (Int⊕Int):=fun i=>
 cond (decide (i<(s_.length:Int))) (
  rq (0≤i∧i<s_.length) <|
  (ZqZ (s_.getD i.toNat ([],0))).bind fun r1_=>
  cond r1_ (
   some (.inr i)) (
   rq (i64 (i+(1:Int))) <|
   some (.inl (i+(1:Int))))) (
  some (.inr (-1:Int)))
def Zcv (s_:List D7_):Option Int:=
 loop (Z2 s_) (0:Int)
def Zcb (s_:List D7_):Option Bool:=
 (Zcv s_).bind fun r1_=>
 some (decide ((0:Int)≤r1_))
def Zto (list_:List D7_):Option Bool:=
 (Zcb list_).bind fun r1_=>
 some (!r1_)
def Zg0 (list_:List D7_):Option Bool:=
 cond (decide ((list_.length:Int)≤(400:Int))) (
  (Zto list_).bind fun r1_=>
  some r1_) (
  some false)
def Zpd (kind:Int):Option (Int×Bool):=
 cond (kind==(1:Int)) (
  some ((2:Int),false)) (
  cond (kind==(2:Int)) (
   some ((1:Int),true)) (
   cond (kind==(3:Int)) (
    some ((1:Int),true)) (
    cond (kind==(5:Int)) (
     some ((1:Int),true)) (
     cond (kind==(4:Int)) (
      some ((1:Int),false)) (
      cond (kind==(8:Int)) (
       some ((1:Int),false)) (
       cond (kind==(6:Int)) (
        some ((0:Int),false)) (
        cond (kind==(7:Int)) (
         some ((0:Int),false)) (
         some ((-1:Int),false)))))))))
def Zhr (s1_:List D6_) (s2_:List D6_):Int→Option (Int⊕Bool):=fun i=>
 cond (decide (i<(s1_.length:Int))) (
  rq (0≤i∧i<s1_.length) <|
  rq (0≤i∧i<s2_.length) <|
  cond (!((s1_.getD i.toNat (0,0)).1==(s2_.getD i.toNat (0,0)).1&&(s1_.getD i.toNat (0,0)).2==(s2_.getD i.toNat (0,0)).2)) (
   some (.inr false)) (
   rq (i64 (i+(1:Int))) <|
   some (.inl (i+(1:Int))))) (
  some (.inr true))
def Zf7 (s1_:List D6_) (s2_:List D6_):Option Bool:=
 cond ((s1_.length:Int) != (s2_.length:Int)) (
  some false) (
  loop (Zhr s1_ s2_) (0:Int))
def Zbz (a:(List D6_)×Int) (b:(List D6_)×Int):Option Bool:=
 cond (a.2==b.2) (
  (Zf7 a.1 b.1).bind fun r1_=>
  some r1_) (
  some false)
def Zlq (s_:Int×Int×Int×(List D6_)×Int):Option Bool:=
 (Zpd s_.1).bind fun r1_=>
 cond (decide ((0:Int)≤r1_.1)) (
  cond (decide ((0:Int)<r1_.1)) (
   cond (r1_.1==(2:Int)) (
    cond (s_.1==(7:Int)) (
     some true) (
     (Zbz s_.2.2.2 (([]:List D6_),(0:Int))).bind fun r10_=>
     some r10_)) (
    cond r1_.2 (
     cond (s_.1==(7:Int)) (
      some true) (
      (Zbz s_.2.2.2 (([]:List D6_),(0:Int))).bind fun r9_=>
      some r9_)) (
     cond (s_.2.2.1==(0:Int)) (
      cond (s_.1==(7:Int)) (
       some true) (
       (Zbz s_.2.2.2 (([]:List D6_),(0:Int))).bind fun r8_=>
       some r8_)) (
      some false)))) (
   cond (s_.1==(6:Int)) (
    cond (r1_.1==(2:Int)) (
     cond (s_.1==(7:Int)) (
      some true) (
      (Zbz s_.2.2.2 (([]:List D6_),(0:Int))).bind fun r7_=>
      some r7_)) (
     cond r1_.2 (
      cond (s_.1==(7:Int)) (
       some true) (
       (Zbz s_.2.2.2 (([]:List D6_),(0:Int))).bind fun r6_=>
       some r6_)) (
      cond (s_.2.2.1==(0:Int)) (
       cond (s_.1==(7:Int)) (
        some true) (
        (Zbz s_.2.2.2 (([]:List D6_),(0:Int))).bind fun r5_=>
        some r5_)) (
       some false)))) (
    cond (s_.2.1==(0:Int)) (
     cond (r1_.1==(2:Int)) (
      cond (s_.1==(7:Int)) (
       some true) (
       (Zbz s_.2.2.2 (([]:List D6_),(0:Int))).bind fun r4_=>
       some r4_)) (
      cond r1_.2 (
       cond (s_.1==(7:Int)) (
        some true) (
        (Zbz s_.2.2.2 (([]:List D6_),(0:Int))).bind fun r3_=>
        some r3_)) (
       cond (s_.2.2.1==(0:Int)) (
        cond (s_.1==(7:Int)) (
         some true) (
         (Zbz s_.2.2.2 (([]:List D6_),(0:Int))).bind fun r2_=>
         some r2_)) (
        some false)))) (
     some false)))) (
  some false)
def ZdZ (i:Int) (o1:List D7_) (o2:List Bool):Option Bool:=
 rq (i64 ((o1.length:Int) - (1:Int))) <|
 (ZbB i (0:Int) ((o1.length:Int) - (1:Int))).bind fun r1_=>
 cond r1_ (
  rq (0≤i∧i<o2.length) <|
  some (!(o2.getD i.toNat false))) (
  some false)
def ZgF (n:Int):Option (List D6_):=
 cond (decide (n<(0:Int))) (
  none) (
  rq (i64 ((0:Int) - (0:Int))) <|
  rq (i64 (n - ((0:Int) - (0:Int)))) <|
  cond (decide ((0:Int)<(n - ((0:Int) - (0:Int))))) (
   rq ((0:Int)=0) <|
   rq (1≤(n - ((0:Int) - (0:Int)))∧(n - ((0:Int) - (0:Int)))≤Zl) <|
   rq (0≤(0:Int)∧(0:Int)≤(List.replicate (n - ((0:Int) - (0:Int))).toNat (0,0)).length) <|
   some ((List.replicate (n - ((0:Int) - (0:Int))).toNat (0,0)).take (0:Int).toNat)) (
   some ([]:List D6_)))
def ZbN (slices:List (List D6_)):Int×(List D6_)→Option ((Int×(List D6_))⊕((Int×Int)⊕(List D6_))):=fun (i1,newslice)=>
 cond (decide (i1<(slices.length:Int))) (
  rq (0≤i1∧i1<slices.length) <|
  rq (newslice.length+(slices.getD i1.toNat []).length≤Zl) <|
  rq (i64 (i1+(1:Int))) <|
  some (.inl ((i1+(1:Int)),(newslice++(slices.getD i1.toNat []))))) (
  some (.inr (.inr newslice)))
def ZbM (slices:List (List D6_)):Int×Int→Option ((Int×Int)⊕(List D6_)):=fun (size,i)=>
 cond (decide (i<(slices.length:Int))) (
  rq (0≤i∧i<slices.length) <|
  rq (i64 (size+((slices.getD i.toNat []).length:Int))) <|
  cond (decide ((size+((slices.getD i.toNat []).length:Int))<(0:Int))) (
   none) (
   rq (i64 (i+(1:Int))) <|
   some (.inl ((size+((slices.getD i.toNat []).length:Int)),(i+(1:Int)))))) (
  (ZgF size).bind fun r1_=>
  loop (ZbN slices) ((0:Int),r1_))
def ZfC (slices:List (List D6_)):Option (List D6_):=
 loop (ZbM slices) ((0:Int),(0:Int))
def ZjQ (a:(List D6_)×Int) (b:(List D6_)×Int):Unit→Option (Bool×Int×(List D6_)):=fun _=>
 (Z5 a).bind fun r1_=>
 cond (!r1_) (
  some (false,(0:Int),([]:List D6_))) (
  (Z5 b).bind fun r2_=>
  cond (!r2_) (
   some (false,(0:Int),([]:List D6_))) (
   rq (i64 (a.2+b.2)) <|
   (ZfC [a.1,b.1]).bind fun r5_=>
   (ZhG r5_ (a.2+b.2)).bind fun r6_=>
   some (r6_.1,r6_.2.1,r6_.2.2)))
def Zio (a:(List D6_)×Int) (b:(List D6_)×Int):Option (Bool×Int×(List D6_)):=
 ZjQ a b ()
def Zf6 (s_:List D6_):Option (List D6_):=
 nt (s_=[]) (
  some ([]:List D6_)) (
  rq (([]:List D6_).length+s_.length≤Zl) <|
  some (([]:List D6_)++s_))
def Zex (c_:(List D6_)×Int):Option (Int×(List D6_)):=
 (Zf6 c_.1).bind fun r1_=>
 some (c_.2,r1_)
def Zch (n:Int) (o0:Int):Option Int:=
 rq (i64 (n*o0)) <|
 some (n*o0)
def Zc7 (c_:(List D6_)×Int):Option (Bool×(List D6_)×Int):=
 (Z5 c_).bind fun r1_=>
 cond (!r1_) (
  some (false,([]:List D6_),(0:Int))) (
  some (true,c_.1,c_.2))
def Zb6 (r2_:Int):(List D6_)→Option (Bool×D7_):=fun out_01=>
 (Zc7 (out_01,r2_)).bind fun r6_=>
 some (r6_.1,r6_.2)
def Zbl (o0:Int) (r1_:Int×(List D6_)) (r2_:Int):Int×(List D6_)→Option ((Int×(List D6_))⊕(Bool×D7_)):=fun (i,out_0)=>
 cond (decide (i<(r1_.2.length:Int))) (
  rq (0≤i∧i<out_0.length) <|
  (Zch (out_0.getD i.toNat (0,0)).1 o0).bind fun r5_=>
  rq (0≤i∧i<out_0.length) <|
  rq (i64 (i+(1:Int))) <|
  some (.inl ((i+(1:Int)),(out_0.set i.toNat (r5_,(out_0.getD i.toNat (0,0)).2))))) (
  up (Zb6 r2_ out_0))
def Zbx (c_:(List D6_)×Int) (o0:Int):Option (Bool×D7_):=
 (Zex c_).bind fun r1_=>
 (Zch c_.2 o0).bind fun r2_=>
 loop (Zbl o0 r1_ r2_) ((0:Int),r1_.2)
def Zfz (c_:(List D6_)×Int) (k_:Int):Option (Bool×(List D6_)×Int):=
 (Z5 c_).bind fun r1_=>
 cond (!r1_) (
  some (false,([]:List D6_),(0:Int))) (
  (ZbB k_ (1:Int) (1000:Int)).bind fun r2_=>
  cond (!r2_) (
   some (false,([]:List D6_),(0:Int))) (
   (Zbx c_ k_).bind fun r3_=>
   some (r3_.1,r3_.2.1,r3_.2.2)))
def Zek (n:Int) (o0:Int):Option Int:=
 rq (i64 (n+o0)) <|
 rq (i64 ((n+o0) - (1:Int))) <|
 rq (1≤o0∧0≤((n+o0) - (1:Int))) <|
 some (((n+o0) - (1:Int)) / o0)
def Zce (r2_:Int):(List D6_)→Option (Bool×D7_):=fun out_01=>
 (Zc7 (out_01,r2_)).bind fun r6_=>
 some (r6_.1,r6_.2)
def Zbs (o0:Int) (r1_:Int×(List D6_)) (r2_:Int):Int×(List D6_)→Option ((Int×(List D6_))⊕(Bool×D7_)):=fun (i,out_0)=>
 cond (decide (i<(r1_.2.length:Int))) (
  rq (0≤i∧i<out_0.length) <|
  (Zek (out_0.getD i.toNat (0,0)).1 o0).bind fun r5_=>
  rq (0≤i∧i<out_0.length) <|
  rq (i64 (i+(1:Int))) <|
  some (.inl ((i+(1:Int)),(out_0.set i.toNat (r5_,(out_0.getD i.toNat (0,0)).2))))) (
  up (Zce r2_ out_0))
def ZbF (c_:(List D6_)×Int) (o0:Int):Option (Bool×D7_):=
 (Zex c_).bind fun r1_=>
 (Zek c_.2 o0).bind fun r2_=>
 loop (Zbs o0 r1_ r2_) ((0:Int),r1_.2)
def ZgA (c_:(List D6_)×Int) (k_:Int):Option (Bool×(List D6_)×Int):=
 (Z5 c_).bind fun r1_=>
 cond (!r1_) (
  some (false,([]:List D6_),(0:Int))) (
  (ZbB k_ (1:Int) (1000:Int)).bind fun r2_=>
  cond (!r2_) (
   some (false,([]:List D6_),(0:Int))) (
   (ZbF c_ k_).bind fun r3_=>
   some (r3_.1,r3_.2.1,r3_.2.2)))
def ZdI (c_:(List D6_)×Int):Int×(List D6_)→Option ((Int×(List D6_))⊕(Bool×Int×(List D6_))):=fun (i,out_0)=>
 cond (decide (i<(c_.1.length:Int))) (
  rq (0≤i∧i<c_.1.length) <|
  rq (out_0.length+[((min (c_.1.getD i.toNat (0,0)).1 c_.2),(c_.1.getD i.toNat (0,0)).2)].length≤Zl) <|
  rq (i64 (i+(1:Int))) <|
  some (.inl ((i+(1:Int)),(out_0++[((min (c_.1.getD i.toNat (0,0)).1 c_.2),(c_.1.getD i.toNat (0,0)).2)])))) (
  some (.inr (true,c_.2,out_0)))
def ZfA (c_:(List D6_)×Int):Option (Bool×Int×(List D6_)):=
 (Z5 c_).bind fun r1_=>
 cond (!r1_) (
  some (false,(0:Int),([]:List D6_))) (
  cond (decide ((0:Int)<c_.2)) (
   loop (ZdI c_) ((0:Int),([]:List D6_))) (
   some (true,c_.2,([]:List D6_))))
def Zfb (c_:(List D6_)×Int) (variable_:Int):Int×Int×(List D6_)→Option ((Int×Int×(List D6_))⊕(Bool×Int×(List D6_))):=fun (i,out_1,out_0)=>
 cond (decide (i<(c_.1.length:Int))) (
  rq (0≤i∧i<c_.1.length) <|
  (Zdk (c_.1.getD i.toNat (0,0)).2).bind fun r4_=>
  cond (r4_==variable_) (
   rq (i64 (c_.2 - (c_.1.getD i.toNat (0,0)).1)) <|
   rq (i64 (i+(1:Int))) <|
   some (.inl ((i+(1:Int)),(max (0:Int) (c_.2 - (c_.1.getD i.toNat (0,0)).1)),out_0))) (
   rq (out_0.length+[(c_.1.getD i.toNat (0,0))].length≤Zl) <|
   rq (i64 (i+(1:Int))) <|
   some (.inl ((i+(1:Int)),out_1,(out_0++[(c_.1.getD i.toNat (0,0))]))))) (
  some (.inr (true,out_1,out_0)))
def ZgB (c_:(List D6_)×Int) (variable_:Int):Option (Bool×Int×(List D6_)):=
 (Z5 c_).bind fun r1_=>
 cond (!r1_) (
  some (false,(0:Int),([]:List D6_))) (
  (ZbB variable_ (1:Int) (12:Int)).bind fun r2_=>
  cond (!r2_) (
   some (false,(0:Int),([]:List D6_))) (
   loop (Zfb c_ variable_) ((0:Int),c_.2,([]:List D6_))))
def Zj6 (lit:Int):Option (Bool×Int×(List D6_)):=
 (ZhJ lit).bind fun r1_=>
 cond (!r1_) (
  some (false,(0:Int),([]:List D6_))) (
  some (true,(0:Int),[((1:Int),lit)]))
def ZeX (o1:List D7_) (o2:List Bool):Int×(List D7_)→Option ((Int×(List D7_))⊕(List D7_)):=fun (i,out)=>
 cond (decide (i<(o1.length:Int))) (
  rq (0≤i∧i<o1.length) <|
  rq (0≤i∧i<o2.length) <|
  cond (!(o2.getD i.toNat false)) (
   rq (out.length+[(o1.getD i.toNat ([],0))].length≤Zl) <|
   rq (i64 (i+(1:Int))) <|
   some (.inl ((i+(1:Int)),(out++[(o1.getD i.toNat ([],0))])))) (
   rq (i64 (i+(1:Int))) <|
   some (.inl ((i+(1:Int)),out)))) (
  some (.inr out))
def Zf4 (o1:List D7_) (o2:List Bool):Option (List D7_):=
 loop (ZeX o1 o2) ((0:Int),([]:List D7_))
def Ze8 (c_:(List D6_)×Int):Int×Int→Option ((Int×Int)⊕Int):=fun (sum,i)=>
 cond (decide (i<(c_.1.length:Int))) (
  rq (0≤i∧i<c_.1.length) <|
  rq (i64 (sum+(c_.1.getD i.toNat (0,0)).1)) <|
  rq (i64 (i+(1:Int))) <|
  some (.inl ((sum+(c_.1.getD i.toNat (0,0)).1),(i+(1:Int))))) (
  some (.inr sum))
def ZeP (c_:(List D6_)×Int):Option Int:=
 loop (Ze8 c_) ((0:Int),(0:Int))
def Zgl (c_:(List D6_)×Int) (i:Int) (out_0:List D6_):Unit→Option ((Int×(List D6_))⊕(Int×(List D6_))):=fun _=>
 rq (i64 (0 - (c_.1.getD i.toNat (0,0)).2)) <|
 rq (out_0.length+[((c_.1.getD i.toNat (0,0)).1,(0 - (c_.1.getD i.toNat (0,0)).2))].length≤Zl) <|
 rq (i64 (i+(1:Int))) <|
 some (.inl ((i+(1:Int)),(out_0++[((c_.1.getD i.toNat (0,0)).1,(0 - (c_.1.getD i.toNat (0,0)).2))])))
def Zdq (c_:(List D6_)×Int) (out_1:Int):Int×(List D6_)→Option ((Int×(List D6_))⊕(Int×(List D6_))):=fun (i,out_0)=>
 cond (decide (i<(c_.1.length:Int))) (
  rq (0≤i∧i<c_.1.length) <|
  Zgl c_ i out_0 ()) (
  some (.inr (out_1,out_0)))
def Zgk (c_:(List D6_)×Int):Int→Option (Int×(List D6_)):=fun out_1=>
 loop (Zdq c_ out_1) ((0:Int),([]:List D6_))
def Zgj (c_:(List D6_)×Int):Unit→Option (Int×(List D6_)):=fun _=>
 (ZeP c_).bind fun r2_=>
 rq (i64 (r2_ - c_.2)) <|
 rq (i64 ((r2_ - c_.2)+(1:Int))) <|
 Zgk c_ (max (0:Int) ((r2_ - c_.2)+(1:Int)))
def Ze6 (c_:(List D6_)×Int):Option (Int×(List D6_)):=
 Zgj c_ ()
def Zq0 (l:Int) (p:List Int):Option Int:=
 cond (decide (l<(0:Int))) (
  rq (i64 (0 - l)) <|
  rq (i64 ((0 - l) - (1:Int))) <|
  rq (0≤((0 - l) - (1:Int))∧((0 - l) - (1:Int))<p.length) <|
  rq (i64 (0 - (p.getD ((0 - l) - (1:Int)).toNat 0))) <|
  some (0 - (p.getD ((0 - l) - (1:Int)).toNat 0))) (
  rq (i64 (l - (1:Int))) <|
  rq (0≤(l - (1:Int))∧(l - (1:Int))<p.length) <|
  some (p.getD (l - (1:Int)).toNat 0))
def Ze7 (c_:(List D6_)×Int) (p:List Int):Int×Int→Option ((Int×Int)⊕Int):=fun (out,i)=>
 cond (decide (i<(c_.1.length:Int))) (
  rq (0≤i∧i<c_.1.length) <|
  (Zq0 (c_.1.getD i.toNat (0,0)).2 p).bind fun r1_=>
  cond (decide ((0:Int)≤r1_)) (
   rq (i64 (out+(c_.1.getD i.toNat (0,0)).1)) <|
   rq (i64 (i+(1:Int))) <|
   some (.inl ((out+(c_.1.getD i.toNat (0,0)).1),(i+(1:Int))))) (
   rq (i64 (i+(1:Int))) <|
   some (.inl (out,(i+(1:Int)))))) (
  some (.inr out))
def ZeO (c_:(List D6_)×Int) (p:List Int):Option Int:=
 rq (i64 (0 - c_.2)) <|
 loop (Ze7 c_ p) ((0 - c_.2),(0:Int))
def ZdH (c_:(List D6_)×Int) (p:List Int) (r1_:Int):Int×(List Int)→Option ((Int×(List Int))⊕(List Int)):=fun (i,out)=>
 cond (decide (i<(c_.1.length:Int))) (
  rq (0≤i∧i<c_.1.length) <|
  (Zq0 (c_.1.getD i.toNat (0,0)).2 p).bind fun r3_=>
  cond (r3_==(0:Int)) (
   cond (decide (r1_<(c_.1.getD i.toNat (0,0)).1)) (
    rq (out.length+[(c_.1.getD i.toNat (0,0)).2].length≤Zl) <|
    rq (i64 (i+(1:Int))) <|
    some (.inl ((i+(1:Int)),(out++[(c_.1.getD i.toNat (0,0)).2])))) (
    rq (i64 (i+(1:Int))) <|
    some (.inl ((i+(1:Int)),out)))) (
   rq (i64 (i+(1:Int))) <|
   some (.inl ((i+(1:Int)),out)))) (
  some (.inr out))
def Zds (c_:(List D6_)×Int) (p:List Int):Option (List Int):=
 (ZeO c_ p).bind fun r1_=>
 loop (ZdH c_ p r1_) ((0:Int),([]:List Int))
def Zem (i3:Int) (r9_:(List Int)):Bool×Int×(List Int)→Option ((Bool×Int×(List Int))⊕((Bool×Int×(List Int))⊕((Bool×(List Int))⊕(Int×(List Int))))):=fun (made6,i5,out6)=>
 cond (decide (i5<(r9_.length:Int))) (
  rq (0≤i5∧i5<r9_.length) <|
  cond (decide ((0:Int)<(r9_.getD i5.toNat 0))) (
   rq (i64 ((r9_.getD i5.toNat 0) - (1:Int))) <|
   rq (0≤((r9_.getD i5.toNat 0) - (1:Int))∧((r9_.getD i5.toNat 0) - (1:Int))<out6.length) <|
   rq (i64 (i5+(1:Int))) <|
   some (.inl (true,(i5+(1:Int)),(out6.set ((r9_.getD i5.toNat 0) - (1:Int)).toNat (1:Int))))) (
   rq (i64 (0 - (r9_.getD i5.toNat 0))) <|
   rq (i64 ((0 - (r9_.getD i5.toNat 0)) - (1:Int))) <|
   rq (0≤((0 - (r9_.getD i5.toNat 0)) - (1:Int))∧((0 - (r9_.getD i5.toNat 0)) - (1:Int))<out6.length) <|
   rq (i64 (i5+(1:Int))) <|
   some (.inl (true,(i5+(1:Int)),(out6.set ((0 - (r9_.getD i5.toNat 0)) - (1:Int)).toNat (-1:Int)))))) (
  rq (i64 (i3+(1:Int))) <|
  some (.inr (.inl (made6,(i3+(1:Int)),out6))))
def Zc1 (list_:List D7_):Bool×Int×(List Int)→Option ((Bool×Int×(List Int))⊕((Bool×(List Int))⊕(Int×(List Int)))):=fun (made4,i3,out5)=>
 cond (decide (i3<(list_.length:Int))) (
  rq (0≤i3∧i3<list_.length) <|
  (ZeO (list_.getD i3.toNat ([],0)) out5).bind fun r8_=>
  cond (decide (r8_<(0:Int))) (
   some (.inr (.inr (i3,out5)))) (
   (Zds (list_.getD i3.toNat ([],0)) out5).bind fun r9_=>
   loop (Zem i3 r9_) (made4,(0:Int),out5))) (
  some (.inr (.inl (made4,out5))))
def Zfp (list_:List D7_):Bool×(List Int)→Option ((Bool×(List Int))⊕(Int×(List Int))):=fun (made,out3)=>
 cond made (
  loop (Zc1 list_) (false,(0:Int),out3)) (
  some (.inr ((-1:Int),out3)))
def Zda (list_:List D7_) (p:List Int):Option (Int×(List Int)):=
 (Zbr p).bind fun r1_=>
 loop (Zfp list_) (true,r1_)
def Zw0:Int→Option Bool:=fun i=>
 some (decide ((0:Int)≤i))
def ZyB (list_:List D7_) (c_:(List D6_)×Int):Option Bool:=
 (Zbg list_).bind fun r4_=>
 (Ze6 c_).bind fun r5_=>
 rq (r4_.length+[(r5_.2,r5_.1)].length≤Zl) <|
 rq (0≤(12:Int)∧(12:Int)≤Zl∧(12:Int)=(12:Int)) <|
 (Zda (r4_++[(r5_.2,r5_.1)]) (List.replicate (12:Int).toNat 0)).bind fun r6_=>
 Zw0 r6_.1
def Zhk (o1:List D7_) (o2:List Bool) (i:(List D6_)×Int) (i1:Bool):Unit→Option (Bool×(List D7_)×(List Bool)):=fun _=>
 some (i1,(o1++[i]),(o2++[false]))
def ZU (o1:List D7_) (o2:List Bool):D7_×Bool→Option (Bool×(List D7_)×(List Bool)):=fun (i,i1)=>
 rq (o1.length+[i].length≤Zl) <|
 rq (o2.length+[false].length≤Zl) <|
 Zhk o1 o2 i i1 ()
def ZbR (a1:Int×Int×Int×(List D6_)×Int) (o1:List D7_) (o2:List Bool):Unit→Option (Bool×(List D7_)×(List Bool)):=fun _=>
 cond (a1.1==(8:Int)) (
  rq (0≤a1.2.1∧a1.2.1<o2.length) <|
  some (true,o1,(o2.set a1.2.1.toNat true))) (
  cond (a1.1==(1:Int)) (
   rq (0≤a1.2.1∧a1.2.1<o1.length) <|
   rq (0≤a1.2.2.1∧a1.2.2.1<o1.length) <|
   (Zio (o1.getD a1.2.1.toNat ([],0)) (o1.getD a1.2.2.1.toNat ([],0))).bind fun r7_=>
   ZU o1 o2 ((r7_.2.2,r7_.2.1),r7_.1)) (
   cond (a1.1==(2:Int)) (
    rq (0≤a1.2.1∧a1.2.1<o1.length) <|
    (Zfz (o1.getD a1.2.1.toNat ([],0)) a1.2.2.1).bind fun r9_=>
    ZU o1 o2 (r9_.2,r9_.1)) (
    cond (a1.1==(3:Int)) (
     rq (0≤a1.2.1∧a1.2.1<o1.length) <|
     (ZgA (o1.getD a1.2.1.toNat ([],0)) a1.2.2.1).bind fun r11_=>
     ZU o1 o2 (r11_.2,r11_.1)) (
     cond (a1.1==(4:Int)) (
      rq (0≤a1.2.1∧a1.2.1<o1.length) <|
      (ZfA (o1.getD a1.2.1.toNat ([],0))).bind fun r13_=>
      ZU o1 o2 ((r13_.2.2,r13_.2.1),r13_.1)) (
      cond (a1.1==(5:Int)) (
       rq (0≤a1.2.1∧a1.2.1<o1.length) <|
       (ZgB (o1.getD a1.2.1.toNat ([],0)) a1.2.2.1).bind fun r15_=>
       ZU o1 o2 ((r15_.2.2,r15_.2.1),r15_.1)) (
       cond (a1.1==(6:Int)) (
        (Zj6 a1.2.1).bind fun r16_=>
        ZU o1 o2 ((r16_.2.2,r16_.2.1),r16_.1)) (
        cond (a1.1==(7:Int)) (
         (Z5 a1.2.2.2).bind fun r20_=>
         cond r20_ (
          (Zf4 o1 o2).bind fun r21_=>
          (ZyB r21_ a1.2.2.2).bind fun r22_=>
          ZU o1 o2 (a1.2.2.2,r22_)) (
          ZU o1 o2 (a1.2.2.2,false))) (
         ZU o1 o2 ((([]:List D6_),(0:Int)),false)))))))))
def Zhj (a1:Int×Int×Int×(List D6_)×Int) (o1:List D7_) (o2:List Bool):Unit→Option (Bool×(List D7_)×(List Bool)):=fun _=>
 (Zpd a1.1).bind fun r1_=>
 (Zlq a1).bind fun r2_=>
 cond (!r2_) (
  some (false,o1,o2)) (
  cond (decide ((0:Int)<r1_.1)) (
   (ZdZ a1.2.1 o1 o2).bind fun r3_=>
   cond (!r3_) (
    some (false,o1,o2)) (
    cond (decide ((1:Int)<r1_.1)) (
     (ZdZ a1.2.2.1 o1 o2).bind fun r4_=>
     cond (!r4_) (
      some (false,o1,o2)) (
      ZbR a1 o1 o2 ())) (
     ZbR a1 o1 o2 ()))) (
   cond (decide ((1:Int)<r1_.1)) (
    (ZdZ a1.2.2.1 o1 o2).bind fun r5_=>
    cond (!r5_) (
     some (false,o1,o2)) (
     ZbR a1 o1 o2 ())) (
    ZbR a1 o1 o2 ())))
def ZeB (a1:Int×Int×Int×(List D6_)×Int) (o1:List D7_) (o2:List Bool):Option (Bool×(List D7_)×(List Bool)):=
 Zhj a1 o1 o2 ()
def Zr2 (steps:List Zw):Int×(List D7_)×(List Bool)→Option ((Int×(List D7_)×(List Bool))⊕(Bool×Int×(List D7_)×(List Bool)×Int)):=fun (i,r_01,r_1)=>
 cond (decide (i<(steps.length:Int))) (
  rq (0≤i∧i<steps.length) <|
  (ZeB (steps.getD i.toNat (0,(0,(0,([],0))))) r_01 r_1).bind fun r5_=>
  cond (!r5_.1) (
   some (.inr (false,0,[],[],i))) (
   rq (i64 (i+(1:Int))) <|
   some (.inl ((i+(1:Int)),r5_.2.1,r5_.2.2)))) (
  some (.inr (true,(-1:Int),r_01,r_1,0)))
def ZwZ (list_:List D7_) (steps:List Zw):(List D7_)→Option (Bool×Int×(List D7_)×(List Bool)×Int):=fun r_0=>
 loop (Zr2 steps) ((0:Int),r_0,(List.replicate (list_.length:Int).toNat false))
def ZyA (list_:List D7_) (steps:List Zw):Option (Bool×Int×(List D7_)×(List Bool)×Int):=
 (Zg0 list_).bind fun r1_=>
 cond (!r1_) (
  some (false,0,[],[],(0:Int))) (
  cond (decide ((1000:Int)<(steps.length:Int))) (
   some (false,0,[],[],(0:Int))) (
   (Zbg list_).bind fun r3_=>
   rq (0≤(list_.length:Int)∧(list_.length:Int)≤Zl∧(list_.length:Int)=(list_.length:Int)) <|
   ZwZ list_ steps r3_))
def Ze5 (c_:(List D6_)×Int):Option Bool:=
 (Z5 c_).bind fun r3_=>
 cond r3_ (
  (ZeP c_).bind fun r4_=>
  some (decide (r4_<c_.2))) (
  some false)
def Zh0 (r1_:Bool×Int×(List D7_)×(List Bool)×Int):Int→Option (Int⊕(Bool×Int×(List D7_)×(List Bool)×Int)):=fun i=>
 cond (decide (i<(r1_.2.2.1.length:Int))) (
  rq (0≤i∧i<r1_.2.2.1.length) <|
  rq (0≤i∧i<r1_.2.2.2.1.length) <|
  cond (!(r1_.2.2.2.1.getD i.toNat false)) (
   (Ze5 (r1_.2.2.1.getD i.toNat ([],0))).bind fun r2_=>
   cond r2_ (
    some (.inr (true,i,r1_.2.2.1,r1_.2.2.2.1,0))) (
    rq (i64 (i+(1:Int))) <|
    some (.inl (i+(1:Int))))) (
   rq (i64 (i+(1:Int))) <|
   some (.inl (i+(1:Int))))) (
  some (.inr (true,(-1:Int),r1_.2.2.1,r1_.2.2.2.1,0)))
def Zpq (list_:List D7_) (steps:List Zw):Option (Bool×Int×(List D7_)×(List Bool)×Int):=
 (ZyA list_ steps).bind fun r1_=>
 cond r1_.1 (
  cond (decide ((0:Int)≤r1_.2.1)) (
   some (false,0,[],[],(-1:Int))) (
   loop (Zh0 r1_) (0:Int))) (
  cond (decide ((0:Int)≤r1_.2.2.2.2)) (
   some (false,0,[],[],(-1:Int))) (
   none))
def Zhi (list_:List D7_) (steps:List Zw):Option Bool:=
 (Zpq list_ steps).bind fun r1_=>
 cond r1_.1 (
  some (decide ((0:Int)≤r1_.2.1))) (
  some (decide ((0:Int)≤r1_.2.2.2.2)))
def Zli (steps:List Zw) (r1_:Bool×(List D7_)):Bool×Int×(List D6_)→Option Bool:=fun (ok,c_1,c_0)=>
 cond ok (
  (Zbg r1_.2).bind fun r10_=>
  rq (r10_.length+[(c_0,c_1)].length≤Zl) <|
  (Zhi (r10_++[(c_0,c_1)]) steps).bind fun r11_=>
  some r11_) (
  some false)
def ZgX (m:(List Int)×(List D5_)) (coefs:List Int) (cells:List Int) (steps:List Zw):Option Bool:=
 (ZnI m).bind fun r1_=>
 cond (!r1_.1) (
  some false) (
  (Zlp m cells).bind fun r2_=>
  cond (!r2_) (
   some false) (
   (Zd7 m coefs).bind fun r3_=>
   cond (!r3_) (
    some false) (
    (Zfc coefs cells).bind fun r6_=>
    rq (i64 (r6_ - (1:Int))) <|
    (ZdY m coefs (r6_ - (1:Int))).bind fun r7_=>
    Zli steps r1_ (r7_.1,r7_.2.1,r7_.2.2))))
def Zm6 (m:(List Int)×(List D5_)) (cells:List Int):Int→Option (Int⊕Bool):=fun i=>
 cond (decide (i<(cells.length:Int))) (
  rq (0≤i∧i<cells.length) <|
  cond (decide ((cells.getD i.toNat 0)<(0:Int))) (
   some (.inr false)) (
   rq (0≤i∧i<cells.length) <|
   rq (0≤i∧i<m.1.length) <|
   cond (decide ((m.1.getD i.toNat 0)<(cells.getD i.toNat 0))) (
    some (.inr false)) (
    rq (i64 (i+(1:Int))) <|
    some (.inl (i+(1:Int)))))) (
  some (.inr true))
def Zrf (m:(List Int)×(List D5_)) (cells:List Int):Option Bool:=
 cond ((cells.length:Int) != (m.1.length:Int)) (
  some false) (
  loop (Zm6 m cells) (0:Int))
def Zra (m:(List Int)×(List D5_)) (cells:List Int):Option Bool:=
 (Zfj m).bind fun r1_=>
 cond r1_ (
  (Zrf m cells).bind fun r2_=>
  some r2_) (
  some false)
def ZlN (m:(List Int)×(List D5_)) (cells:List Int):Int→Option (Int⊕Bool):=fun i=>
 cond (decide (i<(m.2.length:Int))) (
  rq (0≤i∧i<m.2.length) <|
  (ZnZ (m.2.getD i.toNat (0,([],([],(0,[]))))) cells).bind fun r1_=>
  cond (!r1_) (
   some (.inr false)) (
   rq (i64 (i+(1:Int))) <|
   some (.inl (i+(1:Int))))) (
  some (.inr true))
def Zpy (m:(List Int)×(List D5_)) (cells:List Int):Option Bool:=
 loop (ZlN m cells) (0:Int)
def Zic (m:(List Int)×(List D5_)) (cells:List Int):Option Bool:=
 (Zra m cells).bind fun r1_=>
 cond r1_ (
  (Zpy m cells).bind fun r2_=>
  some r2_) (
  some false)
def Zxb (list_:List D7_) (steps:List Zw):Option Bool:=
 (Zg5 list_).bind fun r1_=>
 cond r1_ (
  some (decide ((steps.length:Int)≤(1000:Int)))) (
  some false)
def ZnY (s_:Int×Int×Int×(List D6_)×Int):Option Bool:=
 cond ((s_.2.2.2.1.length:Int)==(0:Int)) (
  cond (s_.1==(1:Int)) (
   some (s_.2.2.2.2==(0:Int))) (
   cond (s_.1==(2:Int)) (
    some (s_.2.2.2.2==(0:Int))) (
    cond (s_.1==(3:Int)) (
     some (s_.2.2.2.2==(0:Int))) (
     cond (s_.1==(5:Int)) (
      some (s_.2.2.2.2==(0:Int))) (
      cond (s_.1==(4:Int)) (
       cond (s_.2.2.2.2==(0:Int)) (
        some (s_.2.2.1==(0:Int))) (
        some false)) (
       cond (s_.1==(6:Int)) (
        cond (s_.2.2.2.2==(0:Int)) (
         some (s_.2.2.1==(0:Int))) (
         some false)) (
        cond (s_.1==(8:Int)) (
         cond (s_.2.2.2.2==(0:Int)) (
          some (s_.2.2.1==(0:Int))) (
          some false)) (
         cond (s_.1==(7:Int)) (
          cond (s_.2.1==(0:Int)) (
           some (s_.2.2.1==(0:Int))) (
           some false)) (
          some false))))))))) (
  cond (s_.1==(1:Int)) (
   some false) (
   cond (s_.1==(2:Int)) (
    some false) (
    cond (s_.1==(3:Int)) (
     some false) (
     cond (s_.1==(5:Int)) (
      some false) (
      cond (s_.1==(4:Int)) (
       some false) (
       cond (s_.1==(6:Int)) (
        some false) (
        cond (s_.1==(8:Int)) (
         some false) (
         cond (s_.1==(7:Int)) (
          cond (s_.2.1==(0:Int)) (
           some (s_.2.2.1==(0:Int))) (
           some false)) (
          some false)))))))))
def ZjT (d:(List D7_)×(List Bool)) (k_:Int):Option Bool:=
 cond (decide ((0:Int)≤k_)) (
  cond (decide (k_<(d.1.length:Int))) (
   rq (0≤k_∧k_<d.2.length) <|
   some (!(d.2.getD k_.toNat false))) (
   some false)) (
  some false)
def Zkd (lit:Int):Option (Bool×Int×(List D6_)):=
 (Zol lit).bind fun r1_=>
 cond (!r1_) (
  some (false,(0:Int),([]:List D6_))) (
  some (true,(0:Int),[((1:Int),lit)]))
def Zom (d:(List D7_)×(List Bool)):Int×(List D7_)→Option ((Int×(List D7_))⊕(List D7_)):=fun (i,out)=>
 cond (decide (i<(d.1.length:Int))) (
  rq (0≤i∧i<d.2.length) <|
  cond (!(d.2.getD i.toNat false)) (
   rq (0≤i∧i<d.1.length) <|
   rq (out.length+[(d.1.getD i.toNat ([],0))].length≤Zl) <|
   rq (i64 (i+(1:Int))) <|
   some (.inl ((i+(1:Int)),(out++[(d.1.getD i.toNat ([],0))])))) (
   rq (i64 (i+(1:Int))) <|
   some (.inl ((i+(1:Int)),out)))) (
  some (.inr out))
def Zr7 (d:(List D7_)×(List Bool)):Option (List D7_):=
 loop (Zom d) ((0:Int),([]:List D7_))
def Zm2 (c_:(List D6_)×Int):Int×Int→Option ((Int×Int)⊕Int):=fun (n,i)=>
 cond (decide (i<(c_.1.length:Int))) (
  rq (0≤i∧i<c_.1.length) <|
  rq (i64 (n+(c_.1.getD i.toNat (0,0)).1)) <|
  rq (i64 (i+(1:Int))) <|
  some (.inl ((n+(c_.1.getD i.toNat (0,0)).1),(i+(1:Int))))) (
  some (.inr n))
def ZnV (c_:(List D6_)×Int):Option Int:=
 loop (Zm2 c_) ((0:Int),(0:Int))
def Zib (out_1:Int):(List D6_)→Option (Bool×Int×(List D6_)):=fun out_01=>
 cond (decide (out_1<(0:Int))) (
  some (true,(0:Int),out_01)) (
  some (true,out_1,out_01))
def Zec (c_:(List D6_)×Int) (out_1:Int):Int×(List D6_)→Option ((Int×(List D6_))⊕(Bool×Int×(List D6_))):=fun (i,out_0)=>
 cond (decide (i<(c_.1.length:Int))) (
  rq (0≤i∧i<c_.1.length) <|
  rq (0≤i∧i<c_.1.length) <|
  rq (i64 (0 - (c_.1.getD i.toNat (0,0)).2)) <|
  rq (out_0.length+[((c_.1.getD i.toNat (0,0)).1,(0 - (c_.1.getD i.toNat (0,0)).2))].length≤Zl) <|
  rq (i64 (i+(1:Int))) <|
  some (.inl ((i+(1:Int)),(out_0++[((c_.1.getD i.toNat (0,0)).1,(0 - (c_.1.getD i.toNat (0,0)).2))])))) (
  up (Zib out_1 out_0))
def Zia (c_:(List D6_)×Int):Int→Option (Bool×Int×(List D6_)):=fun out_1=>
 loop (Zec c_ out_1) ((0:Int),([]:List D6_))
def Zh9 (c_:(List D6_)×Int):Unit→Option (Bool×Int×(List D6_)):=fun _=>
 (ZV c_).bind fun r1_=>
 cond (!r1_) (
  some (false,(0:Int),([]:List D6_))) (
  (ZnV c_).bind fun r3_=>
  rq (i64 (r3_ - c_.2)) <|
  rq (i64 ((r3_ - c_.2)+(1:Int))) <|
  Zia c_ ((r3_ - c_.2)+(1:Int)))
def ZgI (c_:(List D6_)×Int):Option (Bool×Int×(List D6_)):=
 Zh9 c_ ()
def Ztz (list_:List D7_) (r1_:Bool×Int×(List D6_)):Unit→Option Bool:=fun _=>
 rq (0≤(12:Int)∧(12:Int)≤Zl∧(12:Int)=(12:Int)) <|
 (Zdy ((([]:List D7_)++list_)++[(r1_.2.2,r1_.2.1)]) (List.replicate (12:Int).toNat 0)).bind fun r2_=>
 some (decide ((0:Int)≤r2_.1))
def Zuj (list_:List D7_) (c_:(List D6_)×Int):Option Bool:=
 (ZgI c_).bind fun r1_=>
 rq (([]:List D7_).length+list_.length≤Zl) <|
 rq ((([]:List D7_)++list_).length+[(r1_.2.2,r1_.2.1)].length≤Zl) <|
 Ztz list_ r1_ ()
def Ztx:Int×(List Int)→Option (Int×(List Int)):=fun (bound_2,net2)=>
 some (bound_2,net2)
def Zty (terms:List D6_) (bound_1:Int) (i:Int) (net1:List Int):Unit→Option ((Int×Int×(List Int))⊕(Int×(List Int))):=fun _=>
 rq (i64 (bound_1 - (terms.getD i.toNat (0,0)).1)) <|
 rq (i64 (i+(1:Int))) <|
 some (.inl ((bound_1 - (terms.getD i.toNat (0,0)).1),(i+(1:Int)),(net1.set (0 - (terms.getD i.toNat (0,0)).2).toNat ((net1.getD (0 - (terms.getD i.toNat (0,0)).2).toNat 0) - (terms.getD i.toNat (0,0)).1))))
def Zpu (terms:List D6_):Int×Int×(List Int)→Option ((Int×Int×(List Int))⊕(Int×(List Int))):=fun (bound_1,i,net1)=>
 cond (decide (i<(terms.length:Int))) (
  rq (0≤i∧i<terms.length) <|
  cond (decide ((0:Int)<(terms.getD i.toNat (0,0)).2)) (
   rq (0≤(terms.getD i.toNat (0,0)).2∧(terms.getD i.toNat (0,0)).2<net1.length) <|
   rq (i64 ((net1.getD (terms.getD i.toNat (0,0)).2.toNat 0)+(terms.getD i.toNat (0,0)).1)) <|
   rq (0≤(terms.getD i.toNat (0,0)).2∧(terms.getD i.toNat (0,0)).2<net1.length) <|
   rq (i64 (i+(1:Int))) <|
   some (.inl (bound_1,(i+(1:Int)),(net1.set (terms.getD i.toNat (0,0)).2.toNat ((net1.getD (terms.getD i.toNat (0,0)).2.toNat 0)+(terms.getD i.toNat (0,0)).1))))) (
   rq (i64 (0 - (terms.getD i.toNat (0,0)).2)) <|
   rq (i64 (0 - (terms.getD i.toNat (0,0)).2)) <|
   rq (0≤(0 - (terms.getD i.toNat (0,0)).2)∧(0 - (terms.getD i.toNat (0,0)).2)<net1.length) <|
   rq (i64 ((net1.getD (0 - (terms.getD i.toNat (0,0)).2).toNat 0) - (terms.getD i.toNat (0,0)).1)) <|
   rq (0≤(0 - (terms.getD i.toNat (0,0)).2)∧(0 - (terms.getD i.toNat (0,0)).2)<net1.length) <|
   Zty terms bound_1 i net1 ())) (
  up (Ztx (bound_1,net1)))
def Zui (terms:List D6_) (bound_:Int):Option (Int×(List Int)):=
 rq (0≤(13:Int)∧(13:Int)≤Zl∧(13:Int)=(13:Int)) <|
 loop (Zpu terms) (bound_,(0:Int),(List.replicate (13:Int).toNat 0))
def ZjS (a:(List D6_)×Int) (b:(List D6_)×Int):Unit→Option (Bool×Int×(List D6_)):=fun _=>
 (ZV a).bind fun r1_=>
 cond (!r1_) (
  some (false,(0:Int),([]:List D6_))) (
  (ZV b).bind fun r2_=>
  cond (!r2_) (
   some (false,(0:Int),([]:List D6_))) (
   rq (i64 (a.2+b.2)) <|
   rq (([]:List D6_).length+a.1.length≤Zl) <|
   rq ((([]:List D6_)++a.1).length+b.1.length≤Zl) <|
   (Zui ((([]:List D6_)++a.1)++b.1) (a.2+b.2)).bind fun r4_=>
   (Zfs r4_.2 r4_.1).bind fun r5_=>
   some (r5_.1,r5_.2.1,r5_.2.2)))
def Ziw (a:(List D6_)×Int) (b:(List D6_)×Int):Option (Bool×Int×(List D6_)):=
 ZjS a b ()
def ZgT (c_:(List D6_)×Int) (k_:Int):(List D6_)→Option (Bool×Int×(List D6_)):=fun out_01=>
 (ZV (out_01,(c_.2*k_))).bind fun r2_=>
 cond (!r2_) (
  some (false,(0:Int),([]:List D6_))) (
  some (true,(c_.2*k_),out_01))
def ZdK (c_:(List D6_)×Int) (k_:Int):Int×(List D6_)→Option ((Int×(List D6_))⊕(Bool×Int×(List D6_))):=fun (i,out_0)=>
 cond (decide (i<(c_.1.length:Int))) (
  rq (0≤i∧i<c_.1.length) <|
  rq (i64 ((c_.1.getD i.toNat (0,0)).1*k_)) <|
  rq (0≤i∧i<c_.1.length) <|
  rq (out_0.length+[(((c_.1.getD i.toNat (0,0)).1*k_),(c_.1.getD i.toNat (0,0)).2)].length≤Zl) <|
  rq (i64 (i+(1:Int))) <|
  some (.inl ((i+(1:Int)),(out_0++[(((c_.1.getD i.toNat (0,0)).1*k_),(c_.1.getD i.toNat (0,0)).2)])))) (
  up (ZgT c_ k_ out_0))
def ZfE (c_:(List D6_)×Int) (k_:Int):Option (Bool×Int×(List D6_)):=
 (ZV c_).bind fun r1_=>
 cond (!r1_) (
  some (false,(0:Int),([]:List D6_))) (
  cond (decide (k_<(1:Int))) (
   some (false,(0:Int),([]:List D6_))) (
   cond (decide ((1000:Int)<k_)) (
    some (false,(0:Int),([]:List D6_))) (
    rq (i64 (c_.2*k_)) <|
    loop (ZdK c_ k_) ((0:Int),([]:List D6_)))))
def Zs7 (n:Int) (k_:Int):Option Int:=
 rq (i64 (n+k_)) <|
 rq (i64 ((n+k_) - (1:Int))) <|
 rq (1≤k_∧0≤((n+k_) - (1:Int))) <|
 some (((n+k_) - (1:Int)) / k_)
def Zd9 (c_:(List D6_)×Int) (k_:Int) (r2_:Int):Int×(List D6_)→Option ((Int×(List D6_))⊕(Bool×Int×(List D6_))):=fun (i,out_0)=>
 cond (decide (i<(c_.1.length:Int))) (
  rq (0≤i∧i<c_.1.length) <|
  rq (0≤i∧i<c_.1.length) <|
  (Zs7 (c_.1.getD i.toNat (0,0)).1 k_).bind fun r5_=>
  rq (out_0.length+[(r5_,(c_.1.getD i.toNat (0,0)).2)].length≤Zl) <|
  rq (i64 (i+(1:Int))) <|
  some (.inl ((i+(1:Int)),(out_0++[(r5_,(c_.1.getD i.toNat (0,0)).2)])))) (
  some (.inr (true,r2_,out_0)))
def Zh7 (c_:(List D6_)×Int) (k_:Int):Unit→Option (Bool×Int×(List D6_)):=fun _=>
 (ZV c_).bind fun r1_=>
 cond (!r1_) (
  some (false,(0:Int),([]:List D6_))) (
  cond (decide (k_<(1:Int))) (
   some (false,(0:Int),([]:List D6_))) (
   cond (decide ((1000:Int)<k_)) (
    some (false,(0:Int),([]:List D6_))) (
    (Zs7 c_.2 k_).bind fun r2_=>
    loop (Zd9 c_ k_ r2_) ((0:Int),([]:List D6_)))))
def ZgG (c_:(List D6_)×Int) (k_:Int):Option (Bool×Int×(List D6_)):=
 Zh7 c_ k_ ()
def ZjB (i:Int) (out_0:List D6_):D6_→Option ((Int×(List D6_))⊕(Int×(List D6_))):=fun t_1=>
 rq (out_0.length+[t_1].length≤Zl) <|
 rq (i64 (i+(1:Int))) <|
 some (.inl ((i+(1:Int)),(out_0++[t_1])))
def ZeU (c_:(List D6_)×Int):Int×(List D6_)→Option ((Int×(List D6_))⊕(Int×(List D6_))):=fun (i,out_0)=>
 cond (decide (i<(c_.1.length:Int))) (
  cond (decide ((0:Int)<c_.2)) (
   rq (0≤i∧i<c_.1.length) <|
   cond (decide (c_.2<(c_.1.getD i.toNat (0,0)).1)) (
    ZjB i out_0 (c_.2,(c_.1.getD i.toNat (0,0)).2)) (
    ZjB i out_0 (c_.1.getD i.toNat (0,0)))) (
   some (.inr (c_.2,out_0)))) (
  some (.inr (c_.2,out_0)))
def Zm3 (c_:(List D6_)×Int):Option (Int×(List D6_)):=
 loop (ZeU c_) ((0:Int),([]:List D6_))
def ZfF (c_:(List D6_)×Int):Option (Bool×Int×(List D6_)):=
 (ZV c_).bind fun r1_=>
 cond (!r1_) (
  some (false,(0:Int),([]:List D6_))) (
  (Zm3 c_).bind fun r2_=>
  some (true,r2_.1,r2_.2))
def Zid:Int×(List D6_)→Option (Bool×Int×(List D6_)):=fun (out_11,out_01)=>
 cond (decide (out_11<(0:Int))) (
  some (true,(0:Int),out_01)) (
  some (true,out_11,out_01))
def Zfk (c_:(List D6_)×Int) (variable_:Int):Int×Int×(List D6_)→Option ((Int×Int×(List D6_))⊕(Bool×Int×(List D6_))):=fun (i,out_1,out_0)=>
 cond (decide (i<(c_.1.length:Int))) (
  rq (0≤i∧i<c_.1.length) <|
  (ZlF (c_.1.getD i.toNat (0,0)).2).bind fun r3_=>
  cond (r3_==variable_) (
   rq (0≤i∧i<c_.1.length) <|
   rq (i64 (out_1 - (c_.1.getD i.toNat (0,0)).1)) <|
   rq (i64 (i+(1:Int))) <|
   some (.inl ((i+(1:Int)),(out_1 - (c_.1.getD i.toNat (0,0)).1),out_0))) (
   rq (0≤i∧i<c_.1.length) <|
   rq (out_0.length+[(c_.1.getD i.toNat (0,0))].length≤Zl) <|
   rq (i64 (i+(1:Int))) <|
   some (.inl ((i+(1:Int)),out_1,(out_0++[(c_.1.getD i.toNat (0,0))]))))) (
  up (Zid (out_1,out_0)))
def ZgJ (c_:(List D6_)×Int) (variable_:Int):Option (Bool×Int×(List D6_)):=
 (ZV c_).bind fun r1_=>
 cond (!r1_) (
  some (false,(0:Int),([]:List D6_))) (
  cond (decide (variable_<(1:Int))) (
   some (false,(0:Int),([]:List D6_))) (
   cond (decide ((12:Int)<variable_)) (
    some (false,(0:Int),([]:List D6_))) (
    loop (Zfk c_ variable_) ((0:Int),c_.2,([]:List D6_)))))
def Zmm (a0:(List D7_)×(List Bool)) (a1:Int×Int×Int×(List D6_)×Int):Option (Bool×Int×(List D6_)):=
 cond (a1.1==(6:Int)) (
  (Zkd a1.2.1).bind fun r1_=>
  some (r1_.1,r1_.2.1,r1_.2.2)) (
  cond (a1.1==(7:Int)) (
   (Zpf a1.2.2.2).bind fun r6_=>
   (ZV a1.2.2.2).bind fun r7_=>
   cond r7_ (
    (Zr7 a0).bind fun r8_=>
    (Zuj r8_ a1.2.2.2).bind fun r9_=>
    some (r9_,r6_.1,r6_.2)) (
    some (false,r6_.1,r6_.2))) (
   (ZjT a0 a1.2.1).bind fun r10_=>
   cond (!r10_) (
    some (false,(0:Int),([]:List D6_))) (
    rq (0≤a1.2.1∧a1.2.1<a0.1.length) <|
    cond (a1.1==(1:Int)) (
     (ZjT a0 a1.2.2.1).bind fun r11_=>
     cond (!r11_) (
      some (false,(0:Int),([]:List D6_))) (
      rq (0≤a1.2.2.1∧a1.2.2.1<a0.1.length) <|
      (Ziw (a0.1.getD a1.2.1.toNat ([],0)) (a0.1.getD a1.2.2.1.toNat ([],0))).bind fun r13_=>
      some (r13_.1,r13_.2.1,r13_.2.2))) (
     cond (a1.1==(2:Int)) (
      (ZfE (a0.1.getD a1.2.1.toNat ([],0)) a1.2.2.1).bind fun r14_=>
      some (r14_.1,r14_.2.1,r14_.2.2)) (
      cond (a1.1==(3:Int)) (
       (ZgG (a0.1.getD a1.2.1.toNat ([],0)) a1.2.2.1).bind fun r15_=>
       some (r15_.1,r15_.2.1,r15_.2.2)) (
       cond (a1.1==(4:Int)) (
        (ZfF (a0.1.getD a1.2.1.toNat ([],0))).bind fun r16_=>
        some (r16_.1,r16_.2.1,r16_.2.2)) (
        (ZgJ (a0.1.getD a1.2.1.toNat ([],0)) a1.2.2.1).bind fun r17_=>
        some (r17_.1,r17_.2.1,r17_.2.2))))))))
def ZtB (a1:List Zw) (i:Int) (i_0:List D7_) (i_1:List Bool):Unit→Option ((Int×(List D7_)×(List Bool))⊕(Int×(List D7_)×(List Bool))):=fun _=>
 (ZnY (a1.getD i.toNat (0,(0,(0,([],0)))))).bind fun r4_=>
 cond (!r4_) (
  some (.inr (i,i_0,i_1))) (
  cond ((a1.getD i.toNat (0,(0,(0,([],0))))).1==(8:Int)) (
   (ZjT (i_0,i_1) (a1.getD i.toNat (0,(0,(0,([],0))))).2.1).bind fun r5_=>
   cond (!r5_) (
    some (.inr (i,i_0,i_1))) (
    rq (0≤(a1.getD i.toNat (0,(0,(0,([],0))))).2.1∧(a1.getD i.toNat (0,(0,(0,([],0))))).2.1<i_1.length) <|
    rq (i64 (i+(1:Int))) <|
    some (.inl ((i+(1:Int)),i_0,(i_1.set (a1.getD i.toNat (0,(0,(0,([],0))))).2.1.toNat true))))) (
   (Zmm (i_0,i_1) (a1.getD i.toNat (0,(0,(0,([],0)))))).bind fun r6_=>
   cond (!r6_.1) (
    some (.inr (i,i_0,i_1))) (
    rq (i_0.length+[(r6_.2.2,r6_.2.1)].length≤Zl) <|
    rq (i_1.length+[false].length≤Zl) <|
    rq (i64 (i+(1:Int))) <|
    some (.inl ((i+(1:Int)),(i_0++[(r6_.2.2,r6_.2.1)]),(i_1++[false]))))))
def Zpv (a1:List Zw):Int×(List D7_)×(List Bool)→Option ((Int×(List D7_)×(List Bool))⊕(Int×(List D7_)×(List Bool))):=fun (i,i_0,i_1)=>
 cond (decide (i<(a1.length:Int))) (
  rq (0≤i∧i<a1.length) <|
  ZtB a1 i i_0 i_1 ()) (
  some (.inr ((-1:Int),i_0,i_1)))
def ZtA (a0:List D7_) (a1:List Zw):Unit→Option (Int×(List D7_)×(List Bool)):=fun _=>
 loop (Zpv a1) ((0:Int),(([]:List D7_)++a0),(List.replicate (a0.length:Int).toNat false))
def Zuk (a0:List D7_) (a1:List Zw):Option (Int×(List D7_)×(List Bool)):=
 rq (([]:List D7_).length+a0.length≤Zl) <|
 rq (0≤(a0.length:Int)∧(a0.length:Int)≤Zl∧(a0.length:Int)=(a0.length:Int)) <|
 ZtA a0 a1 ()
def Zfi (c_:(List D6_)×Int):Option Bool:=
 (ZV c_).bind fun r3_=>
 cond r3_ (
  (ZnV c_).bind fun r4_=>
  some (decide (r4_<c_.2))) (
  some false)
def Zm5 (d:(List D7_)×(List Bool)):Int→Option (Int⊕Int):=fun i=>
 cond (decide (i<(d.1.length:Int))) (
  rq (0≤i∧i<d.2.length) <|
  cond (!(d.2.getD i.toNat false)) (
   rq (0≤i∧i<d.1.length) <|
   (Zfi (d.1.getD i.toNat ([],0))).bind fun r1_=>
   cond r1_ (
    some (.inr i)) (
    rq (i64 (i+(1:Int))) <|
    some (.inl (i+(1:Int))))) (
   rq (i64 (i+(1:Int))) <|
   some (.inl (i+(1:Int))))) (
  some (.inr (-1:Int)))
def Zre (d:(List D7_)×(List Bool)):Option Int:=
 loop (Zm5 d) (0:Int)
def Zhs (list_:List D7_) (steps:List Zw):Option Bool:=
 (Zxb list_ steps).bind fun r1_=>
 cond (!r1_) (
  some false) (
  (Zuk list_ steps).bind fun r2_=>
  cond (decide (r2_.1<(0:Int))) (
   (Zre r2_.2).bind fun r3_=>
   some (decide ((0:Int)≤r3_))) (
   some false))
def ZlA (steps:List Zw) (r1_:Bool×(List D7_)):Int×(List D6_)→Option Bool:=fun (c_1,c_0)=>
 rq (([]:List D7_).length+r1_.2.length≤Zl) <|
 rq ((([]:List D7_)++r1_.2).length+[(c_0,c_1)].length≤Zl) <|
 (Zhs ((([]:List D7_)++r1_.2)++[(c_0,c_1)]) steps).bind fun r9_=>
 some r9_
def Zeq (m:(List Int)×(List D5_)) (coefs:List Int) (cells:List Int) (steps:List Zw):Option Bool:=
 (Zh8 m).bind fun r1_=>
 cond (!r1_.1) (
  some false) (
  (ZkY m coefs).bind fun r2_=>
  cond (!r2_) (
   some false) (
   (Zic m cells).bind fun r3_=>
   cond (!r3_) (
    some false) (
    cond (decide ((400:Int)≤(r1_.2.length:Int))) (
     some false) (
     (Zn0 coefs cells).bind fun r6_=>
     rq (i64 (r6_ - (1:Int))) <|
     (ZeT m coefs (r6_ - (1:Int))).bind fun r7_=>
     ZlA steps r1_ (r7_.2.1,r7_.2.2)))))
def Zef (o0:(List Int)×(List D5_)) (o2:List Int) (cells:List Int) (o4:List Int):Option (Bool×(List Int)):=
 (ZgY o0 cells).bind fun r4_=>
 cond r4_ (
  cond o4.isEmpty (
   (Zbr cells).bind fun r19_=>
   rq (r19_≠[]) <|
   some (true,r19_)) (
   (Zfc o2 cells).bind fun r5_=>
   (Zfc o2 o4).bind fun r6_=>
   cond (decide (r5_<r6_)) (
    (Zbr cells).bind fun r7_=>
    rq (r7_≠[]) <|
    some (true,r7_)) (
    some (true,o4)))) (
  some (true,o4))
def Zci (r3_:Bool×(List Int)):Int×(List Int)→Option (((List Int)×(List Int))⊕(List Int)):=fun (i3,cells4)=>
 cond (decide (i3<(0:Int))) (
  some (.inr r3_.2)) (
  rq (0≤i3∧i3<cells4.length) <|
  rq (i64 ((cells4.getD i3.toNat 0)+(1:Int))) <|
  rq (0≤i3∧i3<cells4.length) <|
  some (.inl ((cells4.set i3.toNat ((cells4.getD i3.toNat 0)+(1:Int))),r3_.2)))
def ZbG (sizes:List Int) (r3_:Bool×(List Int)):Int×(List Int)→Option ((Int×(List Int))⊕(((List Int)×(List Int))⊕(List Int))):=fun (i2,cells3)=>
 cond (decide ((0:Int)≤i2)) (
  rq (0≤i2∧i2<cells3.length) <|
  rq (0≤i2∧i2<sizes.length) <|
  cond ((cells3.getD i2.toNat 0)==(sizes.getD i2.toNat 0)) (
   rq (0≤i2∧i2<cells3.length) <|
   rq (i64 (i2 - (1:Int))) <|
   some (.inl ((i2 - (1:Int)),(cells3.set i2.toNat (0:Int))))) (
   up (Zci r3_ (i2,cells3)))) (
  up (Zci r3_ (i2,cells3)))
def Zcj (sizes:List Int) (o0:(List Int)×(List D5_)) (o2:List Int):(List Int)×(List Int)→Option (((List Int)×(List Int))⊕(List Int)):=fun (cells2,cap)=>
 (Zef o0 o2 cells2 cap).bind fun r3_=>
 cond r3_.1 (
  rq (i64 ((cells2.length:Int) - (1:Int))) <|
  loop (ZbG sizes r3_) (((cells2.length:Int) - (1:Int)),cells2)) (
  some (.inr r3_.2))
def ZcE (sizes:List Int) (from_:List Int) (o0:(List Int)×(List D5_)) (o2:List Int):Option (List Int):=
 (Zbr from_).bind fun r1_=>
 loop (Zcj sizes o0 o2) (r1_,([]:List Int))
def Zqj:(List Int)→Option (Bool×(List Int)):=fun best=>
 some ((!best.isEmpty),best)
def Zgm (m:(List Int)×(List D5_)) (coefs:List Int):Option (Bool×(List Int)):=
 (Zeu m).bind fun r1_=>
 cond (!r1_) (
  some (false,([]:List Int))) (
  (Zd7 m coefs).bind fun r2_=>
  cond (!r2_) (
   some (false,([]:List Int))) (
   rq (0≤(m.1.length:Int)∧(m.1.length:Int)≤Zl∧(m.1.length:Int)=(m.1.length:Int)) <|
   (ZcE m.1 (List.replicate (m.1.length:Int).toNat 0) m coefs).bind fun r4_=>
   Zqj r4_))
def ZdO (m:(List Int)×(List D5_)) (coefs:List Int) (cells:List Int):Option (Int×Bool):=
 (Zjl m cells).bind fun r1_=>
 cond (!r1_) (
  some ((0:Int),false)) (
  (Zd7 m coefs).bind fun r2_=>
  cond (!r2_) (
   some ((0:Int),false)) (
   (Zfc coefs cells).bind fun r3_=>
   some (r3_,true)))
def ZmG (a0:List Int):Option Bool:=
 cond (decide ((1048576:Int)<(a0.length:Int))) (
  some true) (
  (ZgH a0).bind fun r1_=>
  (ZgX r1_.2.2.2 r1_.2.1 r1_.2.2.1 r1_.1).bind fun r2_=>
  (Zeq r1_.2.2.2 r1_.2.1 r1_.2.2.1 r1_.1).bind fun r3_=>
  cond (r2_ != r3_) (
   (Zeq r1_.2.2.2 r1_.2.1 r1_.2.2.1 r1_.1).bind fun r5_=>
   some (r2_==r5_)) (
   cond (!r2_) (
    (Zeq r1_.2.2.2 r1_.2.1 r1_.2.2.1 r1_.1).bind fun r4_=>
    some (r2_==r4_)) (
    (Zgm r1_.2.2.2 r1_.2.1).bind fun r6_=>
    (ZdO r1_.2.2.2 r1_.2.1 r1_.2.2.1).bind fun r7_=>
    (ZdO r1_.2.2.2 r1_.2.1 r6_.2).bind fun r8_=>
    cond r6_.1 (
     cond r7_.2 (
      cond r8_.2 (
       some (r7_.1==r8_.1)) (
       some false)) (
      some false)) (
     some false))))
def Zr1 (fuel:Int):Option Bool:=
 (ZbB fuel (0:Int) (2000:Int)).bind fun r1_=>
 some r1_
def ZpS:(List Bool)→Option (Int×Bool×(List Bool)):=fun out1=>
 some ((0:Int),true,out1)
def Zlr (p:List Int):Int×(List Bool)→Option ((Int×(List Bool))⊕(Int×Bool×(List Bool))):=fun (i,out)=>
 cond (decide (i<(p.length:Int))) (
  rq (0≤i∧i<p.length) <|
  cond ((p.getD i.toNat 0)==(0:Int)) (
   rq (i64 (i+(1:Int))) <|
   some (.inr ((i+(1:Int)),false,([]:List Bool)))) (
   rq (out.length+[(decide ((0:Int)<(p.getD i.toNat 0)))].length≤Zl) <|
   rq (i64 (i+(1:Int))) <|
   some (.inl ((i+(1:Int)),(out++[(decide ((0:Int)<(p.getD i.toNat 0)))]))))) (
  up (ZpS out))
def Zi6 (p:List Int):Option (Int×Bool×(List Bool)):=
 loop (Zlr p) ((0:Int),([]:List Bool))
def Zgq (o1:List D7_) (o2:List Zw) (r1_:Bool×Int×(List D6_)):Unit→Option ((List D7_)×(List Zw)):=fun _=>
 (Zex (r1_.2.2,r1_.2.1)).bind fun r3_=>
 rq (o2.length+[((7:Int),((0:Int),((0:Int),(r3_.2,r3_.1))))].length≤Zl) <|
 some ((o1++[(r1_.2.2,r1_.2.1)]),(o2++[((7:Int),((0:Int),((0:Int),(r3_.2,r3_.1))))]))
def Zgp (o1:List D7_) (o2:List Zw):(List Int)→Option ((List D7_)×(List Zw)):=fun lits1=>
 (Zi5 lits1).bind fun r1_=>
 rq (o1.length+[(r1_.2.2,r1_.2.1)].length≤Zl) <|
 Zgq o1 o2 r1_ ()
def ZbZ (decisions:List Int) (o1:List D7_) (o2:List Zw):Int×(List Int)→Option ((Int×(List Int))⊕((List D7_)×(List Zw))):=fun (i,lits)=>
 cond (decide (i<(decisions.length:Int))) (
  rq (0≤i∧i<decisions.length) <|
  rq (i64 (0 - (decisions.getD i.toNat 0))) <|
  rq (lits.length+[(0 - (decisions.getD i.toNat 0))].length≤Zl) <|
  rq (i64 (i+(1:Int))) <|
  some (.inl ((i+(1:Int)),(lits++[(0 - (decisions.getD i.toNat 0))])))) (
  up (Zgp o1 o2 lits))
def Zdb (decisions:List Int) (s_1:Int) (s_3:Bool) (o1:List D7_) (o2:List Zw):Option ((List D7_)×(List Zw)):=
 loop (ZbZ decisions o1 o2) ((0:Int),([]:List Int))
def Zct (a1:List Int):Int×Bool×(List D7_)×(List Zw)→Option (Bool×Int×Bool×(List Bool)×(List D7_)×(List Zw)):=fun (i_12,i_32,i_02,i_22)=>
 (Zdb a1 i_12 i_32 i_02 i_22).bind fun r9_=>
 some (false,i_12,i_32,([]:List Bool),r9_.1,r9_.2)
def ZfY (a1:List Int):Int×Bool×(List D7_)×(List Zw)→Option (Bool×Int×Bool×(List Bool)×(List D7_)×(List Zw)):=fun (i_11,i_31,i_01,i_21)=>
 cond (decide ((1000:Int)≤(i_21.length:Int))) (
  some (false,i_11,true,([]:List Bool),i_01,i_21)) (
  Zct a1 (i_11,i_31,i_01,i_21))
def Zdc (a1:List Int) (r4_:Int×Bool×(List Bool)) (rec_:(List Int)→Int→Bool→(List D7_)→(List Zw)→Option (Bool×Int×Bool×(List Bool)×(List D7_)×(List Zw))):Int×Int×Bool×(List D7_)×(List Zw)→Option ((Int×Int×Bool×(List D7_)×(List Zw))⊕(Bool×Int×Bool×(List Bool)×(List D7_)×(List Zw))):=fun (i3,i_1,i_3,i_0,i_2)=>
 cond (decide (i3<([r4_.1,(0 - r4_.1)].length:Int))) (
  rq (0≤i3∧i3 < [r4_.1,(0 - r4_.1)].length) <|
  (Zbr a1).bind fun r7_=>
  rq (r7_.length+[([r4_.1,(0 - r4_.1)].getD i3.toNat 0)].length≤Zl) <|
  (rec_ (r7_++[([r4_.1,(0 - r4_.1)].getD i3.toNat 0)]) i_1 i_3 i_0 i_2).bind fun r8_=>
  cond r8_.1 (
   some (.inr (r8_.1,r8_.2.1,r8_.2.2.1,r8_.2.2.2.1,r8_.2.2.2.2.1,r8_.2.2.2.2.2))) (
   cond r8_.2.2.1 (
    some (.inr (r8_.1,r8_.2.1,r8_.2.2.1,r8_.2.2.2.1,r8_.2.2.2.2.1,r8_.2.2.2.2.2))) (
    rq (i64 (i3+(1:Int))) <|
    some (.inl ((i3+(1:Int)),r8_.2.1,r8_.2.2.1,r8_.2.2.2.2.1,r8_.2.2.2.2.2))))) (
  up (ZfY a1 (i_1,i_3,i_0,i_2)))
def Zbu (a1:List Int) (o0_1:Int) (o0_3:Bool) (o1:List D7_) (o2:List Zw) (rec_:(List Int)→Int→Bool→(List D7_)→(List Zw)→Option (Bool×Int×Bool×(List Bool)×(List D7_)×(List Zw))):(List Int)→Option (Bool×Int×Bool×(List Bool)×(List D7_)×(List Zw)):=fun i2=>
 (Zda o1 i2).bind fun r3_=>
 cond (decide (r3_.1<(0:Int))) (
  (Zi6 r3_.2).bind fun r4_=>
  cond r4_.2.1 (
   some (true,(o0_1 - (1:Int)),o0_3,r4_.2.2,o1,o2)) (
   rq (i64 (0 - r4_.1)) <|
   loop (Zdc a1 r4_ rec_) ((0:Int),(o0_1 - (1:Int)),o0_3,o1,o2))) (
  Zct a1 ((o0_1 - (1:Int)),o0_3,o1,o2))
def Zcu (a1:List Int) (o0_1:Int) (o0_3:Bool) (o1:List D7_) (o2:List Zw) (rec_:(List Int)→Int→Bool→(List D7_)→(List Zw)→Option (Bool×Int×Bool×(List Bool)×(List D7_)×(List Zw))):Int×(List Int)→Option ((Int×(List Int))⊕(Bool×Int×Bool×(List Bool)×(List D7_)×(List Zw))):=fun (i,i1)=>
 cond (decide (i<(a1.length:Int))) (
  rq (0≤i∧i<a1.length) <|
  (Zdk (a1.getD i.toNat 0)).bind fun r2_=>
  rq (i64 (r2_ - (1:Int))) <|
  rq (0≤(r2_ - (1:Int))∧(r2_ - (1:Int))<i1.length) <|
  cond (decide ((a1.getD i.toNat 0)<(0:Int))) (
   rq (i64 (0 - (a1.getD i.toNat 0))) <|
   rq (i64 ((0 - (a1.getD i.toNat 0)) - (1:Int))) <|
   rq (0≤((0 - (a1.getD i.toNat 0)) - (1:Int))∧((0 - (a1.getD i.toNat 0)) - (1:Int))<(i1.set (r2_ - (1:Int)).toNat (1:Int)).length) <|
   rq (i64 (i+(1:Int))) <|
   some (.inl ((i+(1:Int)),((i1.set (r2_ - (1:Int)).toNat (1:Int)).set ((0 - (a1.getD i.toNat 0)) - (1:Int)).toNat (-1:Int))))) (
   rq (i64 (i+(1:Int))) <|
   some (.inl ((i+(1:Int)),(i1.set (r2_ - (1:Int)).toNat (1:Int)))))) (
  up (Zbu a1 o0_1 o0_3 o1 o2 rec_ i1))
def ZZ (rec_:(List Int)→Int→Bool→(List D7_)→(List Zw)→Option (Bool×Int×Bool×(List Bool)×(List D7_)×(List Zw))) (a1:List Int) (o0_1:Int) (o0_3:Bool) (o1:List D7_) (o2:List Zw):Option (Bool×Int×Bool×(List Bool)×(List D7_)×(List Zw)):=
 cond (o0_1==(0:Int)) (
  some (false,o0_1,true,([]:List Bool),o1,o2)) (
  cond (decide ((1000:Int)≤(o2.length:Int))) (
   some (false,o0_1,true,([]:List Bool),o1,o2)) (
   rq (i64 (o0_1 - (1:Int))) <|
   rq (0≤(12:Int)∧(12:Int)≤Zl∧(12:Int)=(12:Int)) <|
   loop (Zcu a1 o0_1 o0_3 o1 o2 rec_) ((0:Int),(List.replicate (12:Int).toNat 0))))
def Z6:Nat→(List Int)→Int→Bool→(List D7_)→(List Zw)→Option (Bool×Int×Bool×(List Bool)×(List D7_)×(List Zw))
  |0=>fun _ _ _ _ _=>none
  |n_+1=>ZZ (Z6 n_)
def ZkI (a1:List Int):Int×Bool×(List D7_)×(List Zw)→Option (Bool×Int×Bool×(List Bool)×(List D7_)×(List Zw)):=fun (i_12,i_32,i_02,i_22)=>
 (Zdb a1 i_12 i_32 i_02 i_22).bind fun r9_=>
 some (false,i_12,i_32,([]:List Bool),r9_.1,r9_.2)
def ZrM (a1:List Int):Int×Bool×(List D7_)×(List Zw)→Option (Bool×Int×Bool×(List Bool)×(List D7_)×(List Zw)):=fun (i_11,i_31,i_01,i_21)=>
 cond (decide ((1000:Int)≤(i_21.length:Int))) (
  some (false,i_11,true,([]:List Bool),i_01,i_21)) (
  ZkI a1 (i_11,i_31,i_01,i_21))
def ZkJ (a1:List Int) (r4_:Int×Bool×(List Bool)):Int×Int×Bool×(List D7_)×(List Zw)→Option ((Int×Int×Bool×(List D7_)×(List Zw))⊕(Bool×Int×Bool×(List Bool)×(List D7_)×(List Zw))):=fun (i3,i_1,i_3,i_0,i_2)=>
 cond (decide (i3<([r4_.1,(0 - r4_.1)].length:Int))) (
  rq (0≤i3∧i3 < [r4_.1,(0 - r4_.1)].length) <|
  (Zbr a1).bind fun r7_=>
  rq (r7_.length+[([r4_.1,(0 - r4_.1)].getD i3.toNat 0)].length≤Zl) <|
  (Z6 64 (r7_++[([r4_.1,(0 - r4_.1)].getD i3.toNat 0)]) i_1 i_3 i_0 i_2).bind fun r8_=>
  cond r8_.1 (
   some (.inr (r8_.1,r8_.2.1,r8_.2.2.1,r8_.2.2.2.1,r8_.2.2.2.2.1,r8_.2.2.2.2.2))) (
   cond r8_.2.2.1 (
    some (.inr (r8_.1,r8_.2.1,r8_.2.2.1,r8_.2.2.2.1,r8_.2.2.2.2.1,r8_.2.2.2.2.2))) (
    rq (i64 (i3+(1:Int))) <|
    some (.inl ((i3+(1:Int)),r8_.2.1,r8_.2.2.1,r8_.2.2.2.2.1,r8_.2.2.2.2.2))))) (
  up (ZrM a1 (i_1,i_3,i_0,i_2)))
def ZfW (a1:List Int) (o0_1:Int) (o0_3:Bool) (o1:List D7_):(List Int)→Option (Bool×Int×Bool×(List Bool)×(List D7_)×(List Zw)):=fun i2=>
 (Zda o1 i2).bind fun r3_=>
 cond (decide (r3_.1<(0:Int))) (
  (Zi6 r3_.2).bind fun r4_=>
  cond r4_.2.1 (
   some (true,(o0_1 - (1:Int)),o0_3,r4_.2.2,o1,([]:List Zw))) (
   rq (i64 (0 - r4_.1)) <|
   loop (ZkJ a1 r4_) ((0:Int),(o0_1 - (1:Int)),o0_3,o1,([]:List Zw)))) (
  ZkI a1 ((o0_1 - (1:Int)),o0_3,o1,([]:List Zw)))
def ZfX (a1:List Int) (o0_1:Int) (o0_3:Bool) (o1:List D7_):Int×(List Int)→Option ((Int×(List Int))⊕(Bool×Int×Bool×(List Bool)×(List D7_)×(List Zw))):=fun (i,i1)=>
 cond (decide (i<(a1.length:Int))) (
  rq (0≤i∧i<a1.length) <|
  (Zdk (a1.getD i.toNat 0)).bind fun r2_=>
  rq (i64 (r2_ - (1:Int))) <|
  rq (0≤(r2_ - (1:Int))∧(r2_ - (1:Int))<i1.length) <|
  cond (decide ((a1.getD i.toNat 0)<(0:Int))) (
   rq (i64 (0 - (a1.getD i.toNat 0))) <|
   rq (i64 ((0 - (a1.getD i.toNat 0)) - (1:Int))) <|
   rq (0≤((0 - (a1.getD i.toNat 0)) - (1:Int))∧((0 - (a1.getD i.toNat 0)) - (1:Int))<(i1.set (r2_ - (1:Int)).toNat (1:Int)).length) <|
   rq (i64 (i+(1:Int))) <|
   some (.inl ((i+(1:Int)),((i1.set (r2_ - (1:Int)).toNat (1:Int)).set ((0 - (a1.getD i.toNat 0)) - (1:Int)).toNat (-1:Int))))) (
   rq (i64 (i+(1:Int))) <|
   some (.inl ((i+(1:Int)),(i1.set (r2_ - (1:Int)).toNat (1:Int)))))) (
  up (ZfW a1 o0_1 o0_3 o1 i1))
def Zfu (rec_:(List Int)→Int→Bool→(List D7_)→Option (Bool×Int×Bool×(List Bool)×(List D7_)×(List Zw))) (a1:List Int) (o0_1:Int) (o0_3:Bool) (o1:List D7_):Option (Bool×Int×Bool×(List Bool)×(List D7_)×(List Zw)):=
 cond (o0_1==(0:Int)) (
  some (false,o0_1,true,([]:List Bool),o1,([]:List Zw))) (
  cond (decide ((1000:Int)≤(0:Int))) (
   some (false,o0_1,true,([]:List Bool),o1,([]:List Zw))) (
   rq (i64 (o0_1 - (1:Int))) <|
   rq (0≤(12:Int)∧(12:Int)≤Zl∧(12:Int)=(12:Int)) <|
   loop (ZfX a1 o0_1 o0_3 o1) ((0:Int),(List.replicate (12:Int).toNat 0))))
def ZeY:Nat→(List Int)→Int→Bool→(List D7_)→Option (Bool×Int×Bool×(List Bool)×(List D7_)×(List Zw))
  |0=>fun _ _ _ _=>none
  |n_+1=>Zfu (ZeY n_)
def Zg1 (list_:List D7_) (fuel:Int):Option (Int×(List Bool)×(List Zw)):=
 (Zg0 list_).bind fun r1_=>
 cond (!r1_) (
  some ((3:Int),([]:List Bool),([]:List Zw))) (
  (Zr1 fuel).bind fun r2_=>
  cond (!r2_) (
   some ((3:Int),([]:List Bool),([]:List Zw))) (
   (Zbg list_).bind fun r3_=>
   (ZeY 64 ([]:List Int) fuel false r3_).bind fun r4_=>
   cond r4_.1 (
    some ((1:Int),r4_.2.2.2.1,([]:List Zw))) (
    cond r4_.2.2.1 (
     some ((0:Int),([]:List Bool),([]:List Zw))) (
     some ((2:Int),([]:List Bool),r4_.2.2.2.2.2)))))
def ZqU (i:Int):Int×(List Int)→Option ((Int×(List Int))⊕(Bool×(List Int))):=fun (count3,out4)=>
 cond (count3 != (1:Int)) (
  some (.inr (false,([]:List Int)))) (
  rq (i64 (i+(1:Int))) <|
  some (.inl ((i+(1:Int)),out4)))
def Zln (values:List Bool) (i:Int) (r3_:(List Int)):Int×Int×(List Int)→Option ((Int×Int×(List Int))⊕((Int×(List Int))⊕(Bool×(List Int)))):=fun (count2,i2,out3)=>
 cond (decide (i2<(r3_.length:Int))) (
  rq (0≤i2∧i2<r3_.length) <|
  rq (i64 ((r3_.getD i2.toNat 0) - (1:Int))) <|
  rq (0≤((r3_.getD i2.toNat 0) - (1:Int))∧((r3_.getD i2.toNat 0) - (1:Int))<values.length) <|
  cond (values.getD ((r3_.getD i2.toNat 0) - (1:Int)).toNat false) (
   rq (out3.length+[i2].length≤Zl) <|
   rq (i64 (count2+(1:Int))) <|
   rq (i64 (i2+(1:Int))) <|
   some (.inl ((count2+(1:Int)),(i2+(1:Int)),(out3++[i2])))) (
   rq (i64 (i2+(1:Int))) <|
   some (.inl (count2,(i2+(1:Int)),out3)))) (
  up (ZqU i (count2,out3)))
def Zlm (m:(List Int)×(List D5_)) (values:List Bool):Int×(List Int)→Option ((Int×(List Int))⊕(Bool×(List Int))):=fun (i,out2)=>
 cond (decide (i<(m.1.length:Int))) (
  (ZgZ m i).bind fun r3_=>
  loop (Zln values i r3_) ((0:Int),(0:Int),out2)) (
  some (.inr (true,out2)))
def Zj5 (m:(List Int)×(List D5_)) (values:List Bool):Option (Bool×(List Int)):=
 (Zeu m).bind fun r1_=>
 cond (!r1_) (
  some (false,([]:List Int))) (
  cond ((values.length:Int) != (12:Int)) (
   some (false,([]:List Int))) (
   loop (Zlm m values) ((0:Int),([]:List Int))))
def Zyz (r1_:Bool×(List D7_)) (r13_:Bool×(List Int)):Int×(List D6_)→Option (((List D7_)×(List Int))⊕(Int×(List Int)×(List Zw))):=fun (i_11,i_01)=>
 (Zbg r1_.2).bind fun r16_=>
 rq (r16_.length+[(i_01,i_11)].length≤Zl) <|
 rq (r13_.2≠[]) <|
 some (.inl ((r16_++[(i_01,i_11)]),r13_.2))
def ZqW (r1_:Bool×(List D7_)) (r17_:Bool×(List Int)):Int×(List D6_)→Option (((List D7_)×(List Int))⊕(Int×(List Int)×(List Zw))):=fun (i_12,i_02)=>
 (Zbg r1_.2).bind fun r20_=>
 rq (r20_.length+[(i_02,i_12)].length≤Zl) <|
 rq (r17_.2≠[]) <|
 some (.inl ((r20_++[(i_02,i_12)]),r17_.2))
def ZbW (a0:(List Int)×(List D5_)) (a1:List Int) (a2:Int) (r1_:Bool×(List D7_)):(List D7_)×(List Int)→Option (((List D7_)×(List Int))⊕(Int×(List Int)×(List Zw))):=fun (i,i1)=>
 (Zg1 i a2).bind fun r12_=>
 cond (r12_.1==(2:Int)) (
  cond i1.isEmpty (
   some (.inr ((2:Int),([]:List Int),r12_.2.2))) (
   cond (r12_.1==(2:Int)) (
    some (.inr ((1:Int),i1,r12_.2.2))) (
    cond (r12_.1 != (1:Int)) (
     some (.inr ((0:Int),i1,([]:List Zw)))) (
     (Zj5 a0 r12_.2.1).bind fun r13_=>
     (Zfc a1 r13_.2).bind fun r14_=>
     rq (i64 (r14_ - (1:Int))) <|
     (ZdY a0 a1 (r14_ - (1:Int))).bind fun r15_=>
     Zyz r1_ r13_ (r15_.2.1,r15_.2.2))))) (
  cond (r12_.1==(2:Int)) (
   some (.inr ((1:Int),i1,r12_.2.2))) (
   cond (r12_.1 != (1:Int)) (
    some (.inr ((0:Int),i1,([]:List Zw)))) (
    (Zj5 a0 r12_.2.1).bind fun r17_=>
    (Zfc a1 r17_.2).bind fun r18_=>
    rq (i64 (r18_ - (1:Int))) <|
    (ZdY a0 a1 (r18_ - (1:Int))).bind fun r19_=>
    ZqW r1_ r17_ (r19_.2.1,r19_.2.2))))
def ZtN (a0:(List Int)×(List D5_)) (a1:List Int) (a2:Int):Option (Int×(List Int)×(List Zw)):=
 (ZnI a0).bind fun r1_=>
 cond (!r1_.1) (
  some ((3:Int),([]:List Int),([]:List Zw))) (
  (Zd7 a0 a1).bind fun r2_=>
  cond (!r2_) (
   some ((3:Int),([]:List Int),([]:List Zw))) (
   (Zr1 a2).bind fun r3_=>
   cond (!r3_) (
    some ((3:Int),([]:List Int),([]:List Zw))) (
    loop (ZbW a0 a1 a2 r1_) (r1_.2,([]:List Int)))))
end
end Go.AE.Y
