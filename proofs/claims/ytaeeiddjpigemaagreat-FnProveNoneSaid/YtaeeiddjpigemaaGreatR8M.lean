/-
  Models of the functions: what each computes, as a Lean function into Option. Definitions alone.
-/
import Derived.Test.YtaeeiddjpigemaaGreatAEx3
namespace Go.AE.Y
open Go Go.AE
set_option linter.unusedVariables false
noncomputable section
abbrev y0_:Ty:=(.int .i64)
abbrev y1_:Ty:=(.pair (.sl (.int .u8)) y0_)
abbrev D1_:Type:=(List Int)×Int
abbrev y2_:Ty:=(.pair y0_ (.sl (.sl y0_)))
abbrev D2_:Type:=Int×(List (List Int))
abbrev y3_:Ty:=(.pair (.sl y0_) y2_)
abbrev D3_:Type:=(List Int)×Int×(List (List Int))
abbrev y4_:Ty:=(.pair (.sl y0_) y3_)
abbrev D4_:Type:=(List Int)×(List Int)×Int×(List (List Int))
abbrev y5_:Ty:=(.pair y0_ y4_)
abbrev D5_:Type:=Int×(List Int)×(List Int)×Int×(List (List Int))
abbrev y6_:Ty:=(.pair y0_ y0_)
abbrev D6_:Type:=Int×Int
abbrev y7_:Ty:=(.pair (.sl y6_) y0_)
abbrev D7_:Type:=(List (Int×Int))×Int
abbrev y8_:Ty:=(.pair y0_ y7_)
abbrev D8_:Type:=Int×(List (Int×Int))×Int
abbrev y9_:Ty:=(.pair y0_ y8_)
abbrev D9_:Type:=Int×Int×(List (Int×Int))×Int
abbrev Zcb:Ty:=(.pair y0_ y9_)
abbrev Zw:Type:=Int×Int×Int×(List (Int×Int))×Int
abbrev ZCK:Ty:=(.pair (.sl y0_) (.sl y5_))
abbrev ZNv:Type:=(List Int)×(List (Int×(List Int)×(List Int)×Int×(List (List Int))))
def ZlK:(List Int)→Option D1_:=fun code1=>
 some (code1,(0:Int))
def Zpn (code:List Int):Option D1_:=
 cond (decide ((2000:Int)<(code.length:Int))) (
  rq (0≤(2000:Int)∧(2000:Int)≤code.length) <|
  ZlK (code.take (2000:Int).toNat)) (
  ZlK code)
def Zdi (a1:Int) (o0:(List Int)×Int):Option (Int×D1_):=
 rq (i64 (o0.2+(1:Int))) <|
 cond (decide (a1<(1:Int))) (
  some ((0:Int),(o0.1,(o0.2+(1:Int))))) (
  cond ((o0.1.length:Int)==(0:Int)) (
   some ((0:Int),(o0.1,(o0.2+(1:Int))))) (
   rq (i64 ((o0.2+(1:Int)) - (1:Int))) <|
   cond (decide (((o0.2+(1:Int)) - (1:Int))<(o0.1.length:Int))) (
    rq (0≤((o0.2+(1:Int)) - (1:Int))∧((o0.2+(1:Int)) - (1:Int))<o0.1.length) <|
    rq (i64 (o0.1.getD ((o0.2+(1:Int)) - (1:Int)).toNat 0)) <|
    rq (1≤a1∧0≤(o0.1.getD ((o0.2+(1:Int)) - (1:Int)).toNat 0)) <|
    some (((o0.1.getD ((o0.2+(1:Int)) - (1:Int)).toNat 0) % a1),(o0.1,(o0.2+(1:Int))))) (
    rq (1≤(o0.1.length:Int)∧0≤((o0.2+(1:Int)) - (1:Int))) <|
    rq (0≤(((o0.2+(1:Int)) - (1:Int)) % (o0.1.length:Int))∧(((o0.2+(1:Int)) - (1:Int)) % (o0.1.length:Int))<o0.1.length) <|
    rq (i64 (o0.1.getD (((o0.2+(1:Int)) - (1:Int)) % (o0.1.length:Int)).toNat 0)) <|
    rq (i64 ((o0.1.getD (((o0.2+(1:Int)) - (1:Int)) % (o0.1.length:Int)).toNat 0)*(131:Int))) <|
    rq (i64 (((o0.2+(1:Int)) - (1:Int))*(7:Int))) <|
    rq (i64 ((((o0.2+(1:Int)) - (1:Int))*(7:Int))+(3:Int))) <|
    rq (1≤(o0.1.length:Int)∧0≤((((o0.2+(1:Int)) - (1:Int))*(7:Int))+(3:Int))) <|
    rq (0≤(((((o0.2+(1:Int)) - (1:Int))*(7:Int))+(3:Int)) % (o0.1.length:Int))∧(((((o0.2+(1:Int)) - (1:Int))*(7:Int))+(3:Int)) % (o0.1.length:Int))<o0.1.length) <|
    rq (i64 (o0.1.getD (((((o0.2+(1:Int)) - (1:Int))*(7:Int))+(3:Int)) % (o0.1.length:Int)).toNat 0)) <|
    rq (i64 ((o0.1.getD (((((o0.2+(1:Int)) - (1:Int))*(7:Int))+(3:Int)) % (o0.1.length:Int)).toNat 0)*(1117:Int))) <|
    rq (i64 (((o0.1.getD (((o0.2+(1:Int)) - (1:Int)) % (o0.1.length:Int)).toNat 0)*(131:Int))+((o0.1.getD (((((o0.2+(1:Int)) - (1:Int))*(7:Int))+(3:Int)) % (o0.1.length:Int)).toNat 0)*(1117:Int)))) <|
    rq (i64 (((o0.2+(1:Int)) - (1:Int))*(29:Int))) <|
    rq (i64 ((((o0.1.getD (((o0.2+(1:Int)) - (1:Int)) % (o0.1.length:Int)).toNat 0)*(131:Int))+((o0.1.getD (((((o0.2+(1:Int)) - (1:Int))*(7:Int))+(3:Int)) % (o0.1.length:Int)).toNat 0)*(1117:Int)))+(((o0.2+(1:Int)) - (1:Int))*(29:Int)))) <|
    rq (1≤(o0.1.length:Int)∧0≤((o0.2+(1:Int)) - (1:Int))) <|
    rq (i64 ((((o0.2+(1:Int)) - (1:Int)) / (o0.1.length:Int))*(53:Int))) <|
    rq (i64 (((((o0.1.getD (((o0.2+(1:Int)) - (1:Int)) % (o0.1.length:Int)).toNat 0)*(131:Int))+((o0.1.getD (((((o0.2+(1:Int)) - (1:Int))*(7:Int))+(3:Int)) % (o0.1.length:Int)).toNat 0)*(1117:Int)))+(((o0.2+(1:Int)) - (1:Int))*(29:Int)))+((((o0.2+(1:Int)) - (1:Int)) / (o0.1.length:Int))*(53:Int)))) <|
    rq (1≤(64:Int)∧0≤(((((o0.1.getD (((o0.2+(1:Int)) - (1:Int)) % (o0.1.length:Int)).toNat 0)*(131:Int))+((o0.1.getD (((((o0.2+(1:Int)) - (1:Int))*(7:Int))+(3:Int)) % (o0.1.length:Int)).toNat 0)*(1117:Int)))+(((o0.2+(1:Int)) - (1:Int))*(29:Int)))+((((o0.2+(1:Int)) - (1:Int)) / (o0.1.length:Int))*(53:Int)))) <|
    rq (0≤(((((o0.1.getD (((o0.2+(1:Int)) - (1:Int)) % (o0.1.length:Int)).toNat 0)*(131:Int))+((o0.1.getD (((((o0.2+(1:Int)) - (1:Int))*(7:Int))+(3:Int)) % (o0.1.length:Int)).toNat 0)*(1117:Int)))+(((o0.2+(1:Int)) - (1:Int))*(29:Int)))+((((o0.2+(1:Int)) - (1:Int)) / (o0.1.length:Int))*(53:Int)))∧0≤((((((o0.1.getD (((o0.2+(1:Int)) - (1:Int)) % (o0.1.length:Int)).toNat 0)*(131:Int))+((o0.1.getD (((((o0.2+(1:Int)) - (1:Int))*(7:Int))+(3:Int)) % (o0.1.length:Int)).toNat 0)*(1117:Int)))+(((o0.2+(1:Int)) - (1:Int))*(29:Int)))+((((o0.2+(1:Int)) - (1:Int)) / (o0.1.length:Int))*(53:Int))) / (64:Int))) <|
    rq (1≤a1∧0≤(((((((o0.1.getD (((o0.2+(1:Int)) - (1:Int)) % (o0.1.length:Int)).toNat 0)*(131:Int))+((o0.1.getD (((((o0.2+(1:Int)) - (1:Int))*(7:Int))+(3:Int)) % (o0.1.length:Int)).toNat 0)*(1117:Int)))+(((o0.2+(1:Int)) - (1:Int))*(29:Int)))+((((o0.2+(1:Int)) - (1:Int)) / (o0.1.length:Int))*(53:Int))).toNat ^^^ ((((((o0.1.getD (((o0.2+(1:Int)) - (1:Int)) % (o0.1.length:Int)).toNat 0)*(131:Int))+((o0.1.getD (((((o0.2+(1:Int)) - (1:Int))*(7:Int))+(3:Int)) % (o0.1.length:Int)).toNat 0)*(1117:Int)))+(((o0.2+(1:Int)) - (1:Int))*(29:Int)))+((((o0.2+(1:Int)) - (1:Int)) / (o0.1.length:Int))*(53:Int))) / (64:Int)).toNat:Nat):Int)) <|
    some (((((((((o0.1.getD (((o0.2+(1:Int)) - (1:Int)) % (o0.1.length:Int)).toNat 0)*(131:Int))+((o0.1.getD (((((o0.2+(1:Int)) - (1:Int))*(7:Int))+(3:Int)) % (o0.1.length:Int)).toNat 0)*(1117:Int)))+(((o0.2+(1:Int)) - (1:Int))*(29:Int)))+((((o0.2+(1:Int)) - (1:Int)) / (o0.1.length:Int))*(53:Int))).toNat ^^^ ((((((o0.1.getD (((o0.2+(1:Int)) - (1:Int)) % (o0.1.length:Int)).toNat 0)*(131:Int))+((o0.1.getD (((((o0.2+(1:Int)) - (1:Int))*(7:Int))+(3:Int)) % (o0.1.length:Int)).toNat 0)*(1117:Int)))+(((o0.2+(1:Int)) - (1:Int))*(29:Int)))+((((o0.2+(1:Int)) - (1:Int)) / (o0.1.length:Int))*(53:Int))) / (64:Int)).toNat:Nat):Int) % a1),(o0.1,(o0.2+(1:Int)))))))
def Zbj (list_:List Int) (r_:(List Int)×Int):Option (Int×D1_):=
 (Zdi (list_.length:Int) r_).bind fun r1_=>
 rq (0≤r1_.1∧r1_.1<list_.length) <|
 some ((list_.getD r1_.1.toNat 0),r1_.2)
def ZdQ (i3:(List Int)×Int):(List Int)→Option (D1_×(List Int)):=fun i12=>
 cond (decide ((1:Int)<(i12.length:Int))) (
  (Zdi (3:Int) i3).bind fun r3_=>
  cond (r3_.1==(0:Int)) (
   rq (0≤(0:Int)∧(0:Int)<i12.length) <|
   rq (0≤(1:Int)∧(1:Int)<i12.length) <|
   rq (0≤(0:Int)∧(0:Int)<i12.length) <|
   rq (0≤(1:Int)∧(1:Int)<(i12.set (0:Int).toNat (i12.getD (1:Int).toNat 0)).length) <|
   some (r3_.2,((i12.set (0:Int).toNat (i12.getD (1:Int).toNat 0)).set (1:Int).toNat (i12.getD (0:Int).toNat 0)))) (
   some (r3_.2,i12))) (
  some (i3,i12))
def Zlw (a2:Int) (i3:(List Int)×Int):Int×(List Int)→Option ((Int×(List Int))⊕(D1_×(List Int))):=fun (i10,i11)=>
 cond (decide (i10<a2)) (
  rq (i11.length+[i10].length≤Zl) <|
  rq (i64 (i10+(1:Int))) <|
  some (.inl ((i10+(1:Int)),(i11++[i10])))) (
  up (ZdQ i3 i11))
def Zlx (a2:Int) (i3:(List Int)×Int):Int×(List Int)→Option ((Int×(List Int))⊕(D1_×(List Int))):=fun (i8,i9)=>
 cond (decide (i8<a2)) (
  rq (i9.length+[i8].length≤Zl) <|
  rq (i64 (i8+(1:Int))) <|
  some (.inl ((i8+(1:Int)),(i9++[i8])))) (
  up (ZdQ i3 i9))
def Zfq (a2:Int) (i3:(List Int)×Int):(List Int)→Option (D1_×(List Int)):=fun i7=>
 cond (decide ((i7.length:Int)<a2)) (
  loop (Zlw a2 i3) ((0:Int),([]:List Int))) (
  cond ((i7.length:Int)==(0:Int)) (
   loop (Zlx a2 i3) ((0:Int),([]:List Int))) (
   ZdQ i3 i7))
def Zh5 (a2:Int) (o1:List Int) (i3:(List Int)×Int):Int×(List Int)→Option ((Int×(List Int))⊕(D1_×(List Int))):=fun (i5,i6)=>
 cond (decide ((i6.length:Int)<a2)) (
  cond (decide (i5<(o1.length:Int))) (
   cond ((i6.length:Int)==(0:Int)) (
    rq (i6.length+[i5].length≤Zl) <|
    rq (i64 (i5+(1:Int))) <|
    some (.inl ((i5+(1:Int)),(i6++[i5])))) (
    rq (i64 ((i6.length:Int) - (1:Int))) <|
    rq (0≤((i6.length:Int) - (1:Int))∧((i6.length:Int) - (1:Int))<i6.length) <|
    cond (decide ((i6.getD ((i6.length:Int) - (1:Int)).toNat 0)<i5)) (
     rq (i6.length+[i5].length≤Zl) <|
     rq (i64 (i5+(1:Int))) <|
     some (.inl ((i5+(1:Int)),(i6++[i5])))) (
     rq (i64 (i5+(1:Int))) <|
     some (.inl ((i5+(1:Int)),i6))))) (
   up (Zfq a2 i3 i6))) (
  up (Zfq a2 i3 i6))
def Zh4 (a2:Int) (o1:List Int):D1_×(List Int)→Option (D1_×(List Int)):=fun (i3,i4)=>
 loop (Zh5 a2 o1 i3) ((0:Int),i4)
def Zh6 (a2:Int) (o1:List Int):Int×D1_×(List Int)→Option ((Int×D1_×(List Int))⊕(D1_×(List Int))):=fun (i,i1,i2)=>
 cond (decide (i<(o1.length:Int))) (
  (Zdi (3:Int) i1).bind fun r2_=>
  cond (decide ((0:Int)<r2_.1)) (
   rq (i2.length+[i].length≤Zl) <|
   rq (i64 (i+(1:Int))) <|
   some (.inl ((i+(1:Int)),r2_.2,(i2++[i])))) (
   rq (i64 (i+(1:Int))) <|
   some (.inl ((i+(1:Int)),r2_.2,i2)))) (
  up (Zh4 a2 o1 (i1,i2)))
def ZhE (a2:Int) (o0:(List Int)×Int) (o1:List Int) (o2:List D5_):Option (D1_×(List Int)):=
 loop (Zh6 a2 o1) ((0:Int),o0,([]:List Int))
def Zlu (r1_:Int×D1_) (r2_:D1_×(List Int)):D1_×(List Int)→Option (D1_×Int×Int×(List Int)×(List Int)×(List (List Int))):=fun (i2,i_21)=>
 (Zbj [(1:Int),(2:Int),(0:Int),(-1:Int),(3:Int),(-3:Int),(4:Int)] i2).bind fun r6_=>
 some (r6_.2,r1_.1,r6_.1,r2_.2,i_21,([]:List (List Int)))
def Zh1 (r1_:Int×D1_) (r2_:D1_×(List Int)):Int×D1_×(List Int)→Option ((Int×D1_×(List Int))⊕(D1_×Int×Int×(List Int)×(List Int)×(List (List Int)))):=fun (i,i1,i_2)=>
 cond (decide (i<(r2_.2.length:Int))) (
  (Zbj [(1:Int),(-1:Int),(2:Int),(1:Int),(-2:Int),(3:Int)] i1).bind fun r5_=>
  rq (i_2.length+[r5_.1].length≤Zl) <|
  rq (i64 (i+(1:Int))) <|
  some (.inl ((i+(1:Int)),r5_.2,(i_2++[r5_.1])))) (
  up (Zlu r1_ r2_ (i1,i_2)))
def Zlv (i3:Int) (i_4:List (List Int)):D1_×(List Int)→Option ((Int×D1_×(List (List Int)))⊕(D1_×Int×Int×(List Int)×(List Int)×(List (List Int)))):=fun (i13,i14)=>
 rq (i_4.length+[i14].length≤Zl) <|
 rq (i64 (i3 - (1:Int))) <|
 some (.inl ((i3 - (1:Int)),i13,(i_4++[i14])))
def Zh3 (r2_:D1_×(List Int)) (i3:Int) (i_4:List (List Int)):Int×D1_×(List Int)→Option ((Int×D1_×(List Int))⊕((Int×D1_×(List (List Int)))⊕(D1_×Int×Int×(List Int)×(List Int)×(List (List Int))))):=fun (i10,i11,i12)=>
 cond (decide (i10<(r2_.2.length:Int))) (
  (Zdi (4:Int) i11).bind fun r11_=>
  rq (i12.length+[r11_.1].length≤Zl) <|
  rq (i64 (i10+(1:Int))) <|
  some (.inl ((i10+(1:Int)),r11_.2,(i12++[r11_.1])))) (
  up (Zlv i3 i_4 (i11,i12)))
def Zh2 (r1_:Int×D1_) (r2_:D1_×(List Int)):Int×D1_×(List (List Int))→Option ((Int×D1_×(List (List Int)))⊕(D1_×Int×Int×(List Int)×(List Int)×(List (List Int)))):=fun (i3,i9,i_4)=>
 cond (decide ((0:Int)<i3)) (
  loop (Zh3 r2_ i3 i_4) ((0:Int),i9,([]:List Int))) (
  some (.inr (i9,r1_.1,(0:Int),r2_.2,([]:List Int),i_4)))
def ZkL (o0:(List Int)×Int) (o1:List Int) (o2:List D5_):Option (D1_×Int×Int×(List Int)×(List Int)×(List (List Int))):=
 (Zbj [(1:Int),(2:Int),(3:Int),(4:Int),(1:Int)] o0).bind fun r1_=>
 (ZhE (1:Int) r1_.2 o1 o2).bind fun r2_=>
 cond (r1_.1==(1:Int)) (
  loop (Zh1 r1_ r2_) ((0:Int),r2_.1,([]:List Int))) (
  cond (r1_.1==(3:Int)) (
   (Zbj [(3:Int),(4:Int),(2:Int),(6:Int),(0:Int),(8:Int)] r2_.1).bind fun r7_=>
   loop (Zh2 r1_ r2_) (r7_.1,r7_.2,([]:List (List Int)))) (
   cond (r1_.1==(4:Int)) (
    (ZhE (2:Int) r2_.1 o1 o2).bind fun r12_=>
    rq (0≤(2:Int)∧(2:Int)≤r12_.2.length) <|
    some (r12_.1,r1_.1,(0:Int),(r12_.2.take (2:Int).toNat),([]:List Int),([]:List (List Int)))) (
    some (r2_.1,r1_.1,(0:Int),r2_.2,([]:List Int),([]:List (List Int))))))
def ZlR (i_03:List Int):Int×D1_×(List D5_)→Option ((Int×D1_×(List D5_))⊕(D1_×(List Int)×(List D5_))):=fun (i8,i9,i_1)=>
 cond (decide ((0:Int)<i8)) (
  (ZkL i9 i_03 i_1).bind fun r8_=>
  rq (i_1.length+[(r8_.2.1,(r8_.2.2.2.1,(r8_.2.2.2.2.1,(r8_.2.2.1,r8_.2.2.2.2.2))))].length≤Zl) <|
  rq (i64 (i8 - (1:Int))) <|
  some (.inl ((i8 - (1:Int)),r8_.1,(i_1++[(r8_.2.1,(r8_.2.2.2.1,(r8_.2.2.2.2.1,(r8_.2.2.1,r8_.2.2.2.2.2))))])))) (
  some (.inr (i9,i_03,i_1)))
def ZlQ (i2:(List Int)×Int):(List Int)→Option (D1_×(List Int)×(List D5_)):=fun i_03=>
 (Zbj [(2:Int),(3:Int),(1:Int),(4:Int),(0:Int)] i2).bind fun r5_=>
 loop (ZlR i_03) (r5_.1,r5_.2,([]:List D5_))
def Zgi (i_02:List Int):Int×Int→Option ((Int×Int)⊕((Int×(List Int))⊕(D1_×(List Int)×(List D5_)))):=fun (i6,i7)=>
 cond (decide (i7<(i_02.length:Int))) (
  rq (0≤i7∧i7<i_02.length) <|
  rq (i64 (i6+(i_02.getD i7.toNat 0))) <|
  rq (i64 ((i6+(i_02.getD i7.toNat 0))+(1:Int))) <|
  rq (i64 (i7+(1:Int))) <|
  some (.inl (((i6+(i_02.getD i7.toNat 0))+(1:Int)),(i7+(1:Int))))) (
  cond (decide ((12:Int)<i6)) (
   rq (i64 ((i_02.length:Int) - (1:Int))) <|
   rq (0≤((i_02.length:Int) - (1:Int))∧((i_02.length:Int) - (1:Int))≤i_02.length) <|
   some (.inr (.inl ((0:Int),(i_02.take ((i_02.length:Int) - (1:Int)).toNat))))) (
   some (.inr (.inl (i6,i_02)))))
def ZlS (i2:(List Int)×Int):Int×(List Int)→Option ((Int×(List Int))⊕(D1_×(List Int)×(List D5_))):=fun (i3,i_02)=>
 cond (i3==(0:Int)) (
  loop (Zgi i_02) (i3,(0:Int))) (
  up (ZlQ i2 i_02))
def ZlP:D1_×(List Int)→Option (D1_×(List Int)×(List D5_)):=fun (i2,i_01)=>
 loop (ZlS i2) ((0:Int),i_01)
def ZlT:Int×D1_×(List Int)→Option ((Int×D1_×(List Int))⊕(D1_×(List Int)×(List D5_))):=fun (i,i1,i_0)=>
 cond (decide ((0:Int)<i)) (
  (Zbj [(2:Int),(1:Int),(3:Int),(2:Int),(0:Int)] i1).bind fun r4_=>
  rq (i_0.length+[r4_.1].length≤Zl) <|
  rq (i64 (i - (1:Int))) <|
  some (.inl ((i - (1:Int)),r4_.2,(i_0++[r4_.1])))) (
  up (ZlP (i1,i_0)))
def Zpr (o0:(List Int)×Int):Option (D1_×(List Int)×(List D5_)):=
 (Zbj [(3:Int),(2:Int),(4:Int),(3:Int)] o0).bind fun r1_=>
 loop (ZlT) (r1_.1,r1_.2,([]:List Int))
def ZuQ (m:(List Int)×(List D5_)) (i:Int) (out_1:List D5_):(List (List Int))→Option ((Int×(List D5_))⊕((List Int)×(List D5_))):=fun y_43=>
 rq (out_1.length+[((m.2.getD i.toNat (0,([],([],(0,[]))))).1,((([]:List Int)++(m.2.getD i.toNat (0,([],([],(0,[]))))).2.1),((([]:List Int)++(m.2.getD i.toNat (0,([],([],(0,[]))))).2.2.1),((m.2.getD i.toNat (0,([],([],(0,[]))))).2.2.2.1,y_43))))].length≤Zl) <|
 rq (i64 (i+(1:Int))) <|
 some (.inl ((i+(1:Int)),(out_1++[((m.2.getD i.toNat (0,([],([],(0,[]))))).1,((([]:List Int)++(m.2.getD i.toNat (0,([],([],(0,[]))))).2.1),((([]:List Int)++(m.2.getD i.toNat (0,([],([],(0,[]))))).2.2.1),((m.2.getD i.toNat (0,([],([],(0,[]))))).2.2.2.1,y_43))))])))
def Zhh (m:(List Int)×(List D5_)) (i:Int) (out_1:List D5_):Int×(List (List Int))→Option ((Int×(List (List Int)))⊕((Int×(List D5_))⊕((List Int)×(List D5_)))):=fun (k_1,y_42)=>
 cond (decide (k_1<((m.2.getD i.toNat (0,([],([],(0,[]))))).2.2.2.2.length:Int))) (
  rq (0≤k_1∧k_1<(m.2.getD i.toNat (0,([],([],(0,[]))))).2.2.2.2.length) <|
  rq (([]:List Int).length+((m.2.getD i.toNat (0,([],([],(0,[]))))).2.2.2.2.getD k_1.toNat []).length≤Zl) <|
  rq (y_42.length+[(([]:List Int)++((m.2.getD i.toNat (0,([],([],(0,[]))))).2.2.2.2.getD k_1.toNat []))].length≤Zl) <|
  rq (i64 (k_1+(1:Int))) <|
  some (.inl ((k_1+(1:Int)),(y_42++[(([]:List Int)++((m.2.getD i.toNat (0,([],([],(0,[]))))).2.2.2.2.getD k_1.toNat []))])))) (
  up (ZuQ m i out_1 y_42))
def ZuP (m:(List Int)×(List D5_)) (i:Int) (out_1:List D5_):Unit→Option ((Int×(List D5_))⊕((List Int)×(List D5_))):=fun _=>
 loop (Zhh m i out_1) ((0:Int),([]:List (List Int)))
def ZuO (m:(List Int)×(List D5_)) (i:Int) (out_1:List D5_):Unit→Option ((Int×(List D5_))⊕((List Int)×(List D5_))):=fun _=>
 rq (([]:List Int).length+(m.2.getD i.toNat (0,([],([],(0,[]))))).2.1.length≤Zl) <|
 rq (([]:List Int).length+(m.2.getD i.toNat (0,([],([],(0,[]))))).2.2.1.length≤Zl) <|
 ZuP m i out_1 ()
def Zqa (m:(List Int)×(List D5_)):Int×(List D5_)→Option ((Int×(List D5_))⊕((List Int)×(List D5_))):=fun (i,out_1)=>
 cond (decide (i<(m.2.length:Int))) (
  rq (0≤i∧i<m.2.length) <|
  ZuO m i out_1 ()) (
  some (.inr ((([]:List Int)++m.1),out_1)))
def ZuN (m:(List Int)×(List D5_)):Unit→Option ((List Int)×(List D5_)):=fun _=>
 rq (([]:List Int).length+m.1.length≤Zl) <|
 loop (Zqa m) ((0:Int),([]:List D5_))
def Zqm (m:(List Int)×(List D5_)):Option ((List Int)×(List D5_)):=
 ZuN m ()
def ZkN (r1_:(List Int)×(List D5_)) (r2_:Int×D1_):(List Int)→Option ((List Int)⊕(D1_×(List Int)×(List D5_))):=fun i_0=>
 cond (decide ((i_0.length:Int)≤(5:Int))) (
  rq (i_0.length+[(0:Int)].length≤Zl) <|
  some (.inl (i_0++[(0:Int)]))) (
  some (.inr (r2_.2,i_0,r1_.2)))
def ZnQ (a1:(List Int)×(List D5_)) (o0:(List Int)×Int):Option (D1_×(List Int)×(List D5_)):=
 (Zqm a1).bind fun r1_=>
 (Zdi (50:Int) o0).bind fun r2_=>
 cond (r2_.1==(0:Int)) (
  cond (decide ((0:Int)<(r1_.1.length:Int))) (
   (Zbj [(-1:Int),(4:Int),(3:Int),(9223372036854775807:Int)] r2_.2).bind fun r4_=>
   rq (0≤(0:Int)∧(0:Int)<r1_.1.length) <|
   some (r4_.2,(r1_.1.set (0:Int).toNat r4_.1),r1_.2)) (
   some (r2_.2,r1_.1,r1_.2))) (
  cond (r2_.1==(1:Int)) (
   loop (ZkN r1_ r2_) r1_.1) (
   cond (r2_.1==(2:Int)) (
    cond (decide ((0:Int)<(r1_.2.length:Int))) (
     (Zbj [(0:Int),(5:Int),(1:Int),(2:Int),(3:Int)] r2_.2).bind fun r6_=>
     rq (0≤(0:Int)∧(0:Int)<r1_.2.length) <|
     some (r6_.2,r1_.1,(r1_.2.set (0:Int).toNat (r6_.1,(r1_.2.getD (0:Int).toNat (0,([],([],(0,[]))))).2)))) (
     some (r2_.2,r1_.1,r1_.2))) (
    cond (r2_.1==(3:Int)) (
     cond (decide ((0:Int)<(r1_.2.length:Int))) (
      rq (i64 ((r1_.2.length:Int) - (1:Int))) <|
      rq (0≤((r1_.2.length:Int) - (1:Int))∧((r1_.2.length:Int) - (1:Int))<r1_.2.length) <|
      cond (decide ((0:Int)<((r1_.2.getD ((r1_.2.length:Int) - (1:Int)).toNat (0,([],([],(0,[]))))).2.1.length:Int))) (
       rq (i64 ((r1_.2.length:Int) - (1:Int))) <|
       rq (0≤((r1_.2.length:Int) - (1:Int))∧((r1_.2.length:Int) - (1:Int))<r1_.2.length) <|
       (Zbj [(-1:Int),(5:Int),(1:Int),(0:Int)] r2_.2).bind fun r8_=>
       rq (0≤(0:Int)∧(0:Int)<((r1_.2.set ((r1_.2.length:Int) - (1:Int)).toNat (r1_.2.getD ((r1_.2.length:Int) - (1:Int)).toNat (0,([],([],(0,[])))))).getD ((r1_.2.length:Int) - (1:Int)).toNat (0,([],([],(0,[]))))).2.1.length) <|
       some (r8_.2,r1_.1,((r1_.2.set ((r1_.2.length:Int) - (1:Int)).toNat (r1_.2.getD ((r1_.2.length:Int) - (1:Int)).toNat (0,([],([],(0,[])))))).set ((r1_.2.length:Int) - (1:Int)).toNat (((r1_.2.set ((r1_.2.length:Int) - (1:Int)).toNat (r1_.2.getD ((r1_.2.length:Int) - (1:Int)).toNat (0,([],([],(0,[])))))).getD ((r1_.2.length:Int) - (1:Int)).toNat (0,([],([],(0,[]))))).1,((((r1_.2.set ((r1_.2.length:Int) - (1:Int)).toNat (r1_.2.getD ((r1_.2.length:Int) - (1:Int)).toNat (0,([],([],(0,[])))))).getD ((r1_.2.length:Int) - (1:Int)).toNat (0,([],([],(0,[]))))).2.1.set (0:Int).toNat r8_.1),((r1_.2.set ((r1_.2.length:Int) - (1:Int)).toNat (r1_.2.getD ((r1_.2.length:Int) - (1:Int)).toNat (0,([],([],(0,[])))))).getD ((r1_.2.length:Int) - (1:Int)).toNat (0,([],([],(0,[]))))).2.2))))) (
       some (r2_.2,r1_.1,(r1_.2.set ((r1_.2.length:Int) - (1:Int)).toNat (r1_.2.getD ((r1_.2.length:Int) - (1:Int)).toNat (0,([],([],(0,[]))))))))) (
      some (r2_.2,r1_.1,r1_.2))) (
     cond (r2_.1==(4:Int)) (
      cond (decide ((0:Int)<(r1_.2.length:Int))) (
       (Zbj [(1001:Int),(-1001:Int),(1000:Int)] r2_.2).bind fun r10_=>
       rq (0≤(0:Int)∧(0:Int)<r1_.2.length) <|
       some (r10_.2,r1_.1,(r1_.2.set (0:Int).toNat ((r1_.2.getD (0:Int).toNat (0,([],([],(0,[]))))).1,((r1_.2.getD (0:Int).toNat (0,([],([],(0,[]))))).2.1,((r1_.2.getD (0:Int).toNat (0,([],([],(0,[]))))).2.2.1,(r10_.1,(r1_.2.getD (0:Int).toNat (0,([],([],(0,[]))))).2.2.2.2))))))) (
       some (r2_.2,r1_.1,r1_.2))) (
      cond (r2_.1==(5:Int)) (
       some (r2_.2,([]:List Int),([]:List D5_))) (
       some (r2_.2,r1_.1,r1_.2)))))))
def Zlz:D1_×(List Int)→Option (D1_×(List Int)):=fun (r_2,out1)=>
 (Zdi (30:Int) r_2).bind fun r3_=>
 cond (r3_.1==(0:Int)) (
  cond (decide ((0:Int)<(out1.length:Int))) (
   (Zbj [(10:Int),(-10:Int),(9:Int),(9223372036854775807:Int)] r3_.2).bind fun r4_=>
   rq (0≤(0:Int)∧(0:Int)<out1.length) <|
   some (r4_.2,(out1.set (0:Int).toNat r4_.1))) (
   some (r3_.2,out1))) (
  cond (r3_.1==(1:Int)) (
   rq (out1.length+[(1:Int)].length≤Zl) <|
   some (r3_.2,(out1++[(1:Int)]))) (
   some (r3_.2,out1)))
def Zh7 (o1:List Int):Int×D1_×(List Int)→Option ((Int×D1_×(List Int))⊕(D1_×(List Int))):=fun (i,r_1,out)=>
 cond (decide (i<(o1.length:Int))) (
  (Zbj [(1:Int),(-1:Int),(2:Int),(0:Int),(-2:Int),(3:Int)] r_1).bind fun r2_=>
  rq (out.length+[r2_.1].length≤Zl) <|
  rq (i64 (i+(1:Int))) <|
  some (.inl ((i+(1:Int)),r2_.2,(out++[r2_.1])))) (
  up (Zlz (r_1,out)))
def ZkV (r_:(List Int)×Int) (o1:List Int) (o2:List D5_):Option (D1_×(List Int)):=
 loop (Zh7 o1) ((0:Int),r_,([]:List Int))
def Zgg (code:List Int):Option (Int×(List Int)×(List Int)×(List D5_)):=
 (Zpn code).bind fun r1_=>
 (Zpr r1_).bind fun r2_=>
 (ZnQ r2_.2 r2_.1).bind fun r3_=>
 (ZkV r3_.1 r3_.2.1 r3_.2.2).bind fun r4_=>
 (Zbj [(300:Int),(500:Int),(200:Int),(2:Int),(0:Int),(2001:Int),(-1:Int)] r4_.1).bind fun r6_=>
 some (r6_.1,r4_.2,r3_.2.1,r3_.2.2)
def ZbN (n:Int) (low:Int) (high:Int):Option Bool:=
 cond (decide (low≤n)) (
  some (decide (n≤high))) (
  some false)
def Zc1 (s_:List Int) (v:Int):Int→Option (Int⊕Int):=fun i=>
 cond (decide (i<(s_.length:Int))) (
  rq (0≤i∧i<s_.length) <|
  cond (v==(s_.getD i.toNat 0)) (
   some (.inr i)) (
   rq (i64 (i+(1:Int))) <|
   some (.inl (i+(1:Int))))) (
  some (.inr (-1:Int)))
def ZkB (s_:List Int) (v:Int):Option Int:=
 loop (Zc1 s_ v) (0:Int)
def Zcu (s_:List Int) (v:Int):Option Bool:=
 (ZkB s_ v).bind fun r1_=>
 some (decide ((0:Int)≤r1_))
def Zn5 (n:Int):Option Bool:=
 cond (n==(0:Int)) (
  some true) (
  (ZbN n (-9:Int) (9:Int)).bind fun r1_=>
  some (!r1_))
def ZbB (s_:List Int):Int→Option (Int⊕Int):=fun i=>
 cond (decide (i<(s_.length:Int))) (
  rq (0≤i∧i<s_.length) <|
  (Zn5 (s_.getD i.toNat 0)).bind fun r1_=>
  cond r1_ (
   some (.inr i)) (
   rq (i64 (i+(1:Int))) <|
   some (.inl (i+(1:Int))))) (
  some (.inr (-1:Int)))
def ZdN (s_:List Int):Option Int:=
 loop (ZbB s_) (0:Int)
def Zcd (s_:List Int):Option Bool:=
 (ZdN s_).bind fun r1_=>
 some (decide ((0:Int)≤r1_))
def Zmm (n:Int):Option Bool:=
 (ZbN n (0:Int) (3:Int)).bind fun r1_=>
 some (!r1_)
def Zbo (s_:List Int):Int→Option (Int⊕Int):=fun i=>
 cond (decide (i<(s_.length:Int))) (
  rq (0≤i∧i<s_.length) <|
  (Zmm (s_.getD i.toNat 0)).bind fun r1_=>
  cond r1_ (
   some (.inr i)) (
   rq (i64 (i+(1:Int))) <|
   some (.inl (i+(1:Int))))) (
  some (.inr (-1:Int)))
def Zdt (s_:List Int):Option Int:=
 loop (Zbo s_) (0:Int)
def ZbZ (s_:List Int):Option Bool:=
 (Zdt s_).bind fun r1_=>
 some (decide ((0:Int)≤r1_))
def Zn6 (row:List Int) (o0:Int×(List Int)×(List Int)×Int×(List (List Int))):Option Bool:=
 cond ((row.length:Int) != (o0.2.1.length:Int)) (
  some true) (
  (ZbZ row).bind fun r1_=>
  some r1_)
def Zbp (s_:List (List Int)) (o0:Int×(List Int)×(List Int)×Int×(List (List Int))):Int→Option (Int⊕Int):=fun i=>
 cond (decide (i<(s_.length:Int))) (
  rq (0≤i∧i<s_.length) <|
  (Zn6 (s_.getD i.toNat []) o0).bind fun r1_=>
  cond r1_ (
   some (.inr i)) (
   rq (i64 (i+(1:Int))) <|
   some (.inl (i+(1:Int))))) (
  some (.inr (-1:Int)))
def Zdu (s_:List (List Int)) (o0:Int×(List Int)×(List Int)×Int×(List (List Int))):Option Int:=
 loop (Zbp s_ o0) (0:Int)
def Zb0 (s_:List (List Int)) (o0:Int×(List Int)×(List Int)×Int×(List (List Int))):Option Bool:=
 (Zdu s_ o0).bind fun r1_=>
 some (decide ((0:Int)≤r1_))
def Zej (a0:Int×(List Int)×(List Int)×Int×(List (List Int))):Unit→Option (Int⊕Bool):=fun _=>
 cond (a0.1==(1:Int)) (
  cond ((a0.2.2.1.length:Int)==(a0.2.1.length:Int)) (
   (ZbN a0.2.2.2.1 (-1000:Int) (1000:Int)).bind fun r3_=>
   cond r3_ (
    (Zcd a0.2.2.1).bind fun r4_=>
    some (.inr (!r4_))) (
    some (.inr false))) (
   some (.inr false))) (
  cond (a0.1==(3:Int)) (
   cond (decide ((a0.2.2.2.2.length:Int)≤(8:Int))) (
    (Zb0 a0.2.2.2.2 a0).bind fun r5_=>
    some (.inr (!r5_))) (
    some (.inr false))) (
   cond (a0.1==(4:Int)) (
    some (.inr ((a0.2.1.length:Int)==(2:Int)))) (
    some (.inr (a0.1==(2:Int))))))
def Zjj (a0:Int×(List Int)×(List Int)×Int×(List (List Int))) (a1:Int):Int→Option (Int⊕Bool):=fun i=>
 cond (decide (i<(a0.2.1.length:Int))) (
  rq (0≤i∧i<a0.2.1.length) <|
  rq (i64 (a1 - (1:Int))) <|
  (ZbN (a0.2.1.getD i.toNat 0) (0:Int) (a1 - (1:Int))).bind fun r1_=>
  cond (!r1_) (
   some (.inr false)) (
   rq (0≤i∧i≤a0.2.1.length) <|
   (Zcu (a0.2.1.take i.toNat) (a0.2.1.getD i.toNat 0)).bind fun r2_=>
   cond r2_ (
    some (.inr false)) (
    rq (i64 (i+(1:Int))) <|
    some (.inl (i+(1:Int)))))) (
  cond ((a0.2.1.length:Int)==(0:Int)) (
   some (.inr false)) (
   cond (a0.1 != (1:Int)) (
    cond (decide ((0:Int)<(a0.2.2.1.length:Int))) (
     some (.inr false)) (
     cond (a0.2.2.2.1 != (0:Int)) (
      some (.inr false)) (
      cond (a0.1 != (3:Int)) (
       cond (decide ((0:Int)<(a0.2.2.2.2.length:Int))) (
        some (.inr false)) (
        Zej a0 ())) (
       Zej a0 ())))) (
    cond (a0.1 != (3:Int)) (
     cond (decide ((0:Int)<(a0.2.2.2.2.length:Int))) (
      some (.inr false)) (
      Zej a0 ())) (
     Zej a0 ()))))
def ZmM (a0:Int×(List Int)×(List Int)×Int×(List (List Int))) (a1:Int):Option Bool:=
 loop (Zjj a0 a1) (0:Int)
def Zm8 (r_:Int×(List Int)×(List Int)×Int×(List (List Int))) (o0:(List Int)×(List D5_)):Option Bool:=
 (ZmM r_ (o0.1.length:Int)).bind fun r1_=>
 some (!r1_)
def Z8 (s_:List D5_) (o0:(List Int)×(List D5_)):Int→Option (Int⊕Int):=fun i=>
 cond (decide (i<(s_.length:Int))) (
  rq (0≤i∧i<s_.length) <|
  (Zm8 (s_.getD i.toNat (0,([],([],(0,[]))))) o0).bind fun r1_=>
  cond r1_ (
   some (.inr i)) (
   rq (i64 (i+(1:Int))) <|
   some (.inl (i+(1:Int))))) (
  some (.inr (-1:Int)))
def ZcP (s_:List D5_) (o0:(List Int)×(List D5_)):Option Int:=
 loop (Z8 s_ o0) (0:Int)
def ZbG (s_:List D5_) (o0:(List Int)×(List D5_)):Option Bool:=
 (ZcP s_ o0).bind fun r1_=>
 some (decide ((0:Int)≤r1_))
def Zmj (m:(List Int)×(List D5_)):Int×Int→Option ((Int×Int)⊕Bool):=fun (count,i)=>
 cond (decide (i<(m.1.length:Int))) (
  rq (0≤i∧i<m.1.length) <|
  (ZbN (m.1.getD i.toNat 0) (0:Int) (3:Int)).bind fun r2_=>
  cond (!r2_) (
   some (.inr false)) (
   rq (i64 ((m.1.getD i.toNat 0)+(1:Int))) <|
   rq (i64 (count+((m.1.getD i.toNat 0)+(1:Int)))) <|
   rq (i64 (i+(1:Int))) <|
   some (.inl ((count+((m.1.getD i.toNat 0)+(1:Int))),(i+(1:Int)))))) (
  cond (decide (count≤(12:Int))) (
   (ZbG m.2 m).bind fun r3_=>
   some (.inr (!r3_))) (
   some (.inr false)))
def ZeZ (m:(List Int)×(List D5_)):Option Bool:=
 (ZbN (m.1.length:Int) (1:Int) (5:Int)).bind fun r1_=>
 cond (!r1_) (
  some false) (
  cond (decide ((8:Int)<(m.2.length:Int))) (
   some false) (
   loop (Zmj m) ((0:Int),(0:Int))))
def ZjF (m:(List Int)×(List D5_)) (cell:Int):Int×Int→Option ((Int×Int)⊕Int):=fun (v,i)=>
 cond (decide (i<((m.1.take cell.toNat).length:Int))) (
  rq (0≤i∧i<(m.1.take cell.toNat).length) <|
  rq (i64 (((m.1.take cell.toNat).getD i.toNat 0)+(1:Int))) <|
  rq (i64 (v+(((m.1.take cell.toNat).getD i.toNat 0)+(1:Int)))) <|
  rq (i64 (i+(1:Int))) <|
  some (.inl ((v+(((m.1.take cell.toNat).getD i.toNat 0)+(1:Int))),(i+(1:Int))))) (
  some (.inr v))
def Zdo (m:(List Int)×(List D5_)) (cell:Int) (value:Int):Option Int:=
 rq (i64 ((1:Int)+value)) <|
 rq (0≤cell∧cell≤m.1.length) <|
 loop (ZjF m cell) (((1:Int)+value),(0:Int))
def Ze1 (m:(List Int)×(List D5_)) (cell:Int):Int×(List Int)→Option ((Int×(List Int))⊕(List Int)):=fun (i,out)=>
 cond (decide (i<((m.1.getD cell.toNat 0)+(1:Int)))) (
  (Zdo m cell i).bind fun r2_=>
  rq (out.length+[r2_].length≤Zl) <|
  rq (i64 (i+(1:Int))) <|
  some (.inl ((i+(1:Int)),(out++[r2_])))) (
  some (.inr out))
def Zgw (m:(List Int)×(List D5_)) (cell:Int):Option (List Int):=
 rq (0≤cell∧cell<m.1.length) <|
 rq (i64 ((m.1.getD cell.toNat 0)+(1:Int))) <|
 loop (Ze1 m cell) ((0:Int),([]:List Int))
def Zhd (l:Int):Option Bool:=
 cond (l != (0:Int)) (
  (ZbN l (-12:Int) (12:Int)).bind fun r1_=>
  some r1_) (
  some false)
def ZbT (s_:List Int):Option (List Int):=
 nt (s_=[]) (
  some ([]:List Int)) (
  rq (([]:List Int).length+s_.length≤Zl) <|
  some (([]:List Int)++s_))
def Zdg (l:Int):Option Int:=
 rq (i64 (0 - l)) <|
 some (max l (0 - l))
def ZiE (a:Int) (b:Int):Option Int:=
 (Zdg a).bind fun r1_=>
 (Zdg b).bind fun r2_=>
 rq (i64 (r1_ - r2_)) <|
 some (r1_ - r2_)
def ZjS:Int×(List Int)→Option (Int⊕(List Int)):=fun (k_2,s_2)=>
 rq (0≤k_2∧k_2≤s_2.length) <|
 rq (0≤k_2∧k_2≤(s_2.take k_2.toNat++List.replicate (s_2.length - k_2.toNat) (0:Int)).length) <|
 some (.inr ((s_2.take k_2.toNat++List.replicate (s_2.length - k_2.toNat) (0:Int)).take k_2.toNat))
def Zgd (k_:Int):Int×Int×(List Int)→Option ((Int×Int×(List Int))⊕(Int⊕(List Int))):=fun (k_1,k2_,s_1)=>
 cond (decide (k2_<((s_1.length:Int) - k_))) (
  rq (0≤k2_∧k_+k2_<s_1.length) <|
  rq (i64 (k2_ - (1:Int))) <|
  rq (0≤(k2_ - (1:Int))∧k_+(k2_ - (1:Int))<s_1.length) <|
  cond ((s_1.getD (k_+k2_).toNat 0) != (s_1.getD (k_+(k2_ - (1:Int))).toNat 0)) (
   rq (0≤k2_∧k_+k2_<s_1.length) <|
   rq (0≤k_1∧k_1<s_1.length) <|
   rq (i64 (k_1+(1:Int))) <|
   rq (i64 (k2_+(1:Int))) <|
   some (.inl ((k_1+(1:Int)),(k2_+(1:Int)),(s_1.set k_1.toNat (s_1.getD (k_+k2_).toNat 0))))) (
   rq (i64 (k2_+(1:Int))) <|
   some (.inl (k_1,(k2_+(1:Int)),s_1)))) (
  up (ZjS (k_1,s_1)))
def Zgc (s_:List Int):Int→Option (Int⊕(List Int)):=fun k_=>
 cond (decide (k_<(s_.length:Int))) (
  rq (0≤k_∧k_<s_.length) <|
  rq (i64 (k_ - (1:Int))) <|
  rq (0≤(k_ - (1:Int))∧(k_ - (1:Int))<s_.length) <|
  cond ((s_.getD k_.toNat 0)==(s_.getD (k_ - (1:Int)).toNat 0)) (
   rq (0≤k_∧k_≤s_.length) <|
   loop (Zgd k_) (k_,(1:Int),s_)) (
   rq (i64 (k_+(1:Int))) <|
   some (.inl (k_+(1:Int))))) (
  some (.inr s_))
def ZiN (s_:List Int):Option (List Int):=
 cond (decide ((s_.length:Int)<(2:Int))) (
  some s_) (
  loop (Zgc s_) (1:Int))
def Zko (r5_:(List Int)):Int×(List D6_)→Option ((Int×(List D6_))⊕(Int⊕(Bool×Int×(List D6_)))):=fun (i1,c_0)=>
 cond (decide (i1<(r5_.length:Int))) (
  rq (0≤i1∧i1<r5_.length) <|
  rq (c_0.length+[((1:Int),(r5_.getD i1.toNat 0))].length≤Zl) <|
  rq (i64 (i1+(1:Int))) <|
  some (.inl ((i1+(1:Int)),(c_0++[((1:Int),(r5_.getD i1.toNat 0))])))) (
  some (.inr (.inr (true,(1:Int),c_0))))
def Zkn (lits:List Int):Int→Option (Int⊕(Bool×Int×(List D6_))):=fun i=>
 cond (decide (i<(lits.length:Int))) (
  rq (0≤i∧i<lits.length) <|
  (Zhd (lits.getD i.toNat 0)).bind fun r1_=>
  cond (!r1_) (
   some (.inr (false,(0:Int),([]:List D6_)))) (
   rq (i64 (0 - (lits.getD i.toNat 0))) <|
   (Zcu lits (0 - (lits.getD i.toNat 0))).bind fun r2_=>
   cond r2_ (
    some (.inr (false,(0:Int),([]:List D6_)))) (
    rq (i64 (i+(1:Int))) <|
    some (.inl (i+(1:Int)))))) (
  (ZbT lits).bind fun r3_=>
  (ZyD ZiE r3_).bind fun r4_=>
  (ZiN r4_).bind fun r5_=>
  loop (Zko r5_) ((0:Int),([]:List D6_)))
def Zip (lits:List Int):Option (Bool×Int×(List D6_)):=
 cond (decide ((40:Int)<(lits.length:Int))) (
  some (false,(0:Int),([]:List D6_))) (
  loop (Zkn lits) (0:Int))
def Zgz (vars:List Int):Int×(List D6_)→Option ((Int×(List D6_))⊕(Int×(List D6_))):=fun (i,c_0)=>
 cond (decide (i<(vars.length:Int))) (
  rq (0≤i∧i<vars.length) <|
  rq (i64 (0 - (vars.getD i.toNat 0))) <|
  rq (c_0.length+[((1:Int),(0 - (vars.getD i.toNat 0)))].length≤Zl) <|
  rq (i64 (i+(1:Int))) <|
  some (.inl ((i+(1:Int)),(c_0++[((1:Int),(0 - (vars.getD i.toNat 0)))])))) (
  some (.inr (((vars.length:Int) - (1:Int)),c_0)))
def ZjG (vars:List Int):Option (Int×(List D6_)):=
 rq (i64 ((vars.length:Int) - (1:Int))) <|
 loop (Zgz vars) ((0:Int),([]:List D6_))
def Zil (c_:(List D6_)×Int):Int×Int→Option ((Int×Int)⊕Bool):=fun (before,i)=>
 cond (decide (i<(c_.1.length:Int))) (
  rq (0≤i∧i<c_.1.length) <|
  (Zhd (c_.1.getD i.toNat (0,0)).2).bind fun r1_=>
  cond (!r1_) (
   some (.inr false)) (
   (Zdg (c_.1.getD i.toNat (0,0)).2).bind fun r2_=>
   cond (decide (r2_≤before)) (
    some (.inr false)) (
    (ZbN (c_.1.getD i.toNat (0,0)).1 (1:Int) (1000:Int)).bind fun r3_=>
    cond (!r3_) (
     some (.inr false)) (
     (Zdg (c_.1.getD i.toNat (0,0)).2).bind fun r4_=>
     rq (i64 (i+(1:Int))) <|
     some (.inl (r4_,(i+(1:Int)))))))) (
  (ZbN c_.2 (0:Int) (20000:Int)).bind fun r5_=>
  some (.inr r5_))
def Z3 (c_:(List D6_)×Int):Option Bool:=
 loop (Zil c_) ((0:Int),(0:Int))
def Zc9 (c_1:Int) (o0:List D6_):Option (Bool×Int×(List D6_)):=
 (Z3 (o0,c_1)).bind fun r1_=>
 cond (!r1_) (
  some (false,(0:Int),([]:List D6_))) (
  some (true,c_1,o0))
def ZmK:Int×(List D6_)→Option (Bool×Int×(List D6_)):=fun (i9,i_03)=>
 (Zc9 (max (0:Int) i9) i_03).bind fun r1_=>
 some (r1_.1,r1_.2.1,r1_.2.2)
def ZmL (i5:Int) (i6:Int):Int×(List D6_)→Option ((Int×Int×(List D6_))⊕(Bool×Int×(List D6_))):=fun (i8,i_02)=>
 rq (i64 (i5 - i8)) <|
 rq (i64 (i6+(1:Int))) <|
 some (.inl ((i5 - i8),(i6+(1:Int)),i_02))
def ZfA (i4:List Int):Int×Int×(List D6_)→Option ((Int×Int×(List D6_))⊕(Bool×Int×(List D6_))):=fun (i5,i6,i_01)=>
 cond (decide (i6<(13:Int))) (
  rq ((0≤i6∧i6<13)∧13≤[(i4.getD 0 0),(i4.getD 1 0),(i4.getD 2 0),(i4.getD 3 0),(i4.getD 4 0),(i4.getD 5 0),(i4.getD 6 0),(i4.getD 7 0),(i4.getD 8 0),(i4.getD 9 0),(i4.getD 10 0),(i4.getD 11 0),(i4.getD 12 0)].length) <|
  cond (decide ((0:Int)<([(i4.getD 0 0),(i4.getD 1 0),(i4.getD 2 0),(i4.getD 3 0),(i4.getD 4 0),(i4.getD 5 0),(i4.getD 6 0),(i4.getD 7 0),(i4.getD 8 0),(i4.getD 9 0),(i4.getD 10 0),(i4.getD 11 0),(i4.getD 12 0)].getD i6.toNat 0))) (
   rq (i_01.length+[(([(i4.getD 0 0),(i4.getD 1 0),(i4.getD 2 0),(i4.getD 3 0),(i4.getD 4 0),(i4.getD 5 0),(i4.getD 6 0),(i4.getD 7 0),(i4.getD 8 0),(i4.getD 9 0),(i4.getD 10 0),(i4.getD 11 0),(i4.getD 12 0)].getD i6.toNat 0),i6)].length≤Zl) <|
   rq (i64 (i6+(1:Int))) <|
   some (.inl (i5,(i6+(1:Int)),(i_01++[(([(i4.getD 0 0),(i4.getD 1 0),(i4.getD 2 0),(i4.getD 3 0),(i4.getD 4 0),(i4.getD 5 0),(i4.getD 6 0),(i4.getD 7 0),(i4.getD 8 0),(i4.getD 9 0),(i4.getD 10 0),(i4.getD 11 0),(i4.getD 12 0)].getD i6.toNat 0),i6)])))) (
   cond (decide (([(i4.getD 0 0),(i4.getD 1 0),(i4.getD 2 0),(i4.getD 3 0),(i4.getD 4 0),(i4.getD 5 0),(i4.getD 6 0),(i4.getD 7 0),(i4.getD 8 0),(i4.getD 9 0),(i4.getD 10 0),(i4.getD 11 0),(i4.getD 12 0)].getD i6.toNat 0)<(0:Int))) (
    rq (i64 (0 - ([(i4.getD 0 0),(i4.getD 1 0),(i4.getD 2 0),(i4.getD 3 0),(i4.getD 4 0),(i4.getD 5 0),(i4.getD 6 0),(i4.getD 7 0),(i4.getD 8 0),(i4.getD 9 0),(i4.getD 10 0),(i4.getD 11 0),(i4.getD 12 0)].getD i6.toNat 0))) <|
    rq (i64 (0 - i6)) <|
    rq (i_01.length+[((0 - ([(i4.getD 0 0),(i4.getD 1 0),(i4.getD 2 0),(i4.getD 3 0),(i4.getD 4 0),(i4.getD 5 0),(i4.getD 6 0),(i4.getD 7 0),(i4.getD 8 0),(i4.getD 9 0),(i4.getD 10 0),(i4.getD 11 0),(i4.getD 12 0)].getD i6.toNat 0)),(0 - i6))].length≤Zl) <|
    ZmL i5 i6 (([(i4.getD 0 0),(i4.getD 1 0),(i4.getD 2 0),(i4.getD 3 0),(i4.getD 4 0),(i4.getD 5 0),(i4.getD 6 0),(i4.getD 7 0),(i4.getD 8 0),(i4.getD 9 0),(i4.getD 10 0),(i4.getD 11 0),(i4.getD 12 0)].getD i6.toNat 0),(i_01++[((0 - ([(i4.getD 0 0),(i4.getD 1 0),(i4.getD 2 0),(i4.getD 3 0),(i4.getD 4 0),(i4.getD 5 0),(i4.getD 6 0),(i4.getD 7 0),(i4.getD 8 0),(i4.getD 9 0),(i4.getD 10 0),(i4.getD 11 0),(i4.getD 12 0)].getD i6.toNat 0)),(0 - i6))]))) (
    rq (i64 (i6+(1:Int))) <|
    some (.inl (i5,(i6+(1:Int)),i_01))))) (
  up (ZmK (i5,i_01)))
def ZjH:Int×(List Int)→Option (Bool×Int×(List D6_)):=fun (i3,i4)=>
 rq ((0:Int)=0∧0=0∧13≤i4.length) <|
 loop (ZfA i4) (i3,(0:Int),([]:List D6_))
def Zhe (a0:List D6_):Int×Int×(List Int)→Option ((Int×Int×(List Int))⊕(Bool×Int×(List D6_))):=fun (i,i1,i2)=>
 cond (decide (i1<(a0.length:Int))) (
  rq (0≤i1∧i1<a0.length) <|
  cond (decide ((a0.getD i1.toNat (0,0)).2<(0:Int))) (
   rq (i64 (i - (a0.getD i1.toNat (0,0)).1)) <|
   rq (i64 (0 - (a0.getD i1.toNat (0,0)).2)) <|
   rq ((0:Int)=0∧(0≤(0 - (a0.getD i1.toNat (0,0)).2)∧(0 - (a0.getD i1.toNat (0,0)).2)<13)∧13≤i2.length) <|
   rq (i64 ((i2.getD (0 - (a0.getD i1.toNat (0,0)).2).toNat 0) - (a0.getD i1.toNat (0,0)).1)) <|
   rq ((0:Int)=0∧(0≤(0 - (a0.getD i1.toNat (0,0)).2)∧(0 - (a0.getD i1.toNat (0,0)).2)<13)∧13≤i2.length) <|
   rq (i64 (i1+(1:Int))) <|
   some (.inl ((i - (a0.getD i1.toNat (0,0)).1),(i1+(1:Int)),(i2.set (0 - (a0.getD i1.toNat (0,0)).2).toNat ((i2.getD (0 - (a0.getD i1.toNat (0,0)).2).toNat 0) - (a0.getD i1.toNat (0,0)).1))))) (
   rq ((0:Int)=0∧(0≤(a0.getD i1.toNat (0,0)).2∧(a0.getD i1.toNat (0,0)).2<13)∧13≤i2.length) <|
   rq (i64 ((i2.getD (a0.getD i1.toNat (0,0)).2.toNat 0)+(a0.getD i1.toNat (0,0)).1)) <|
   rq ((0:Int)=0∧(0≤(a0.getD i1.toNat (0,0)).2∧(a0.getD i1.toNat (0,0)).2<13)∧13≤i2.length) <|
   rq (i64 (i1+(1:Int))) <|
   some (.inl (i,(i1+(1:Int)),(i2.set (a0.getD i1.toNat (0,0)).2.toNat ((i2.getD (a0.getD i1.toNat (0,0)).2.toNat 0)+(a0.getD i1.toNat (0,0)).1)))))) (
  up (ZjH (i,i2)))
def Zg8 (a0:List D6_) (a1:Int):Option (Bool×Int×(List D6_)):=
 loop (Zhe a0) (a1,(0:Int),(List.replicate 13 0))
def ZhT (s1_:List Int) (s2_:List Int):Int→Option (Int⊕Bool):=fun i=>
 cond (decide (i<(s1_.length:Int))) (
  rq (0≤i∧i<s1_.length) <|
  rq (0≤i∧i<s2_.length) <|
  cond ((s1_.getD i.toNat 0) != (s2_.getD i.toNat 0)) (
   some (.inr false)) (
   rq (i64 (i+(1:Int))) <|
   some (.inl (i+(1:Int))))) (
  some (.inr true))
def ZkA (s1_:List Int) (s2_:List Int):Option Bool:=
 cond ((s1_.length:Int) != (s2_.length:Int)) (
  some false) (
  loop (ZhT s1_ s2_) (0:Int))
def Zm9 (row:List Int) (o0:List Int):Option Bool:=
 (ZkA row o0).bind fun r1_=>
 some r1_
def Zbl (s_:List (List Int)) (o0:List Int):Int→Option (Int⊕Int):=fun i=>
 cond (decide (i<(s_.length:Int))) (
  rq (0≤i∧i<s_.length) <|
  (Zm9 (s_.getD i.toNat []) o0).bind fun r1_=>
  cond r1_ (
   some (.inr i)) (
   rq (i64 (i+(1:Int))) <|
   some (.inl (i+(1:Int))))) (
  some (.inr (-1:Int)))
def Zdk (s_:List (List Int)) (o0:List Int):Option Int:=
 loop (Zbl s_ o0) (0:Int)
def ZcS (s_:List (List Int)) (o0:List Int):Option Bool:=
 (Zdk s_ o0).bind fun r1_=>
 some (decide ((0:Int)≤r1_))
def Zmk (r_:Int×(List Int)×(List Int)×Int×(List (List Int))) (vals:List Int):Int×Int→Option ((Int×Int)⊕Bool):=fun (sum,i)=>
 cond (decide (i<(vals.length:Int))) (
  rq (0≤i∧i<vals.length) <|
  rq (0≤i∧i<r_.2.2.1.length) <|
  rq (i64 ((r_.2.2.1.getD i.toNat 0)*(vals.getD i.toNat 0))) <|
  rq (i64 (sum+((r_.2.2.1.getD i.toNat 0)*(vals.getD i.toNat 0)))) <|
  rq (i64 (i+(1:Int))) <|
  some (.inl ((sum+((r_.2.2.1.getD i.toNat 0)*(vals.getD i.toNat 0))),(i+(1:Int))))) (
  some (.inr (decide (r_.2.2.2.1≤sum))))
def Zf0 (vals:List Int):Int→Option (Int⊕Bool):=fun i1=>
 cond (decide (i1<(vals.length:Int))) (
  rq (0≤i1∧i1<vals.length) <|
  rq (0≤i1∧i1≤vals.length) <|
  (Zcu (vals.take i1.toNat) (vals.getD i1.toNat 0)).bind fun r1_=>
  cond r1_ (
   some (.inr false)) (
   rq (i64 (i1+(1:Int))) <|
   some (.inl (i1+(1:Int))))) (
  some (.inr true))
def ZiH (r_:Int×(List Int)×(List Int)×Int×(List (List Int))) (vals:List Int):Option Bool:=
 cond (r_.1==(1:Int)) (
  loop (Zmk r_ vals) ((0:Int),(0:Int))) (
  cond (r_.1==(2:Int)) (
   loop (Zf0 vals) (0:Int)) (
   cond (r_.1==(3:Int)) (
    (ZcS r_.2.2.2.2 vals).bind fun r2_=>
    some r2_) (
    rq (0≤(0:Int)∧(0:Int)<vals.length) <|
    rq (0≤(1:Int)∧(1:Int)<vals.length) <|
    some (decide ((vals.getD (0:Int).toNat 0)<(vals.getD (1:Int).toNat 0))))))
def Zco (o4:List D7_):(List Int)→Option (Bool×(List D7_)):=fun lits1=>
 (Zip lits1).bind fun r5_=>
 rq (o4.length+[(r5_.2.2,r5_.2.1)].length≤Zl) <|
 some (true,(o4++[(r5_.2.2,r5_.2.1)]))
def Zcp (o0:Int×(List Int)×(List Int)×Int×(List (List Int))) (o1:(List Int)×(List D5_)) (vals:List Int) (o4:List D7_):Int×(List Int)→Option ((Int×(List Int))⊕(Bool×(List D7_))):=fun (i,lits)=>
 cond (decide (i<(o0.2.1.length:Int))) (
  rq (0≤i∧i<o0.2.1.length) <|
  rq (0≤i∧i<vals.length) <|
  (Zdo o1 (o0.2.1.getD i.toNat 0) (vals.getD i.toNat 0)).bind fun r4_=>
  rq (i64 (0 - r4_)) <|
  rq (lits.length+[(0 - r4_)].length≤Zl) <|
  rq (i64 (i+(1:Int))) <|
  some (.inl ((i+(1:Int)),(lits++[(0 - r4_)])))) (
  up (Zco o4 lits))
def ZdR (o0:Int×(List Int)×(List Int)×Int×(List (List Int))) (o1:(List Int)×(List D5_)) (vals:List Int) (o4:List D7_):Option (Bool×(List D7_)):=
 (ZiH o0 vals).bind fun r1_=>
 cond (!r1_) (
  loop (Zcp o0 o1 vals o4) ((0:Int),([]:List Int))) (
  some (true,o4))
def ZbX (r3_:Bool×(List D7_)):Int×(List Int)→Option (((List Int)×(List D7_))⊕(List D7_)):=fun (i3,cells4)=>
 cond (decide (i3<(0:Int))) (
  some (.inr r3_.2)) (
  rq (0≤i3∧i3<cells4.length) <|
  rq (i64 ((cells4.getD i3.toNat 0)+(1:Int))) <|
  rq (0≤i3∧i3<cells4.length) <|
  some (.inl ((cells4.set i3.toNat ((cells4.getD i3.toNat 0)+(1:Int))),r3_.2)))
def ZcY (sizes:List Int) (r3_:Bool×(List D7_)):Int×(List Int)→Option ((Int×(List Int))⊕(((List Int)×(List D7_))⊕(List D7_))):=fun (i2,cells3)=>
 cond (decide ((0:Int)≤i2)) (
  rq (0≤i2∧i2<cells3.length) <|
  rq (0≤i2∧i2<sizes.length) <|
  cond ((cells3.getD i2.toNat 0)==(sizes.getD i2.toNat 0)) (
   rq (0≤i2∧i2<cells3.length) <|
   rq (i64 (i2 - (1:Int))) <|
   some (.inl ((i2 - (1:Int)),(cells3.set i2.toNat (0:Int))))) (
   up (ZbX r3_ (i2,cells3)))) (
  up (ZbX r3_ (i2,cells3)))
def ZbY (sizes:List Int) (o0:Int×(List Int)×(List Int)×Int×(List (List Int))) (o1:(List Int)×(List D5_)):(List Int)×(List D7_)→Option (((List Int)×(List D7_))⊕(List D7_)):=fun (cells2,cap)=>
 (ZdR o0 o1 cells2 cap).bind fun r3_=>
 cond r3_.1 (
  rq (i64 ((cells2.length:Int) - (1:Int))) <|
  loop (ZcY sizes r3_) (((cells2.length:Int) - (1:Int)),cells2)) (
  some (.inr r3_.2))
def Zck (sizes:List Int) (from_:List Int) (o0:Int×(List Int)×(List Int)×Int×(List (List Int))) (o1:(List Int)×(List D5_)):Option (List D7_):=
 (ZbT from_).bind fun r1_=>
 loop (ZbY sizes o0 o1) (r1_,([]:List D7_))
def Ze0 (a1:Int×(List Int)×(List Int)×Int×(List (List Int))):(List D6_)→Option (List D7_):=fun i6=>
 (Zg8 i6 a1.2.2.2.1).bind fun r6_=>
 some [(r6_.2.2,r6_.2.1)]
def Zda (a0:(List Int)×(List D5_)) (a1:Int×(List Int)×(List Int)×Int×(List (List Int))) (i:Int):Int×(List D6_)→Option ((Int×(List D6_))⊕((Int×(List D6_))⊕(List D7_))):=fun (i4,i5)=>
 cond (decide (i4<((a0.1.getD (a1.2.1.getD i.toNat 0).toNat 0)+(1:Int)))) (
  rq (0≤i∧i<a1.2.2.1.length) <|
  rq (i64 ((a1.2.2.1.getD i.toNat 0)*i4)) <|
  (Zdo a0 (a1.2.1.getD i.toNat 0) i4).bind fun r5_=>
  rq (i5.length+[(((a1.2.2.1.getD i.toNat 0)*i4),r5_)].length≤Zl) <|
  rq (i64 (i4+(1:Int))) <|
  some (.inl ((i4+(1:Int)),(i5++[(((a1.2.2.1.getD i.toNat 0)*i4),r5_)])))) (
  rq (i64 (i+(1:Int))) <|
  some (.inr (.inl ((i+(1:Int)),i5))))
def Zhr (a0:(List Int)×(List D5_)) (a1:Int×(List Int)×(List Int)×Int×(List (List Int))):Int×(List D6_)→Option ((Int×(List D6_))⊕(List D7_)):=fun (i,i3)=>
 cond (decide (i<(a1.2.1.length:Int))) (
  rq (0≤i∧i<a1.2.1.length) <|
  rq (0≤(a1.2.1.getD i.toNat 0)∧(a1.2.1.getD i.toNat 0)<a0.1.length) <|
  rq (i64 ((a0.1.getD (a1.2.1.getD i.toNat 0).toNat 0)+(1:Int))) <|
  loop (Zda a0 a1 i) ((0:Int),i3)) (
  up (Ze0 a1 i3))
def Zd0 (i7:Int) (i11:List D7_):(List Int)→Option ((Int×(List D7_))⊕(List D7_)):=fun i14=>
 cond (decide ((1:Int)<(i14.length:Int))) (
  (ZD9 i14).bind fun r14_=>
  (ZjG r14_).bind fun r15_=>
  rq (i11.length+[(r15_.2,r15_.1)].length≤Zl) <|
  rq (i64 (i7+(1:Int))) <|
  some (.inl ((i7+(1:Int)),(i11++[(r15_.2,r15_.1)])))) (
  rq (i64 (i7+(1:Int))) <|
  some (.inl ((i7+(1:Int)),i11)))
def Zd2 (a0:(List Int)×(List D5_)) (a1:Int×(List Int)×(List Int)×Int×(List (List Int))) (i7:Int) (i11:List D7_):Int×(List Int)→Option ((Int×(List Int))⊕((Int×(List D7_))⊕(List D7_))):=fun (i12,i13)=>
 cond (decide (i12<(a1.2.1.length:Int))) (
  rq (0≤i12∧i12<a1.2.1.length) <|
  rq (0≤(a1.2.1.getD i12.toNat 0)∧(a1.2.1.getD i12.toNat 0)<a0.1.length) <|
  cond (decide (i7≤(a0.1.getD (a1.2.1.getD i12.toNat 0).toNat 0))) (
   (Zdo a0 (a1.2.1.getD i12.toNat 0) i7).bind fun r13_=>
   rq (i13.length+[r13_].length≤Zl) <|
   rq (i64 (i12+(1:Int))) <|
   some (.inl ((i12+(1:Int)),(i13++[r13_])))) (
   rq (i64 (i12+(1:Int))) <|
   some (.inl ((i12+(1:Int)),i13)))) (
  up (Zd0 i7 i11 i13))
def Zhs (a0:(List Int)×(List D5_)) (a1:Int×(List Int)×(List Int)×Int×(List (List Int))):Int×(List D7_)→Option ((Int×(List D7_))⊕(List D7_)):=fun (i7,i11)=>
 cond (decide (i7<(4:Int))) (
  loop (Zd2 a0 a1 i7 i11) ((0:Int),([]:List Int))) (
  some (.inr i11))
def Zd1 (a0:(List Int)×(List D5_)) (a1:Int×(List Int)×(List Int)×Int×(List (List Int))):(List Int)→Option (List D7_):=fun i17=>
 rq (0≤(i17.length:Int)∧(i17.length:Int)≤Zl∧(i17.length:Int)=(i17.length:Int)) <|
 (Zck i17 (List.replicate (i17.length:Int).toNat 0) a1 a0).bind fun r16_=>
 some r16_
def Zd3 (a0:(List Int)×(List D5_)) (a1:Int×(List Int)×(List Int)×Int×(List (List Int))):Int×(List Int)→Option ((Int×(List Int))⊕(List D7_)):=fun (i15,i16)=>
 cond (decide (i15<(a1.2.1.length:Int))) (
  rq (0≤i15∧i15<a1.2.1.length) <|
  rq (0≤(a1.2.1.getD i15.toNat 0)∧(a1.2.1.getD i15.toNat 0)<a0.1.length) <|
  rq (i16.length+[(a0.1.getD (a1.2.1.getD i15.toNat 0).toNat 0)].length≤Zl) <|
  rq (i64 (i15+(1:Int))) <|
  some (.inl ((i15+(1:Int)),(i16++[(a0.1.getD (a1.2.1.getD i15.toNat 0).toNat 0)])))) (
  up (Zd1 a0 a1 i16))
def Zb3 (a0:(List Int)×(List D5_)) (a1:Int×(List Int)×(List Int)×Int×(List (List Int))):Option (List D7_):=
 cond (a1.1==(1:Int)) (
  loop (Zhr a0 a1) ((0:Int),([]:List D6_))) (
  cond (a1.1==(2:Int)) (
   loop (Zhs a0 a1) ((0:Int),([]:List D7_))) (
   loop (Zd3 a0 a1) ((0:Int),([]:List Int))))
def ZhO:(List D7_)→Option (Bool×(List D7_)):=fun out3=>
 cond (decide ((400:Int)<(out3.length:Int))) (
  some (false,([]:List D7_))) (
  some (true,out3))
def ZhP (m:(List Int)×(List D5_)):Int×(List D7_)→Option ((Int×(List D7_))⊕(Bool×(List D7_))):=fun (i1,out2)=>
 cond (decide (i1<(m.2.length:Int))) (
  rq (0≤i1∧i1<m.2.length) <|
  (Zb3 m (m.2.getD i1.toNat (0,([],([],(0,[])))))).bind fun r10_=>
  rq (out2.length+r10_.length≤Zl) <|
  rq (i64 (i1+(1:Int))) <|
  some (.inl ((i1+(1:Int)),(out2++r10_)))) (
  up (ZhO out2))
def ZhN (m:(List Int)×(List D5_)):(List D7_)→Option (Bool×(List D7_)):=fun out1=>
 loop (ZhP m) ((0:Int),out1)
def ZhQ (m:(List Int)×(List D5_)):Int×(List D7_)→Option ((Int×(List D7_))⊕(Bool×(List D7_))):=fun (i,out)=>
 cond (decide (i<(m.1.length:Int))) (
  (Zgw m i).bind fun r6_=>
  (Zip r6_).bind fun r7_=>
  (ZjG r6_).bind fun r8_=>
  rq (out.length+[(r7_.2.2,r7_.2.1),(r8_.2,r8_.1)].length≤Zl) <|
  rq (i64 (i+(1:Int))) <|
  some (.inl ((i+(1:Int)),(out++[(r7_.2.2,r7_.2.1),(r8_.2,r8_.1)])))) (
  up (ZhN m out))
def Zfy (m:(List Int)×(List D5_)):Option (Bool×(List D7_)):=
 (ZeZ m).bind fun r1_=>
 cond (!r1_) (
  some (false,([]:List D7_))) (
  loop (ZhQ m) ((0:Int),([]:List D7_)))
def ZsP (m:(List Int)×(List D5_)):Option (Bool×(List D7_)):=
 (Zfy m).bind fun r1_=>
 cond r1_.1 (
  some ((decide ((r1_.2.length:Int)<(400:Int))),r1_.2)) (
  some (false,r1_.2))
def Zml (n:Int):Option Bool:=
 (ZbN n (-9:Int) (9:Int)).bind fun r1_=>
 some (!r1_)
def Zbn (s_:List Int):Int→Option (Int⊕Int):=fun i=>
 cond (decide (i<(s_.length:Int))) (
  rq (0≤i∧i<s_.length) <|
  (Zml (s_.getD i.toNat 0)).bind fun r1_=>
  cond r1_ (
   some (.inr i)) (
   rq (i64 (i+(1:Int))) <|
   some (.inl (i+(1:Int))))) (
  some (.inr (-1:Int)))
def Zds (s_:List Int):Option Int:=
 loop (Zbn s_) (0:Int)
def Zc0 (s_:List Int):Option Bool:=
 (Zds s_).bind fun r1_=>
 some (decide ((0:Int)≤r1_))
def Zht (m:(List Int)×(List D5_)) (coefs:List Int):Option Bool:=
 cond ((coefs.length:Int)==(m.1.length:Int)) (
  (Zc0 coefs).bind fun r1_=>
  some (!r1_)) (
  some false)
def Znx (fuel:Int):Option Bool:=
 (ZbN fuel (0:Int) (2000:Int)).bind fun r1_=>
 some r1_
def Zpd (c_:(List D6_)×Int):Option Bool:=
 (Z3 c_).bind fun r1_=>
 some (!r1_)
def Z0 (s_:List D7_):Int→Option (Int⊕Int):=fun i=>
 cond (decide (i<(s_.length:Int))) (
  rq (0≤i∧i<s_.length) <|
  (Zpd (s_.getD i.toNat ([],0))).bind fun r1_=>
  cond r1_ (
   some (.inr i)) (
   rq (i64 (i+(1:Int))) <|
   some (.inl (i+(1:Int))))) (
  some (.inr (-1:Int)))
def Zcr (s_:List D7_):Option Int:=
 loop (Z0 s_) (0:Int)
def Zca (s_:List D7_):Option Bool:=
 (Zcr s_).bind fun r1_=>
 some (decide ((0:Int)≤r1_))
def Zrt (list_:List D7_):Option Bool:=
 (Zca list_).bind fun r1_=>
 some (!r1_)
def Zgx (list_:List D7_):Option Bool:=
 cond (decide ((list_.length:Int)≤(400:Int))) (
  (Zrt list_).bind fun r1_=>
  some r1_) (
  some false)
def Zbw (s_:List D7_):Option (List D7_):=
 nt (s_=[]) (
  some ([]:List D7_)) (
  rq (([]:List D7_).length+s_.length≤Zl) <|
  some (([]:List D7_)++s_))
def Zpe (l:Int) (p:List Int):Option Int:=
 cond (decide (l<(0:Int))) (
  rq (i64 (0 - l)) <|
  rq (i64 ((0 - l) - (1:Int))) <|
  rq (0≤((0 - l) - (1:Int))∧((0 - l) - (1:Int))<p.length) <|
  rq (i64 (0 - (p.getD ((0 - l) - (1:Int)).toNat 0))) <|
  some (0 - (p.getD ((0 - l) - (1:Int)).toNat 0))) (
  rq (i64 (l - (1:Int))) <|
  rq (0≤(l - (1:Int))∧(l - (1:Int))<p.length) <|
  some (p.getD (l - (1:Int)).toNat 0))
def ZeX (c_:(List D6_)×Int) (p:List Int):Int×Int→Option ((Int×Int)⊕Int):=fun (out,i)=>
 cond (decide (i<(c_.1.length:Int))) (
  rq (0≤i∧i<c_.1.length) <|
  (Zpe (c_.1.getD i.toNat (0,0)).2 p).bind fun r1_=>
  cond (decide ((0:Int)≤r1_)) (
   rq (i64 (out+(c_.1.getD i.toNat (0,0)).1)) <|
   rq (i64 (i+(1:Int))) <|
   some (.inl ((out+(c_.1.getD i.toNat (0,0)).1),(i+(1:Int))))) (
   rq (i64 (i+(1:Int))) <|
   some (.inl (out,(i+(1:Int)))))) (
  some (.inr out))
def ZeG (c_:(List D6_)×Int) (p:List Int):Option Int:=
 rq (i64 (0 - c_.2)) <|
 loop (ZeX c_ p) ((0 - c_.2),(0:Int))
def Zb9 (c_:(List D6_)×Int) (p:List Int) (r1_:Int):Int×(List Int)→Option ((Int×(List Int))⊕(List Int)):=fun (i,out)=>
 cond (decide (i<(c_.1.length:Int))) (
  rq (0≤i∧i<c_.1.length) <|
  (Zpe (c_.1.getD i.toNat (0,0)).2 p).bind fun r3_=>
  cond (r3_==(0:Int)) (
   cond (decide (r1_<(c_.1.getD i.toNat (0,0)).1)) (
    rq (out.length+[(c_.1.getD i.toNat (0,0)).2].length≤Zl) <|
    rq (i64 (i+(1:Int))) <|
    some (.inl ((i+(1:Int)),(out++[(c_.1.getD i.toNat (0,0)).2])))) (
    rq (i64 (i+(1:Int))) <|
    some (.inl ((i+(1:Int)),out)))) (
   rq (i64 (i+(1:Int))) <|
   some (.inl ((i+(1:Int)),out)))) (
  some (.inr out))
def Zcc (c_:(List D6_)×Int) (p:List Int):Option (List Int):=
 (ZeG c_ p).bind fun r1_=>
 loop (Zb9 c_ p r1_) ((0:Int),([]:List Int))
def ZcB (i3:Int) (r9_:(List Int)):Bool×Int×(List Int)→Option ((Bool×Int×(List Int))⊕((Bool×Int×(List Int))⊕((Bool×(List Int))⊕(Int×(List Int))))):=fun (made6,i5,out6)=>
 cond (decide (i5<(r9_.length:Int))) (
  rq (0≤i5∧i5<r9_.length) <|
  cond (decide ((0:Int)<(r9_.getD i5.toNat 0))) (
   rq (i64 ((r9_.getD i5.toNat 0) - (1:Int))) <|
   rq (0≤((r9_.getD i5.toNat 0) - (1:Int))∧((r9_.getD i5.toNat 0) - (1:Int))<out6.length) <|
   rq (i64 (i5+(1:Int))) <|
   some (.inl (true,(i5+(1:Int)),(out6.set ((r9_.getD i5.toNat 0) - (1:Int)).toNat (1:Int))))) (
   rq (i64 (0 - (r9_.getD i5.toNat 0))) <|
   rq (i64 ((0 - (r9_.getD i5.toNat 0)) - (1:Int))) <|
   rq (0≤((0 - (r9_.getD i5.toNat 0)) - (1:Int))∧((0 - (r9_.getD i5.toNat 0)) - (1:Int))<out6.length) <|
   rq (i64 (i5+(1:Int))) <|
   some (.inl (true,(i5+(1:Int)),(out6.set ((0 - (r9_.getD i5.toNat 0)) - (1:Int)).toNat (-1:Int)))))) (
  rq (i64 (i3+(1:Int))) <|
  some (.inr (.inl (made6,(i3+(1:Int)),out6))))
def ZbI (list_:List D7_):Bool×Int×(List Int)→Option ((Bool×Int×(List Int))⊕((Bool×(List Int))⊕(Int×(List Int)))):=fun (made4,i3,out5)=>
 cond (decide (i3<(list_.length:Int))) (
  rq (0≤i3∧i3<list_.length) <|
  (ZeG (list_.getD i3.toNat ([],0)) out5).bind fun r8_=>
  cond (decide (r8_<(0:Int))) (
   some (.inr (.inr (i3,out5)))) (
   (Zcc (list_.getD i3.toNat ([],0)) out5).bind fun r9_=>
   loop (ZcB i3 r9_) (made4,(0:Int),out5))) (
  some (.inr (.inl (made4,out5))))
def ZcA (list_:List D7_):Bool×(List Int)→Option ((Bool×(List Int))⊕(Int×(List Int))):=fun (made,out3)=>
 cond made (
  loop (ZbI list_) (false,(0:Int),out3)) (
  some (.inr ((-1:Int),out3)))
def ZbH (list_:List D7_) (p:List Int):Option (Int×(List Int)):=
 (ZbT p).bind fun r1_=>
 loop (ZcA list_) (true,r1_)
def Zku:(List Bool)→Option (Int×Bool×(List Bool)):=fun out1=>
 some ((0:Int),true,out1)
def Zhv (p:List Int):Int×(List Bool)→Option ((Int×(List Bool))⊕(Int×Bool×(List Bool))):=fun (i,out)=>
 cond (decide (i<(p.length:Int))) (
  rq (0≤i∧i<p.length) <|
  cond ((p.getD i.toNat 0)==(0:Int)) (
   rq (i64 (i+(1:Int))) <|
   some (.inr ((i+(1:Int)),false,([]:List Bool)))) (
   rq (out.length+[(decide ((0:Int)<(p.getD i.toNat 0)))].length≤Zl) <|
   rq (i64 (i+(1:Int))) <|
   some (.inl ((i+(1:Int)),(out++[(decide ((0:Int)<(p.getD i.toNat 0)))]))))) (
  up (Zku out))
def Zgp (p:List Int):Option (Int×Bool×(List Bool)):=
 loop (Zhv p) ((0:Int),([]:List Bool))
def ZfN (s_:List D6_):Option (List D6_):=
 nt (s_=[]) (
  some ([]:List D6_)) (
  rq (([]:List D6_).length+s_.length≤Zl) <|
  some (([]:List D6_)++s_))
def Zeq (c_:(List D6_)×Int):Option (Int×(List D6_)):=
 (ZfN c_.1).bind fun r1_=>
 some (c_.2,r1_)
def Zen (o1:List D7_) (o2:List Zw) (r1_:Bool×Int×(List D6_)):Unit→Option ((List D7_)×(List Zw)):=fun _=>
 (Zeq (r1_.2.2,r1_.2.1)).bind fun r3_=>
 rq (o2.length+[((7:Int),((0:Int),((0:Int),(r3_.2,r3_.1))))].length≤Zl) <|
 some ((o1++[(r1_.2.2,r1_.2.1)]),(o2++[((7:Int),((0:Int),((0:Int),(r3_.2,r3_.1))))]))
def Zem (o1:List D7_) (o2:List Zw):(List Int)→Option ((List D7_)×(List Zw)):=fun lits1=>
 (Zip lits1).bind fun r1_=>
 rq (o1.length+[(r1_.2.2,r1_.2.1)].length≤Zl) <|
 Zen o1 o2 r1_ ()
def ZbC (decisions:List Int) (o1:List D7_) (o2:List Zw):Int×(List Int)→Option ((Int×(List Int))⊕((List D7_)×(List Zw))):=fun (i,lits)=>
 cond (decide (i<(decisions.length:Int))) (
  rq (0≤i∧i<decisions.length) <|
  rq (i64 (0 - (decisions.getD i.toNat 0))) <|
  rq (lits.length+[(0 - (decisions.getD i.toNat 0))].length≤Zl) <|
  rq (i64 (i+(1:Int))) <|
  some (.inl ((i+(1:Int)),(lits++[(0 - (decisions.getD i.toNat 0))])))) (
  up (Zem o1 o2 lits))
def Zct (decisions:List Int) (s_1:Int) (s_3:Bool) (o1:List D7_) (o2:List Zw):Option ((List D7_)×(List Zw)):=
 loop (ZbC decisions o1 o2) ((0:Int),([]:List Int))
def Zbd (a1:List Int):Int×Bool×(List D7_)×(List Zw)→Option (Bool×Int×Bool×(List Bool)×(List D7_)×(List Zw)):=fun (i_12,i_32,i_02,i_22)=>
 (Zct a1 i_12 i_32 i_02 i_22).bind fun r9_=>
 some (false,i_12,i_32,([]:List Bool),r9_.1,r9_.2)
def Zdb (a1:List Int):Int×Bool×(List D7_)×(List Zw)→Option (Bool×Int×Bool×(List Bool)×(List D7_)×(List Zw)):=fun (i_11,i_31,i_01,i_21)=>
 cond (decide ((1000:Int)≤(i_21.length:Int))) (
  some (false,i_11,true,([]:List Bool),i_01,i_21)) (
  Zbd a1 (i_11,i_31,i_01,i_21))
def Zbv (a1:List Int) (r4_:Int×Bool×(List Bool)) (rec_:(List Int)→Int→Bool→(List D7_)→(List Zw)→Option (Bool×Int×Bool×(List Bool)×(List D7_)×(List Zw))):Int×Int×Bool×(List D7_)×(List Zw)→Option ((Int×Int×Bool×(List D7_)×(List Zw))⊕(Bool×Int×Bool×(List Bool)×(List D7_)×(List Zw))):=fun (i3,i_1,i_3,i_0,i_2)=>
 cond (decide (i3<([r4_.1,(0 - r4_.1)].length:Int))) (
  rq (0≤i3∧i3 < [r4_.1,(0 - r4_.1)].length) <|
  (ZbT a1).bind fun r7_=>
  rq (r7_.length+[([r4_.1,(0 - r4_.1)].getD i3.toNat 0)].length≤Zl) <|
  (rec_ (r7_++[([r4_.1,(0 - r4_.1)].getD i3.toNat 0)]) i_1 i_3 i_0 i_2).bind fun r8_=>
  cond r8_.1 (
   some (.inr (r8_.1,r8_.2.1,r8_.2.2.1,r8_.2.2.2.1,r8_.2.2.2.2.1,r8_.2.2.2.2.2))) (
   cond r8_.2.2.1 (
    some (.inr (r8_.1,r8_.2.1,r8_.2.2.1,r8_.2.2.2.1,r8_.2.2.2.2.1,r8_.2.2.2.2.2))) (
    rq (i64 (i3+(1:Int))) <|
    some (.inl ((i3+(1:Int)),r8_.2.1,r8_.2.2.1,r8_.2.2.2.2.1,r8_.2.2.2.2.2))))) (
  up (Zdb a1 (i_1,i_3,i_0,i_2)))
def ZV (a1:List Int) (o0_1:Int) (o0_3:Bool) (o1:List D7_) (o2:List Zw) (rec_:(List Int)→Int→Bool→(List D7_)→(List Zw)→Option (Bool×Int×Bool×(List Bool)×(List D7_)×(List Zw))):(List Int)→Option (Bool×Int×Bool×(List Bool)×(List D7_)×(List Zw)):=fun i2=>
 (ZbH o1 i2).bind fun r3_=>
 cond (decide (r3_.1<(0:Int))) (
  (Zgp r3_.2).bind fun r4_=>
  cond r4_.2.1 (
   some (true,(o0_1 - (1:Int)),o0_3,r4_.2.2,o1,o2)) (
   rq (i64 (0 - r4_.1)) <|
   loop (Zbv a1 r4_ rec_) ((0:Int),(o0_1 - (1:Int)),o0_3,o1,o2))) (
  Zbd a1 ((o0_1 - (1:Int)),o0_3,o1,o2))
def Zbe (a1:List Int) (o0_1:Int) (o0_3:Bool) (o1:List D7_) (o2:List Zw) (rec_:(List Int)→Int→Bool→(List D7_)→(List Zw)→Option (Bool×Int×Bool×(List Bool)×(List D7_)×(List Zw))):Int×(List Int)→Option ((Int×(List Int))⊕(Bool×Int×Bool×(List Bool)×(List D7_)×(List Zw))):=fun (i,i1)=>
 cond (decide (i<(a1.length:Int))) (
  rq (0≤i∧i<a1.length) <|
  (Zdg (a1.getD i.toNat 0)).bind fun r2_=>
  rq (i64 (r2_ - (1:Int))) <|
  rq (0≤(r2_ - (1:Int))∧(r2_ - (1:Int))<i1.length) <|
  cond (decide ((a1.getD i.toNat 0)<(0:Int))) (
   rq (i64 (0 - (a1.getD i.toNat 0))) <|
   rq (i64 ((0 - (a1.getD i.toNat 0)) - (1:Int))) <|
   rq (0≤((0 - (a1.getD i.toNat 0)) - (1:Int))∧((0 - (a1.getD i.toNat 0)) - (1:Int))<(i1.set (r2_ - (1:Int)).toNat (1:Int)).length) <|
   rq (i64 (i+(1:Int))) <|
   some (.inl ((i+(1:Int)),((i1.set (r2_ - (1:Int)).toNat (1:Int)).set ((0 - (a1.getD i.toNat 0)) - (1:Int)).toNat (-1:Int))))) (
   rq (i64 (i+(1:Int))) <|
   some (.inl ((i+(1:Int)),(i1.set (r2_ - (1:Int)).toNat (1:Int)))))) (
  up (ZV a1 o0_1 o0_3 o1 o2 rec_ i1))
def ZK (rec_:(List Int)→Int→Bool→(List D7_)→(List Zw)→Option (Bool×Int×Bool×(List Bool)×(List D7_)×(List Zw))) (a1:List Int) (o0_1:Int) (o0_3:Bool) (o1:List D7_) (o2:List Zw):Option (Bool×Int×Bool×(List Bool)×(List D7_)×(List Zw)):=
 cond (o0_1==(0:Int)) (
  some (false,o0_1,true,([]:List Bool),o1,o2)) (
  cond (decide ((1000:Int)≤(o2.length:Int))) (
   some (false,o0_1,true,([]:List Bool),o1,o2)) (
   rq (i64 (o0_1 - (1:Int))) <|
   rq (0≤(12:Int)∧(12:Int)≤Zl∧(12:Int)=(12:Int)) <|
   loop (Zbe a1 o0_1 o0_3 o1 o2 rec_) ((0:Int),(List.replicate (12:Int).toNat 0))))
def ZA:Nat→(List Int)→Int→Bool→(List D7_)→(List Zw)→Option (Bool×Int×Bool×(List Bool)×(List D7_)×(List Zw))
  |0=>fun _ _ _ _ _=>none
  |n_+1=>ZK (ZA n_)
def ZfB (a1:List Int):Int×Bool×(List D7_)×(List Zw)→Option (Bool×Int×Bool×(List Bool)×(List D7_)×(List Zw)):=fun (i_12,i_32,i_02,i_22)=>
 (Zct a1 i_12 i_32 i_02 i_22).bind fun r9_=>
 some (false,i_12,i_32,([]:List Bool),r9_.1,r9_.2)
def ZjI (a1:List Int):Int×Bool×(List D7_)×(List Zw)→Option (Bool×Int×Bool×(List Bool)×(List D7_)×(List Zw)):=fun (i_11,i_31,i_01,i_21)=>
 cond (decide ((1000:Int)≤(i_21.length:Int))) (
  some (false,i_11,true,([]:List Bool),i_01,i_21)) (
  ZfB a1 (i_11,i_31,i_01,i_21))
def ZfC (a1:List Int) (r4_:Int×Bool×(List Bool)):Int×Int×Bool×(List D7_)×(List Zw)→Option ((Int×Int×Bool×(List D7_)×(List Zw))⊕(Bool×Int×Bool×(List Bool)×(List D7_)×(List Zw))):=fun (i3,i_1,i_3,i_0,i_2)=>
 cond (decide (i3<([r4_.1,(0 - r4_.1)].length:Int))) (
  rq (0≤i3∧i3 < [r4_.1,(0 - r4_.1)].length) <|
  (ZbT a1).bind fun r7_=>
  rq (r7_.length+[([r4_.1,(0 - r4_.1)].getD i3.toNat 0)].length≤Zl) <|
  (ZA 64 (r7_++[([r4_.1,(0 - r4_.1)].getD i3.toNat 0)]) i_1 i_3 i_0 i_2).bind fun r8_=>
  cond r8_.1 (
   some (.inr (r8_.1,r8_.2.1,r8_.2.2.1,r8_.2.2.2.1,r8_.2.2.2.2.1,r8_.2.2.2.2.2))) (
   cond r8_.2.2.1 (
    some (.inr (r8_.1,r8_.2.1,r8_.2.2.1,r8_.2.2.2.1,r8_.2.2.2.2.1,r8_.2.2.2.2.2))) (
    rq (i64 (i3+(1:Int))) <|
    some (.inl ((i3+(1:Int)),r8_.2.1,r8_.2.2.1,r8_.2.2.2.2.1,r8_.2.2.2.2.2))))) (
  up (ZjI a1 (i_1,i_3,i_0,i_2)))
def Zd9 (a1:List Int) (o0_1:Int) (o0_3:Bool) (o1:List D7_):(List Int)→Option (Bool×Int×Bool×(List Bool)×(List D7_)×(List Zw)):=fun i2=>
 (ZbH o1 i2).bind fun r3_=>
 cond (decide (r3_.1<(0:Int))) (
  (Zgp r3_.2).bind fun r4_=>
  cond r4_.2.1 (
   some (true,(o0_1 - (1:Int)),o0_3,r4_.2.2,o1,([]:List Zw))) (
   rq (i64 (0 - r4_.1)) <|
   loop (ZfC a1 r4_) ((0:Int),(o0_1 - (1:Int)),o0_3,o1,([]:List Zw)))) (
  ZfB a1 ((o0_1 - (1:Int)),o0_3,o1,([]:List Zw)))
def Zea (a1:List Int) (o0_1:Int) (o0_3:Bool) (o1:List D7_):Int×(List Int)→Option ((Int×(List Int))⊕(Bool×Int×Bool×(List Bool)×(List D7_)×(List Zw))):=fun (i,i1)=>
 cond (decide (i<(a1.length:Int))) (
  rq (0≤i∧i<a1.length) <|
  (Zdg (a1.getD i.toNat 0)).bind fun r2_=>
  rq (i64 (r2_ - (1:Int))) <|
  rq (0≤(r2_ - (1:Int))∧(r2_ - (1:Int))<i1.length) <|
  cond (decide ((a1.getD i.toNat 0)<(0:Int))) (
   rq (i64 (0 - (a1.getD i.toNat 0))) <|
   rq (i64 ((0 - (a1.getD i.toNat 0)) - (1:Int))) <|
   rq (0≤((0 - (a1.getD i.toNat 0)) - (1:Int))∧((0 - (a1.getD i.toNat 0)) - (1:Int))<(i1.set (r2_ - (1:Int)).toNat (1:Int)).length) <|
   rq (i64 (i+(1:Int))) <|
   some (.inl ((i+(1:Int)),((i1.set (r2_ - (1:Int)).toNat (1:Int)).set ((0 - (a1.getD i.toNat 0)) - (1:Int)).toNat (-1:Int))))) (
   rq (i64 (i+(1:Int))) <|
   some (.inl ((i+(1:Int)),(i1.set (r2_ - (1:Int)).toNat (1:Int)))))) (
  up (Zd9 a1 o0_1 o0_3 o1 i1))
def ZdY (rec_:(List Int)→Int→Bool→(List D7_)→Option (Bool×Int×Bool×(List Bool)×(List D7_)×(List Zw))) (a1:List Int) (o0_1:Int) (o0_3:Bool) (o1:List D7_):Option (Bool×Int×Bool×(List Bool)×(List D7_)×(List Zw)):=
 cond (o0_1==(0:Int)) (
  some (false,o0_1,true,([]:List Bool),o1,([]:List Zw))) (
  cond (decide ((1000:Int)≤(0:Int))) (
   some (false,o0_1,true,([]:List Bool),o1,([]:List Zw))) (
   rq (i64 (o0_1 - (1:Int))) <|
   rq (0≤(12:Int)∧(12:Int)≤Zl∧(12:Int)=(12:Int)) <|
   loop (Zea a1 o0_1 o0_3 o1) ((0:Int),(List.replicate (12:Int).toNat 0))))
def ZbQ:Nat→(List Int)→Int→Bool→(List D7_)→Option (Bool×Int×Bool×(List Bool)×(List D7_)×(List Zw))
  |0=>fun _ _ _ _=>none
  |n_+1=>ZdY (ZbQ n_)
def Zcz (list_:List D7_) (fuel:Int):Option (Int×(List Bool)×(List Zw)):=
 (Zgx list_).bind fun r1_=>
 cond (!r1_) (
  some ((3:Int),([]:List Bool),([]:List Zw))) (
  (Znx fuel).bind fun r2_=>
  cond (!r2_) (
   some ((3:Int),([]:List Bool),([]:List Zw))) (
   (Zbw list_).bind fun r3_=>
   (ZbQ 64 ([]:List Int) fuel false r3_).bind fun r4_=>
   cond r4_.1 (
    some ((1:Int),r4_.2.2.2.1,([]:List Zw))) (
    cond r4_.2.2.1 (
     some ((0:Int),([]:List Bool),([]:List Zw))) (
     some ((2:Int),([]:List Bool),r4_.2.2.2.2.2)))))
def Zkp (i:Int):Int×(List Int)→Option ((Int×(List Int))⊕(Bool×(List Int))):=fun (count3,out4)=>
 cond (count3 != (1:Int)) (
  some (.inr (false,([]:List Int)))) (
  rq (i64 (i+(1:Int))) <|
  some (.inl ((i+(1:Int)),out4)))
def ZgS (values:List Bool) (i:Int) (r3_:(List Int)):Int×Int×(List Int)→Option ((Int×Int×(List Int))⊕((Int×(List Int))⊕(Bool×(List Int)))):=fun (count2,i2,out3)=>
 cond (decide (i2<(r3_.length:Int))) (
  rq (0≤i2∧i2<r3_.length) <|
  rq (i64 ((r3_.getD i2.toNat 0) - (1:Int))) <|
  rq (0≤((r3_.getD i2.toNat 0) - (1:Int))∧((r3_.getD i2.toNat 0) - (1:Int))<values.length) <|
  cond (values.getD ((r3_.getD i2.toNat 0) - (1:Int)).toNat false) (
   rq (out3.length+[i2].length≤Zl) <|
   rq (i64 (count2+(1:Int))) <|
   rq (i64 (i2+(1:Int))) <|
   some (.inl ((count2+(1:Int)),(i2+(1:Int)),(out3++[i2])))) (
   rq (i64 (i2+(1:Int))) <|
   some (.inl (count2,(i2+(1:Int)),out3)))) (
  up (Zkp i (count2,out3)))
def ZgR (m:(List Int)×(List D5_)) (values:List Bool):Int×(List Int)→Option ((Int×(List Int))⊕(Bool×(List Int))):=fun (i,out2)=>
 cond (decide (i<(m.1.length:Int))) (
  (Zgw m i).bind fun r3_=>
  loop (ZgS values i r3_) ((0:Int),(0:Int),out2)) (
  some (.inr (true,out2)))
def Zgv (m:(List Int)×(List D5_)) (values:List Bool):Option (Bool×(List Int)):=
 (ZeZ m).bind fun r1_=>
 cond (!r1_) (
  some (false,([]:List Int))) (
  cond ((values.length:Int) != (12:Int)) (
   some (false,([]:List Int))) (
   loop (ZgR m values) ((0:Int),([]:List Int))))
def Zpf (coefs:List Int) (cells:List Int):Int×Int→Option ((Int×Int)⊕Int):=fun (sum,i)=>
 cond (decide (i<(cells.length:Int))) (
  rq (0≤i∧i<cells.length) <|
  rq (0≤i∧i<coefs.length) <|
  rq (i64 ((coefs.getD i.toNat 0)*(cells.getD i.toNat 0))) <|
  rq (i64 (sum+((coefs.getD i.toNat 0)*(cells.getD i.toNat 0)))) <|
  rq (i64 (i+(1:Int))) <|
  some (.inl ((sum+((coefs.getD i.toNat 0)*(cells.getD i.toNat 0))),(i+(1:Int))))) (
  some (.inr sum))
def Zmn (coefs:List Int) (cells:List Int):Option Int:=
 loop (Zpf coefs cells) ((0:Int),(0:Int))
def Zhq (most:Int):(List D6_)→Option (Bool×Int×(List D6_)):=fun terms3=>
 rq (i64 (0 - most)) <|
 (Zg8 terms3 (0 - most)).bind fun r9_=>
 some (r9_.1,r9_.2.1,r9_.2.2)
def ZeU (m:(List Int)×(List D5_)) (coefs:List Int) (i:Int):Int×(List D6_)→Option ((Int×(List D6_))⊕((Int×(List D6_))⊕(Bool×Int×(List D6_)))):=fun (i2,terms2)=>
 cond (decide (i2<((m.1.getD i.toNat 0)+(1:Int)))) (
  rq (0≤i∧i<coefs.length) <|
  rq (i64 (0 - (coefs.getD i.toNat 0))) <|
  rq (i64 ((0 - (coefs.getD i.toNat 0))*i2)) <|
  (Zdo m i i2).bind fun r8_=>
  rq (terms2.length+[(((0 - (coefs.getD i.toNat 0))*i2),r8_)].length≤Zl) <|
  rq (i64 (i2+(1:Int))) <|
  some (.inl ((i2+(1:Int)),(terms2++[(((0 - (coefs.getD i.toNat 0))*i2),r8_)])))) (
  rq (i64 (i+(1:Int))) <|
  some (.inr (.inl ((i+(1:Int)),terms2))))
def ZeT (m:(List Int)×(List D5_)) (coefs:List Int) (most:Int):Int×(List D6_)→Option ((Int×(List D6_))⊕(Bool×Int×(List D6_))):=fun (i,terms1)=>
 cond (decide (i<(m.1.length:Int))) (
  rq (0≤i∧i<m.1.length) <|
  rq (i64 ((m.1.getD i.toNat 0)+(1:Int))) <|
  loop (ZeU m coefs i) ((0:Int),terms1)) (
  up (Zhq most terms1))
def ZeF (m:(List Int)×(List D5_)) (coefs:List Int) (most:Int):Option (Bool×Int×(List D6_)):=
 (ZeZ m).bind fun r1_=>
 cond (!r1_) (
  some (false,(0:Int),([]:List D6_))) (
  (Zht m coefs).bind fun r2_=>
  cond (!r2_) (
   some (false,(0:Int),([]:List D6_))) (
   (ZbN most (-1000:Int) (1000:Int)).bind fun r3_=>
   cond (!r3_) (
    some (false,(0:Int),([]:List D6_))) (
    loop (ZeT m coefs most) ((0:Int),([]:List D6_)))))
def Zpa (r1_:Bool×(List D7_)) (r13_:Bool×(List Int)):Int×(List D6_)→Option (((List D7_)×(List Int))⊕(Int×(List Int)×(List Zw))):=fun (i_11,i_01)=>
 (Zbw r1_.2).bind fun r16_=>
 rq (r16_.length+[(i_01,i_11)].length≤Zl) <|
 rq (r13_.2≠[]) <|
 some (.inl ((r16_++[(i_01,i_11)]),r13_.2))
def Zks (r1_:Bool×(List D7_)) (r17_:Bool×(List Int)):Int×(List D6_)→Option (((List D7_)×(List Int))⊕(Int×(List Int)×(List Zw))):=fun (i_12,i_02)=>
 (Zbw r1_.2).bind fun r20_=>
 rq (r20_.length+[(i_02,i_12)].length≤Zl) <|
 rq (r17_.2≠[]) <|
 some (.inl ((r20_++[(i_02,i_12)]),r17_.2))
def ZbF (a0:(List Int)×(List D5_)) (a1:List Int) (a2:Int) (r1_:Bool×(List D7_)):(List D7_)×(List Int)→Option (((List D7_)×(List Int))⊕(Int×(List Int)×(List Zw))):=fun (i,i1)=>
 (Zcz i a2).bind fun r12_=>
 cond (r12_.1==(2:Int)) (
  cond i1.isEmpty (
   some (.inr ((2:Int),([]:List Int),r12_.2.2))) (
   cond (r12_.1==(2:Int)) (
    some (.inr ((1:Int),i1,r12_.2.2))) (
    cond (r12_.1 != (1:Int)) (
     some (.inr ((0:Int),i1,([]:List Zw)))) (
     (Zgv a0 r12_.2.1).bind fun r13_=>
     (Zmn a1 r13_.2).bind fun r14_=>
     rq (i64 (r14_ - (1:Int))) <|
     (ZeF a0 a1 (r14_ - (1:Int))).bind fun r15_=>
     Zpa r1_ r13_ (r15_.2.1,r15_.2.2))))) (
  cond (r12_.1==(2:Int)) (
   some (.inr ((1:Int),i1,r12_.2.2))) (
   cond (r12_.1 != (1:Int)) (
    some (.inr ((0:Int),i1,([]:List Zw)))) (
    (Zgv a0 r12_.2.1).bind fun r17_=>
    (Zmn a1 r17_.2).bind fun r18_=>
    rq (i64 (r18_ - (1:Int))) <|
    (ZeF a0 a1 (r18_ - (1:Int))).bind fun r19_=>
    Zks r1_ r17_ (r19_.2.1,r19_.2.2))))
def Zgy (a0:(List Int)×(List D5_)) (a1:List Int) (a2:Int):Option (Int×(List Int)×(List Zw)):=
 (ZsP a0).bind fun r1_=>
 cond (!r1_.1) (
  some ((3:Int),([]:List Int),([]:List Zw))) (
  (Zht a0 a1).bind fun r2_=>
  cond (!r2_) (
   some ((3:Int),([]:List Int),([]:List Zw))) (
   (Znx a2).bind fun r3_=>
   cond (!r3_) (
    some ((3:Int),([]:List Int),([]:List Zw))) (
    loop (ZbF a0 a1 a2 r1_) (r1_.2,([]:List Int)))))
def ZjU (list_:List Int) (i:Int):Int→Option (Int⊕(Int⊕Bool)):=fun k_=>
 cond (decide (k_<i)) (
  rq (0≤k_∧k_<list_.length) <|
  rq (0≤i∧i<list_.length) <|
  cond ((list_.getD k_.toNat 0)==(list_.getD i.toNat 0)) (
   some (.inr (.inr false))) (
   rq (i64 (k_+(1:Int))) <|
   some (.inl (k_+(1:Int))))) (
  rq (i64 (i+(1:Int))) <|
  some (.inr (.inl (i+(1:Int)))))
def ZmW (m:(List Int)×(List D5_)) (list_:List Int):Int→Option (Int⊕Bool):=fun i=>
 cond (decide (i<(list_.length:Int))) (
  rq (0≤i∧i<list_.length) <|
  cond (decide ((list_.getD i.toNat 0)<(0:Int))) (
   some (.inr false)) (
   rq (0≤i∧i<list_.length) <|
   cond (decide ((m.1.length:Int)≤(list_.getD i.toNat 0))) (
    some (.inr false)) (
    loop (ZjU list_ i) (0:Int)))) (
  some (.inr (decide ((1:Int)≤(list_.length:Int)))))
def Zqp (m:(List Int)×(List D5_)) (list_:List Int):Option Bool:=
 loop (ZmW m list_) (0:Int)
def ZkM (r_:Int×(List Int)×(List Int)×Int×(List (List Int))):Int→Option (Int⊕Bool):=fun i=>
 cond (decide (i<(r_.2.2.1.length:Int))) (
  rq (0≤i∧i<r_.2.2.1.length) <|
  cond (decide ((r_.2.2.1.getD i.toNat 0)<(-9:Int))) (
   some (.inr false)) (
   rq (0≤i∧i<r_.2.2.1.length) <|
   cond (decide ((9:Int)<(r_.2.2.1.getD i.toNat 0))) (
    some (.inr false)) (
    rq (0≤i∧i<r_.2.2.1.length) <|
    cond ((r_.2.2.1.getD i.toNat 0)==(0:Int)) (
     some (.inr false)) (
     rq (i64 (i+(1:Int))) <|
     some (.inl (i+(1:Int))))))) (
  cond ((r_.2.2.1.length:Int)==(r_.2.1.length:Int)) (
   cond (decide ((-1000:Int)≤r_.2.2.2.1)) (
    some (.inr (decide (r_.2.2.2.1≤(1000:Int))))) (
    some (.inr false))) (
   some (.inr false)))
def ZnP (r_:Int×(List Int)×(List Int)×Int×(List (List Int))):Option Bool:=
 loop (ZkM r_) (0:Int)
def ZiR (r_:Int×(List Int)×(List Int)×Int×(List (List Int))) (i:Int):Int→Option (Int⊕(Int⊕Bool)):=fun k_=>
 rq (0≤i∧i<r_.2.2.2.2.length) <|
 cond (decide (k_<((r_.2.2.2.2.getD i.toNat []).length:Int))) (
  rq (0≤i∧i<r_.2.2.2.2.length) <|
  rq (0≤k_∧k_<(r_.2.2.2.2.getD i.toNat []).length) <|
  cond (decide (((r_.2.2.2.2.getD i.toNat []).getD k_.toNat 0)<(0:Int))) (
   some (.inr (.inr false))) (
   rq (0≤i∧i<r_.2.2.2.2.length) <|
   rq (0≤k_∧k_<(r_.2.2.2.2.getD i.toNat []).length) <|
   cond (decide ((3:Int)<((r_.2.2.2.2.getD i.toNat []).getD k_.toNat 0))) (
    some (.inr (.inr false))) (
    rq (i64 (k_+(1:Int))) <|
    some (.inl (k_+(1:Int)))))) (
  rq (i64 (i+(1:Int))) <|
  some (.inr (.inl (i+(1:Int)))))
def ZlU (r_:Int×(List Int)×(List Int)×Int×(List (List Int))):Int→Option (Int⊕Bool):=fun i=>
 cond (decide (i<(r_.2.2.2.2.length:Int))) (
  rq (0≤i∧i<r_.2.2.2.2.length) <|
  cond (((r_.2.2.2.2.getD i.toNat []).length:Int) != (r_.2.1.length:Int)) (
   some (.inr false)) (
   loop (ZiR r_ i) (0:Int))) (
  some (.inr (decide ((r_.2.2.2.2.length:Int)≤(8:Int)))))
def Zps (r_:Int×(List Int)×(List Int)×Int×(List (List Int))):Option Bool:=
 loop (ZlU r_) (0:Int)
def ZfE (r_:Int×(List Int)×(List Int)×Int×(List (List Int))):Unit→Option Bool:=fun _=>
 cond (r_.1==(1:Int)) (
  (ZnP r_).bind fun r2_=>
  some r2_) (
  cond (r_.1==(2:Int)) (
   some true) (
   cond (r_.1==(3:Int)) (
    (Zps r_).bind fun r3_=>
    some r3_) (
    cond (r_.1==(4:Int)) (
     some ((r_.2.1.length:Int)==(2:Int))) (
     some false))))
def Zqo (m:(List Int)×(List D5_)) (r_:Int×(List Int)×(List Int)×Int×(List (List Int))):Option Bool:=
 (Zqp m r_.2.1).bind fun r1_=>
 cond (!r1_) (
  some false) (
  cond (r_.1 != (1:Int)) (
   cond ((r_.2.2.1.length:Int) != (0:Int)) (
    some false) (
    cond (r_.2.2.2.1 != (0:Int)) (
     some false) (
     cond (r_.1 != (3:Int)) (
      cond ((r_.2.2.2.2.length:Int) != (0:Int)) (
       some false) (
       ZfE r_ ())) (
      ZfE r_ ())))) (
   cond (r_.1 != (3:Int)) (
    cond ((r_.2.2.2.2.length:Int) != (0:Int)) (
     some false) (
     ZfE r_ ())) (
    ZfE r_ ())))
def ZiO (a0:(List Int)×(List D5_)):Int→Option (Int⊕Bool):=fun i3=>
 cond (decide (i3<(a0.2.length:Int))) (
  rq (0≤i3∧i3<a0.2.length) <|
  (Zqo a0 (a0.2.getD i3.toNat (0,([],([],(0,[])))))).bind fun r2_=>
  cond (!r2_) (
   some (.inr false)) (
   rq (i64 (i3+(1:Int))) <|
   some (.inl (i3+(1:Int))))) (
  some (.inr true))
def Zf4 (a0:(List Int)×(List D5_)):Int→Option Bool:=fun i2=>
 cond (decide ((a0.1.length:Int)<(1:Int))) (
  some false) (
  cond (decide ((5:Int)<(a0.1.length:Int))) (
   some false) (
   cond (decide ((12:Int)<i2)) (
    some false) (
    cond (decide ((8:Int)<(a0.2.length:Int))) (
     some false) (
     loop (ZiO a0) (0:Int)))))
def Zmw (a0:(List Int)×(List D5_)):Int×Int→Option ((Int×Int)⊕Bool):=fun (i,i1)=>
 cond (decide (i1<(a0.1.length:Int))) (
  cond (decide (i1<(5:Int))) (
   rq (0≤i1∧i1<a0.1.length) <|
   cond (decide ((a0.1.getD i1.toNat 0)<(0:Int))) (
    some (.inr false)) (
    rq (0≤i1∧i1<a0.1.length) <|
    cond (decide ((3:Int)<(a0.1.getD i1.toNat 0))) (
     some (.inr false)) (
     rq (0≤i1∧i1<a0.1.length) <|
     rq (i64 (i+(a0.1.getD i1.toNat 0))) <|
     rq (i64 ((i+(a0.1.getD i1.toNat 0))+(1:Int))) <|
     rq (i64 (i1+(1:Int))) <|
     some (.inl (((i+(a0.1.getD i1.toNat 0))+(1:Int)),(i1+(1:Int))))))) (
   up (Zf4 a0 i))) (
  up (Zf4 a0 i))
def Zgh (a0:(List Int)×(List D5_)):Option Bool:=
 loop (Zmw a0) ((0:Int),(0:Int))
def Zry (m:(List Int)×(List D5_)) (cell:Int):Int×Int→Option ((Int×Int)⊕Int):=fun (n,i)=>
 cond (decide (i<cell)) (
  rq (0≤i∧i<m.1.length) <|
  rq (i64 (n+(m.1.getD i.toNat 0))) <|
  rq (i64 ((n+(m.1.getD i.toNat 0))+(1:Int))) <|
  rq (i64 (i+(1:Int))) <|
  some (.inl (((n+(m.1.getD i.toNat 0))+(1:Int)),(i+(1:Int))))) (
  some (.inr n))
def Zg5 (m:(List Int)×(List D5_)) (cell:Int) (value:Int):Option Int:=
 rq (i64 ((1:Int)+value)) <|
 loop (Zry m cell) (((1:Int)+value),(0:Int))
def Zpo (n:Int):Option Bool:=
 cond (n != (0:Int)) (
  cond (decide ((-12:Int)≤n)) (
   some (decide (n≤(12:Int)))) (
   some false)) (
  some false)
def ZmT (n:Int):Option Int:=
 cond (decide (n<(0:Int))) (
  rq (i64 (0 - n)) <|
  some (0 - n)) (
  some n)
def ZhC (i2:List Int):Int×(List D6_)→Option ((Int×(List D6_))⊕(Bool×Int×(List D6_))):=fun (i3,i_0)=>
 cond (decide (i3≤(12:Int))) (
  rq (0≤i3∧i3<i2.length) <|
  cond ((i2.getD i3.toNat 0) != (0:Int)) (
   rq (0≤i3∧i3<i2.length) <|
   rq (i_0.length+[((1:Int),(i2.getD i3.toNat 0))].length≤Zl) <|
   rq (i64 (i3+(1:Int))) <|
   some (.inl ((i3+(1:Int)),(i_0++[((1:Int),(i2.getD i3.toNat 0))])))) (
   rq (i64 (i3+(1:Int))) <|
   some (.inl ((i3+(1:Int)),i_0)))) (
  some (.inr (true,(1:Int),i_0)))
def Zoi:(List Int)→Option (Bool×Int×(List D6_)):=fun i2=>
 loop (ZhC i2) ((1:Int),([]:List D6_))
def ZkD (a0:List Int):Int×(List Int)→Option ((Int×(List Int))⊕(Bool×Int×(List D6_))):=fun (i,i1)=>
 cond (decide (i<(a0.length:Int))) (
  rq (0≤i∧i<a0.length) <|
  (Zpo (a0.getD i.toNat 0)).bind fun r3_=>
  cond (!r3_) (
   some (.inr (false,(0:Int),([]:List D6_)))) (
   rq (0≤i∧i<a0.length) <|
   (ZmT (a0.getD i.toNat 0)).bind fun r4_=>
   rq (0≤r4_∧r4_<i1.length) <|
   rq (0≤i∧i<a0.length) <|
   rq (i64 (0 - (a0.getD i.toNat 0))) <|
   cond ((i1.getD r4_.toNat 0)==(0 - (a0.getD i.toNat 0))) (
    some (.inr (false,(0:Int),([]:List D6_)))) (
    rq (0≤i∧i<a0.length) <|
    rq (0≤r4_∧r4_<i1.length) <|
    rq (i64 (i+(1:Int))) <|
    some (.inl ((i+(1:Int)),(i1.set r4_.toNat (a0.getD i.toNat 0))))))) (
  up (Zoi i1))
def Ziq (a0:List Int):Option (Bool×Int×(List D6_)):=
 rq (0≤(13:Int)∧(13:Int)≤Zl∧(13:Int)=(13:Int)) <|
 cond (decide ((40:Int)<(a0.length:Int))) (
  some (false,(0:Int),([]:List D6_))) (
  loop (ZkD a0) ((0:Int),(List.replicate (13:Int).toNat 0)))
def ZjX (vars:List Int):Int×(List D6_)→Option ((Int×(List D6_))⊕(Int×(List D6_))):=fun (i,c_0)=>
 cond (decide (i<(vars.length:Int))) (
  rq (0≤i∧i<vars.length) <|
  rq (i64 (0 - (vars.getD i.toNat 0))) <|
  rq (c_0.length+[((1:Int),(0 - (vars.getD i.toNat 0)))].length≤Zl) <|
  rq (i64 (i+(1:Int))) <|
  some (.inl ((i+(1:Int)),(c_0++[((1:Int),(0 - (vars.getD i.toNat 0)))])))) (
  some (.inr (((vars.length:Int) - (1:Int)),c_0)))
def ZnC (vars:List Int):Option (Int×(List D6_)):=
 rq (i64 ((vars.length:Int) - (1:Int))) <|
 loop (ZjX vars) ((0:Int),([]:List D6_))
def ZjV:(List Int)→Option (List D7_):=fun vars1=>
 (Ziq vars1).bind fun r3_=>
 (ZnC vars1).bind fun r5_=>
 some [(r3_.2.2,r3_.2.1),(r5_.2,r5_.1)]
def ZjW (m:(List Int)×(List D5_)) (cell:Int):Int×(List Int)→Option ((Int×(List Int))⊕(List D7_)):=fun (k_,vars)=>
 rq (0≤cell∧cell<m.1.length) <|
 cond (decide (k_≤(m.1.getD cell.toNat 0))) (
  (Zg5 m cell k_).bind fun r2_=>
  rq (vars.length+[r2_].length≤Zl) <|
  rq (i64 (k_+(1:Int))) <|
  some (.inl ((k_+(1:Int)),(vars++[r2_])))) (
  up (ZjV vars))
def Zqq (m:(List Int)×(List D5_)) (cell:Int):Option (List D7_):=
 loop (ZjW m cell) ((0:Int),([]:List Int))
def Zfj (c_:(List D6_)×Int):Int→Option (Int⊕Bool):=fun i=>
 cond (decide (i<(c_.1.length:Int))) (
  rq (0≤i∧i<c_.1.length) <|
  (Zpo (c_.1.getD i.toNat (0,0)).2).bind fun r4_=>
  cond (!r4_) (
   some (.inr false)) (
   cond (decide ((c_.1.getD i.toNat (0,0)).1<(1:Int))) (
    some (.inr false)) (
    cond (decide ((1000:Int)<(c_.1.getD i.toNat (0,0)).1)) (
     some (.inr false)) (
     cond (decide ((0:Int)<i)) (
      rq (i64 (i - (1:Int))) <|
      rq (0≤(i - (1:Int))∧(i - (1:Int))<c_.1.length) <|
      (ZmT (c_.1.getD (i - (1:Int)).toNat (0,0)).2).bind fun r5_=>
      (ZmT (c_.1.getD i.toNat (0,0)).2).bind fun r6_=>
      cond (decide (r6_≤r5_)) (
       some (.inr false)) (
       rq (i64 (i+(1:Int))) <|
       some (.inl (i+(1:Int))))) (
      rq (i64 (i+(1:Int))) <|
      some (.inl (i+(1:Int)))))))) (
  cond (decide ((0:Int)≤c_.2)) (
   some (.inr (decide (c_.2≤(20000:Int))))) (
   some (.inr false)))
def Ze6 (c_:(List D6_)×Int):Option Bool:=
 loop (Zfj c_) (0:Int)
def ZhD (c_03:List D6_):Int→Option (Bool×Int×(List D6_)):=fun bound_3=>
 (Ze6 (c_03,bound_3)).bind fun r1_=>
 cond (!r1_) (
  some (false,(0:Int),([]:List D6_))) (
  some (true,bound_3,c_03))
def Zoj:Int×(List D6_)→Option (Bool×Int×(List D6_)):=fun (bound_2,c_03)=>
 cond (decide (bound_2<(0:Int))) (
  ZhD c_03 (0:Int)) (
  ZhD c_03 bound_2)
def Zok (net:List Int) (bound_1:Int) (v:Int) (c_02:List D6_):Unit→Option ((Int×Int×(List D6_))⊕(Bool×Int×(List D6_))):=fun _=>
 rq (0≤v∧v<net.length) <|
 rq (i64 (bound_1 - (net.getD v.toNat 0))) <|
 rq (i64 (v+(1:Int))) <|
 some (.inl ((bound_1 - (net.getD v.toNat 0)),(v+(1:Int)),(c_02++[((0 - (net.getD v.toNat 0)),(0 - v))])))
def ZkH (net:List Int) (bound_1:Int) (v:Int):(List D6_)→Option ((Int×Int×(List D6_))⊕(Bool×Int×(List D6_))):=fun c_02=>
 rq (0≤v∧v<net.length) <|
 cond (decide ((net.getD v.toNat 0)<(0:Int))) (
  rq (0≤v∧v<net.length) <|
  rq (i64 (0 - (net.getD v.toNat 0))) <|
  rq (i64 (0 - v)) <|
  rq (c_02.length+[((0 - (net.getD v.toNat 0)),(0 - v))].length≤Zl) <|
  Zok net bound_1 v c_02 ()) (
  rq (i64 (v+(1:Int))) <|
  some (.inl (bound_1,(v+(1:Int)),c_02)))
def ZkI (net:List Int):Int×Int×(List D6_)→Option ((Int×Int×(List D6_))⊕(Bool×Int×(List D6_))):=fun (bound_1,v,c_01)=>
 cond (decide (v≤(12:Int))) (
  rq (0≤v∧v<net.length) <|
  cond (decide ((0:Int)<(net.getD v.toNat 0))) (
   rq (0≤v∧v<net.length) <|
   rq (c_01.length+[((net.getD v.toNat 0),v)].length≤Zl) <|
   ZkH net bound_1 v (c_01++[((net.getD v.toNat 0),v)])) (
   ZkH net bound_1 v c_01)) (
  up (Zoj (bound_1,c_01)))
def Zk9 (net:List Int) (bound_:Int):Option (Bool×Int×(List D6_)):=
 loop (ZkI net) (bound_,(1:Int),([]:List D6_))
def ZkR (r_:Int×(List Int)×(List Int)×Int×(List (List Int))):(List Int)→Option (List D7_):=fun net3=>
 (Zk9 net3 r_.2.2.2.1).bind fun r6_=>
 some [(r6_.2.2,r6_.2.1)]
def ZkS (m:(List Int)×(List D5_)) (r_:Int×(List Int)×(List Int)×Int×(List (List Int))) (i:Int):Int×(List Int)→Option ((Int×(List Int))⊕((Int×(List Int))⊕(List D7_))):=fun (k_1,net2)=>
 rq (0≤i∧i<r_.2.1.length) <|
 rq (0≤(r_.2.1.getD i.toNat 0)∧(r_.2.1.getD i.toNat 0)<m.1.length) <|
 cond (decide (k_1≤(m.1.getD (r_.2.1.getD i.toNat 0).toNat 0))) (
  rq (0≤i∧i<r_.2.1.length) <|
  (Zg5 m (r_.2.1.getD i.toNat 0) k_1).bind fun r5_=>
  rq (0≤i∧i<r_.2.2.1.length) <|
  rq (i64 ((r_.2.2.1.getD i.toNat 0)*k_1)) <|
  rq (0≤r5_∧r5_<net2.length) <|
  rq (i64 (k_1+(1:Int))) <|
  some (.inl ((k_1+(1:Int)),(net2.set r5_.toNat ((r_.2.2.1.getD i.toNat 0)*k_1))))) (
  rq (i64 (i+(1:Int))) <|
  some (.inr (.inl ((i+(1:Int)),net2))))
def Zon (m:(List Int)×(List D5_)) (r_:Int×(List Int)×(List Int)×Int×(List (List Int))):Int×(List Int)→Option ((Int×(List Int))⊕(List D7_)):=fun (i,net1)=>
 cond (decide (i<(r_.2.1.length:Int))) (
  loop (ZkS m r_ i) ((0:Int),net1)) (
  up (ZkR r_ net1))
def ZnS (m:(List Int)×(List D5_)) (r_:Int×(List Int)×(List Int)×Int×(List (List Int))):Option (List D7_):=
 rq (0≤(13:Int)∧(13:Int)≤Zl∧(13:Int)=(13:Int)) <|
 loop (Zon m r_) ((0:Int),(List.replicate (13:Int).toNat 0))
def ZkU (i:Int):Int×(List Int)→Option ((Int×(List Int))⊕((Int×(List Int))⊕(List Int))):=fun (k_1,out2)=>
 cond (decide ((0:Int)<k_1)) (
  rq (0≤k_1∧k_1<out2.length) <|
  rq (i64 (k_1 - (1:Int))) <|
  rq (0≤(k_1 - (1:Int))∧(k_1 - (1:Int))<out2.length) <|
  cond (decide ((out2.getD k_1.toNat 0)<(out2.getD (k_1 - (1:Int)).toNat 0))) (
   rq (0≤k_1∧k_1<out2.length) <|
   rq (i64 (k_1 - (1:Int))) <|
   rq (0≤(k_1 - (1:Int))∧(k_1 - (1:Int))<out2.length) <|
   rq (0≤k_1∧k_1<out2.length) <|
   rq (i64 (k_1 - (1:Int))) <|
   rq (0≤(k_1 - (1:Int))∧(k_1 - (1:Int))<(out2.set k_1.toNat (out2.getD (k_1 - (1:Int)).toNat 0)).length) <|
   rq (i64 (k_1 - (1:Int))) <|
   some (.inl ((k_1 - (1:Int)),((out2.set k_1.toNat (out2.getD (k_1 - (1:Int)).toNat 0)).set (k_1 - (1:Int)).toNat (out2.getD k_1.toNat 0))))) (
   rq (i64 (i+(1:Int))) <|
   some (.inr (.inl ((i+(1:Int)),out2))))) (
  rq (i64 (i+(1:Int))) <|
  some (.inr (.inl ((i+(1:Int)),out2))))
def ZkT:Int×(List Int)→Option ((Int×(List Int))⊕(List Int)):=fun (i,out1)=>
 cond (decide (i<(out1.length:Int))) (
  loop (ZkU i) (i,out1)) (
  some (.inr out1))
def ZnT (list_:List Int):Option (List Int):=
 rq (([]:List Int).length+list_.length≤Zl) <|
 loop (ZkT) ((0:Int),(([]:List Int)++list_))
def Zfr (k_:Int) (out:List D7_):(List Int)→Option ((Int×(List D7_))⊕(List D7_)):=fun vars3=>
 cond (decide ((1:Int)<(vars3.length:Int))) (
  (ZnT vars3).bind fun r8_=>
  (ZnC r8_).bind fun r9_=>
  rq (out.length+[(r9_.2,r9_.1)].length≤Zl) <|
  rq (i64 (k_+(1:Int))) <|
  some (.inl ((k_+(1:Int)),(out++[(r9_.2,r9_.1)])))) (
  rq (i64 (k_+(1:Int))) <|
  some (.inl ((k_+(1:Int)),out)))
def Zfs (m:(List Int)×(List D5_)) (r_:Int×(List Int)×(List Int)×Int×(List (List Int))) (k_:Int) (out:List D7_):Int×(List Int)→Option ((Int×(List Int))⊕((Int×(List D7_))⊕(List D7_))):=fun (i1,vars2)=>
 cond (decide (i1<(r_.2.1.length:Int))) (
  rq (0≤i1∧i1<r_.2.1.length) <|
  rq (0≤(r_.2.1.getD i1.toNat 0)∧(r_.2.1.getD i1.toNat 0)<m.1.length) <|
  cond (decide (k_≤(m.1.getD (r_.2.1.getD i1.toNat 0).toNat 0))) (
   rq (0≤i1∧i1<r_.2.1.length) <|
   (Zg5 m (r_.2.1.getD i1.toNat 0) k_).bind fun r7_=>
   rq (vars2.length+[r7_].length≤Zl) <|
   rq (i64 (i1+(1:Int))) <|
   some (.inl ((i1+(1:Int)),(vars2++[r7_])))) (
   rq (i64 (i1+(1:Int))) <|
   some (.inl ((i1+(1:Int)),vars2)))) (
  up (Zfr k_ out vars2))
def Zly (m:(List Int)×(List D5_)) (r_:Int×(List Int)×(List Int)×Int×(List (List Int))):Int×(List D7_)→Option ((Int×(List D7_))⊕(List D7_)):=fun (k_,out)=>
 cond (decide (k_≤(3:Int))) (
  loop (Zfs m r_ k_ out) ((0:Int),([]:List Int))) (
  some (.inr out))
def ZkO (m:(List Int)×(List D5_)) (r_:Int×(List Int)×(List Int)×Int×(List (List Int))):Option (List D7_):=
 loop (Zly m r_) ((0:Int),([]:List D7_))
def ZmU (a:List Int) (b:List Int):Int→Option (Int⊕Bool):=fun i=>
 cond (decide (i<(a.length:Int))) (
  rq (0≤i∧i<a.length) <|
  rq (0≤i∧i<b.length) <|
  cond ((a.getD i.toNat 0) != (b.getD i.toNat 0)) (
   some (.inr false)) (
   rq (i64 (i+(1:Int))) <|
   some (.inl (i+(1:Int))))) (
  some (.inr true))
def Zqn (a:List Int) (b:List Int):Option Bool:=
 cond ((a.length:Int) != (b.length:Int)) (
  some false) (
  loop (ZmU a b) (0:Int))
def Zpq (a0:Int×(List Int)×(List Int)×Int×(List (List Int))) (i2:List Int):Int×Int→Option ((Int×Int)⊕Bool):=fun (i3,i4)=>
 cond (decide (i4<(i2.length:Int))) (
  rq (0≤i4∧i4<a0.2.2.1.length) <|
  rq (0≤i4∧i4<i2.length) <|
  rq (i64 ((a0.2.2.1.getD i4.toNat 0)*(i2.getD i4.toNat 0))) <|
  rq (i64 (i3+((a0.2.2.1.getD i4.toNat 0)*(i2.getD i4.toNat 0)))) <|
  rq (i64 (i4+(1:Int))) <|
  some (.inl ((i3+((a0.2.2.1.getD i4.toNat 0)*(i2.getD i4.toNat 0))),(i4+(1:Int))))) (
  some (.inr (decide (a0.2.2.2.1≤i3))))
def ZiQ (i2:List Int) (i5:Int):Int→Option (Int⊕(Int⊕Bool)):=fun i6=>
 cond (decide (i6<i5)) (
  rq (0≤i6∧i6<i2.length) <|
  rq (0≤i5∧i5<i2.length) <|
  cond ((i2.getD i6.toNat 0)==(i2.getD i5.toNat 0)) (
   some (.inr (.inr false))) (
   rq (i64 (i6+(1:Int))) <|
   some (.inl (i6+(1:Int))))) (
  rq (i64 (i5+(1:Int))) <|
  some (.inr (.inl (i5+(1:Int)))))
def ZiP (i2:List Int):Int→Option (Int⊕Bool):=fun i5=>
 cond (decide (i5<(i2.length:Int))) (
  loop (ZiQ i2 i5) (0:Int)) (
  some (.inr true))
def ZlN (a0:Int×(List Int)×(List Int)×Int×(List (List Int))) (i2:List Int):Int→Option (Int⊕Bool):=fun i7=>
 cond (decide (i7<(a0.2.2.2.2.length:Int))) (
  rq (0≤i7∧i7<a0.2.2.2.2.length) <|
  (Zqn (a0.2.2.2.2.getD i7.toNat []) i2).bind fun r1_=>
  cond r1_ (
   some (.inr true)) (
   rq (i64 (i7+(1:Int))) <|
   some (.inl (i7+(1:Int))))) (
  some (.inr false))
def ZlM (a0:Int×(List Int)×(List Int)×Int×(List (List Int))):(List Int)→Option Bool:=fun i2=>
 cond (a0.1==(1:Int)) (
  loop (Zpq a0 i2) ((0:Int),(0:Int))) (
  cond (a0.1==(2:Int)) (
   loop (ZiP i2) (0:Int)) (
   cond (a0.1==(4:Int)) (
    rq (0≤(0:Int)∧(0:Int)<i2.length) <|
    rq (0≤(1:Int)∧(1:Int)<i2.length) <|
    some (decide ((i2.getD (0:Int).toNat 0)<(i2.getD (1:Int).toNat 0)))) (
    loop (ZlN a0 i2) (0:Int))))
def ZlO (a0:Int×(List Int)×(List Int)×Int×(List (List Int))) (a1:List Int):Int×(List Int)→Option ((Int×(List Int))⊕Bool):=fun (i,i1)=>
 cond (decide (i<(a0.2.1.length:Int))) (
  rq (0≤i∧i<a0.2.1.length) <|
  rq (0≤(a0.2.1.getD i.toNat 0)∧(a0.2.1.getD i.toNat 0)<a1.length) <|
  rq (i1.length+[(a1.getD (a0.2.1.getD i.toNat 0).toNat 0)].length≤Zl) <|
  rq (i64 (i+(1:Int))) <|
  some (.inl ((i+(1:Int)),(i1++[(a1.getD (a0.2.1.getD i.toNat 0).toNat 0)])))) (
  up (ZlM a0 i1))
def Zpp (a0:Int×(List Int)×(List Int)×Int×(List (List Int))) (a1:List Int):Option Bool:=
 loop (ZlO a0 a1) ((0:Int),([]:List Int))
def ZmV (m:(List Int)×(List D5_)):Int×(List Int)→Option ((Int×(List Int))⊕(Bool×(List Int))):=fun (i,out)=>
 cond (decide ((0:Int)≤i)) (
  rq (0≤i∧i<out.length) <|
  rq (0≤i∧i<m.1.length) <|
  cond (decide ((out.getD i.toNat 0)<(m.1.getD i.toNat 0))) (
   rq (0≤i∧i<out.length) <|
   rq (i64 ((out.getD i.toNat 0)+(1:Int))) <|
   rq (0≤i∧i<out.length) <|
   some (.inr (true,(out.set i.toNat ((out.getD i.toNat 0)+(1:Int)))))) (
   rq (0≤i∧i<out.length) <|
   rq (i64 (i - (1:Int))) <|
   some (.inl ((i - (1:Int)),(out.set i.toNat (0:Int)))))) (
  some (.inr (false,out)))
def ZnB (m:(List Int)×(List D5_)) (cells:List Int):Option (Bool×(List Int)):=
 rq (([]:List Int).length+cells.length≤Zl) <|
 rq (i64 (((([]:List Int)++cells).length:Int) - (1:Int))) <|
 loop (ZmV m) ((((([]:List Int)++cells).length:Int) - (1:Int)),(([]:List Int)++cells))
def ZhH (i_01:List Int) (i9:List Int):(List D7_)→Option ((Bool×(List D7_)×(List Int))⊕(List D7_)):=fun i15=>
 (ZnB (i_01,([]:List D5_)) i9).bind fun r11_=>
 some (.inl (r11_.1,i15,r11_.2))
def ZhG (a1:Int×(List Int)×(List Int)×Int×(List (List Int))) (i_01:List Int) (i8:List D7_) (i9:List Int):(List Int)×(List Int)→Option ((Bool×(List D7_)×(List Int))⊕(List D7_)):=fun (i13,i14)=>
 (Zpp a1 i13).bind fun r9_=>
 cond (!r9_) (
  (Ziq i14).bind fun r10_=>
  rq (i8.length+[(r10_.2.2,r10_.2.1)].length≤Zl) <|
  ZhH i_01 i9 (i8++[(r10_.2.2,r10_.2.1)])) (
  ZhH i_01 i9 i8)
def Zom (a0:(List Int)×(List D5_)) (a1:Int×(List Int)×(List Int)×Int×(List (List Int))) (i9:List Int) (i10:Int) (i11:List Int) (i12:List Int):Unit→Option ((Int×(List Int)×(List Int))⊕((Bool×(List D7_)×(List Int))⊕(List D7_))):=fun _=>
 rq (0≤i10∧i10<i9.length) <|
 rq (0≤i10∧i10<a1.2.1.length) <|
 (Zg5 a0 (a1.2.1.getD i10.toNat 0) (i9.getD i10.toNat 0)).bind fun r8_=>
 rq (i64 (0 - r8_)) <|
 rq (i12.length+[(0 - r8_)].length≤Zl) <|
 rq (i64 (i10+(1:Int))) <|
 some (.inl ((i10+(1:Int)),(i11.set (a1.2.1.getD i10.toNat 0).toNat (i9.getD i10.toNat 0)),(i12++[(0 - r8_)])))
def ZkQ (a0:(List Int)×(List D5_)) (a1:Int×(List Int)×(List Int)×Int×(List (List Int))) (i_01:List Int) (i8:List D7_) (i9:List Int):Int×(List Int)×(List Int)→Option ((Int×(List Int)×(List Int))⊕((Bool×(List D7_)×(List Int))⊕(List D7_))):=fun (i10,i11,i12)=>
 cond (decide (i10<(i9.length:Int))) (
  rq (0≤i10∧i10<i9.length) <|
  rq (0≤i10∧i10<a1.2.1.length) <|
  rq (0≤(a1.2.1.getD i10.toNat 0)∧(a1.2.1.getD i10.toNat 0)<i11.length) <|
  Zom a0 a1 i9 i10 i11 i12 ()) (
  up (ZhG a1 i_01 i8 i9 (i11,i12)))
def ZkP (a0:(List Int)×(List D5_)) (a1:Int×(List Int)×(List Int)×Int×(List (List Int))) (i_01:List Int):Bool×(List D7_)×(List Int)→Option ((Bool×(List D7_)×(List Int))⊕(List D7_)):=fun (i1,i8,i9)=>
 cond i1 (
  rq (0≤(a0.1.length:Int)∧(a0.1.length:Int)≤Zl∧(a0.1.length:Int)=(a0.1.length:Int)) <|
  loop (ZkQ a0 a1 i_01 i8 i9) ((0:Int),(List.replicate (a0.1.length:Int).toNat 0),([]:List Int))) (
  some (.inr i8))
def ZhF (a0:(List Int)×(List D5_)) (a1:Int×(List Int)×(List Int)×Int×(List (List Int))):(List Int)→Option (List D7_):=fun i_01=>
 rq (0≤(a1.2.1.length:Int)∧(a1.2.1.length:Int)≤Zl∧(a1.2.1.length:Int)=(a1.2.1.length:Int)) <|
 loop (ZkP a0 a1 i_01) (true,([]:List D7_),(List.replicate (a1.2.1.length:Int).toNat 0))
def ZhI (a0:(List Int)×(List D5_)) (a1:Int×(List Int)×(List Int)×Int×(List (List Int))):Int×(List Int)→Option ((Int×(List Int))⊕(List D7_)):=fun (i,i_0)=>
 cond (decide (i<(a1.2.1.length:Int))) (
  rq (0≤i∧i<a1.2.1.length) <|
  rq (0≤(a1.2.1.getD i.toNat 0)∧(a1.2.1.getD i.toNat 0)<a0.1.length) <|
  rq (i_0.length+[(a0.1.getD (a1.2.1.getD i.toNat 0).toNat 0)].length≤Zl) <|
  rq (i64 (i+(1:Int))) <|
  some (.inl ((i+(1:Int)),(i_0++[(a0.1.getD (a1.2.1.getD i.toNat 0).toNat 0)])))) (
  up (ZhF a0 a1 i_0))
def ZnR (a0:(List Int)×(List D5_)) (a1:Int×(List Int)×(List Int)×Int×(List (List Int))):Option (List D7_):=
 loop (ZhI a0 a1) ((0:Int),([]:List Int))
def Zqr (m:(List Int)×(List D5_)) (r_:Int×(List Int)×(List Int)×Int×(List (List Int))):Option (List D7_):=
 cond (r_.1==(1:Int)) (
  (ZnS m r_).bind fun r1_=>
  some r1_) (
  cond (r_.1==(2:Int)) (
   (ZkO m r_).bind fun r2_=>
   some r2_) (
   (ZnR m r_).bind fun r3_=>
   some r3_))
def ZhV:(List D7_)→Option (Bool×(List D7_)):=fun out3=>
 cond (decide ((400:Int)<(out3.length:Int))) (
  some (false,([]:List D7_))) (
  some (true,out3))
def ZhW (m:(List Int)×(List D5_)):Int×(List D7_)→Option ((Int×(List D7_))⊕(Bool×(List D7_))):=fun (i1,out2)=>
 cond (decide (i1<(m.2.length:Int))) (
  rq (0≤i1∧i1<m.2.length) <|
  (Zqr m (m.2.getD i1.toNat (0,([],([],(0,[])))))).bind fun r6_=>
  rq (out2.length+r6_.length≤Zl) <|
  rq (i64 (i1+(1:Int))) <|
  some (.inl ((i1+(1:Int)),(out2++r6_)))) (
  up (ZhV out2))
def ZhU (m:(List Int)×(List D5_)):(List D7_)→Option (Bool×(List D7_)):=fun out1=>
 loop (ZhW m) ((0:Int),out1)
def ZhX (m:(List Int)×(List D5_)):Int×(List D7_)→Option ((Int×(List D7_))⊕(Bool×(List D7_))):=fun (i,out)=>
 cond (decide (i<(m.1.length:Int))) (
  (Zqq m i).bind fun r3_=>
  rq (out.length+r3_.length≤Zl) <|
  rq (i64 (i+(1:Int))) <|
  some (.inl ((i+(1:Int)),(out++r3_)))) (
  up (ZhU m out))
def ZkE (m:(List Int)×(List D5_)):Option (Bool×(List D7_)):=
 (Zgh m).bind fun r1_=>
 cond (!r1_) (
  some (false,([]:List D7_))) (
  loop (ZhX m) ((0:Int),([]:List D7_)))
def ZlV (coefs:List Int):Int→Option (Int⊕Bool):=fun i=>
 cond (decide (i<(coefs.length:Int))) (
  rq (0≤i∧i<coefs.length) <|
  cond (decide ((coefs.getD i.toNat 0)<(-9:Int))) (
   some (.inr false)) (
   rq (0≤i∧i<coefs.length) <|
   cond (decide ((9:Int)<(coefs.getD i.toNat 0))) (
    some (.inr false)) (
    rq (i64 (i+(1:Int))) <|
    some (.inl (i+(1:Int)))))) (
  some (.inr true))
def Zmz (m:(List Int)×(List D5_)) (coefs:List Int):Option Bool:=
 (Zgh m).bind fun r1_=>
 cond (!r1_) (
  some false) (
  cond ((coefs.length:Int) != (m.1.length:Int)) (
   some false) (
   loop (ZlV coefs) (0:Int)))
def Zpu (coefs:List Int) (cells:List Int):Int×Int→Option ((Int×Int)⊕Int):=fun (n,i)=>
 cond (decide (i<(cells.length:Int))) (
  rq (0≤i∧i<coefs.length) <|
  rq (0≤i∧i<cells.length) <|
  rq (i64 ((coefs.getD i.toNat 0)*(cells.getD i.toNat 0))) <|
  rq (i64 (n+((coefs.getD i.toNat 0)*(cells.getD i.toNat 0)))) <|
  rq (i64 (i+(1:Int))) <|
  some (.inl ((n+((coefs.getD i.toNat 0)*(cells.getD i.toNat 0))),(i+(1:Int))))) (
  some (.inr n))
def Zpt (coefs:List Int) (cells:List Int):Option Int:=
 loop (Zpu coefs cells) ((0:Int),(0:Int))
def ZhB (most:Int):(List Int)→Option (Bool×Int×(List D6_)):=fun net3=>
 rq (i64 (0 - most)) <|
 (Zk9 net3 (0 - most)).bind fun r7_=>
 some (r7_.1,r7_.2.1,r7_.2.2)
def Ze5 (m:(List Int)×(List D5_)) (coefs:List Int) (i:Int):Int×(List Int)→Option ((Int×(List Int))⊕((Int×(List Int))⊕(Bool×Int×(List D6_)))):=fun (k_1,net2)=>
 rq (0≤i∧i<m.1.length) <|
 cond (decide (k_1≤(m.1.getD i.toNat 0))) (
  rq (0≤i∧i<coefs.length) <|
  rq (i64 (0 - (coefs.getD i.toNat 0))) <|
  rq (i64 ((0 - (coefs.getD i.toNat 0))*k_1)) <|
  (Zg5 m i k_1).bind fun r6_=>
  rq (0≤r6_∧r6_<net2.length) <|
  rq (i64 (k_1+(1:Int))) <|
  some (.inl ((k_1+(1:Int)),(net2.set r6_.toNat ((0 - (coefs.getD i.toNat 0))*k_1))))) (
  rq (i64 (i+(1:Int))) <|
  some (.inr (.inl ((i+(1:Int)),net2))))
def Ze4 (m:(List Int)×(List D5_)) (coefs:List Int) (most:Int):Int×(List Int)→Option ((Int×(List Int))⊕(Bool×Int×(List D6_))):=fun (i,net1)=>
 cond (decide (i<(coefs.length:Int))) (
  loop (Ze5 m coefs i) ((0:Int),net1)) (
  up (ZhB most net1))
def Zgf (m:(List Int)×(List D5_)) (coefs:List Int) (most:Int):Option (Bool×Int×(List D6_)):=
 (Zmz m coefs).bind fun r1_=>
 cond (!r1_) (
  some (false,(0:Int),([]:List D6_))) (
  cond (decide (most<(-1000:Int))) (
   some (false,(0:Int),([]:List D6_))) (
   cond (decide ((1000:Int)<most)) (
    some (false,(0:Int),([]:List D6_))) (
    rq (0≤(13:Int)∧(13:Int)≤Zl∧(13:Int)=(13:Int)) <|
    loop (Ze4 m coefs most) ((0:Int),(List.replicate (13:Int).toNat 0)))))
def Zg2 (list_:List D7_):Int→Option (Int⊕Bool):=fun i=>
 cond (decide (i<(list_.length:Int))) (
  rq (0≤i∧i<list_.length) <|
  (Ze6 (list_.getD i.toNat ([],0))).bind fun r1_=>
  cond (!r1_) (
   some (.inr false)) (
   rq (i64 (i+(1:Int))) <|
   some (.inl (i+(1:Int))))) (
  some (.inr (decide ((list_.length:Int)≤(400:Int)))))
def Zjn (list_:List D7_):Option Bool:=
 loop (Zg2 list_) (0:Int)
def Zgs (lit:Int) (p:List Int):Option (List Int):=
 cond (decide ((0:Int)<lit)) (
  rq (i64 (lit - (1:Int))) <|
  rq (0≤(lit - (1:Int))∧(lit - (1:Int))<p.length) <|
  some (p.set (lit - (1:Int)).toNat (1:Int))) (
  rq (i64 (0 - lit)) <|
  rq (i64 ((0 - lit) - (1:Int))) <|
  rq (0≤((0 - lit) - (1:Int))∧((0 - lit) - (1:Int))<p.length) <|
  some (p.set ((0 - lit) - (1:Int)).toNat (-1:Int)))
def Zmy (p:List Int) (lit:Int):Option Int:=
 cond (decide ((0:Int)<lit)) (
  rq (i64 (lit - (1:Int))) <|
  rq (0≤(lit - (1:Int))∧(lit - (1:Int))<p.length) <|
  some (p.getD (lit - (1:Int)).toNat 0)) (
  rq (i64 (0 - lit)) <|
  rq (i64 ((0 - lit) - (1:Int))) <|
  rq (0≤((0 - lit) - (1:Int))∧((0 - lit) - (1:Int))<p.length) <|
  rq (i64 (0 - (p.getD ((0 - lit) - (1:Int)).toNat 0))) <|
  some (0 - (p.getD ((0 - lit) - (1:Int)).toNat 0)))
def ZlL (c_:(List D6_)×Int) (p:List Int):Int×Int→Option ((Int×Int)⊕Int):=fun (n,i)=>
 cond (decide (i<(c_.1.length:Int))) (
  rq (0≤i∧i<c_.1.length) <|
  (Zmy p (c_.1.getD i.toNat (0,0)).2).bind fun r1_=>
  cond (decide ((0:Int)≤r1_)) (
   rq (0≤i∧i<c_.1.length) <|
   rq (i64 (n+(c_.1.getD i.toNat (0,0)).1)) <|
   rq (i64 (i+(1:Int))) <|
   some (.inl ((n+(c_.1.getD i.toNat (0,0)).1),(i+(1:Int))))) (
   rq (i64 (i+(1:Int))) <|
   some (.inl (n,(i+(1:Int)))))) (
  some (.inr n))
def Zmx (c_:(List D6_)×Int) (p:List Int):Option Int:=
 rq (i64 (0 - c_.2)) <|
 loop (ZlL c_ p) ((0 - c_.2),(0:Int))
def ZgF (c_:(List D6_)×Int) (p:List Int) (r1_:Int):Int×(List Int)→Option ((Int×(List Int))⊕(List Int)):=fun (i,out)=>
 cond (decide (i<(c_.1.length:Int))) (
  cond (decide ((0:Int)≤r1_)) (
   rq (0≤i∧i<c_.1.length) <|
   (Zmy p (c_.1.getD i.toNat (0,0)).2).bind fun r3_=>
   cond (r3_==(0:Int)) (
    rq (0≤i∧i<c_.1.length) <|
    cond (decide (r1_<(c_.1.getD i.toNat (0,0)).1)) (
     rq (0≤i∧i<c_.1.length) <|
     rq (out.length+[(c_.1.getD i.toNat (0,0)).2].length≤Zl) <|
     rq (i64 (i+(1:Int))) <|
     some (.inl ((i+(1:Int)),(out++[(c_.1.getD i.toNat (0,0)).2])))) (
     rq (i64 (i+(1:Int))) <|
     some (.inl ((i+(1:Int)),out)))) (
    rq (i64 (i+(1:Int))) <|
    some (.inl ((i+(1:Int)),out)))) (
   some (.inr out))) (
  some (.inr out))
def Zhg (c_:(List D6_)×Int) (p:List Int):Option (List Int):=
 (Zmx c_ p).bind fun r1_=>
 loop (ZgF c_ p r1_) ((0:Int),([]:List Int))
def ZdP (i1:Int) (r14_:(List Int)):Bool×Int×(List Int)→Option ((Bool×Int×(List Int))⊕((Bool×Int×(List Int))⊕((Bool×(List Int))⊕(Int×(List Int))))):=fun (changed6,k_3,p7)=>
 cond (decide (k_3<(r14_.length:Int))) (
  rq (0≤k_3∧k_3<r14_.length) <|
  (Zgs (r14_.getD k_3.toNat 0) p7).bind fun r16_=>
  rq (i64 (k_3+(1:Int))) <|
  some (.inl (true,(k_3+(1:Int)),r16_))) (
  rq (i64 (i1+(1:Int))) <|
  some (.inr (.inl (changed6,(i1+(1:Int)),p7))))
def ZdO (list_:List D7_):Bool×Int×(List Int)→Option ((Bool×Int×(List Int))⊕((Bool×(List Int))⊕(Int×(List Int)))):=fun (changed4,i1,p6)=>
 cond (decide (i1<(list_.length:Int))) (
  rq (0≤i1∧i1<list_.length) <|
  (Zmx (list_.getD i1.toNat ([],0)) p6).bind fun r13_=>
  cond (decide (r13_<(0:Int))) (
   some (.inr (.inr (i1,p6)))) (
   rq (0≤i1∧i1<list_.length) <|
   (Zhg (list_.getD i1.toNat ([],0)) p6).bind fun r14_=>
   loop (ZdP i1 r14_) (changed4,(0:Int),p6))) (
  some (.inr (.inl (changed4,p6))))
def Zfp (list_:List D7_):Bool×(List Int)→Option ((Bool×(List Int))⊕(Int×(List Int))):=fun (changed,p4)=>
 cond changed (
  loop (ZdO list_) (false,(0:Int),p4)) (
  some (.inr ((-1:Int),p4)))
def ZeC (list_:List D7_) (p:List Int):Option (Int×(List Int)):=
 loop (Zfp list_) (true,p)
def ZhY (s_2:Int) (o0:List D7_) (o1:List Zw):(List Int)→Option (Int×(List D7_)×(List Zw)):=fun lits1=>
 (Ziq lits1).bind fun r1_=>
 rq (o0.length+[(r1_.2.2,r1_.2.1)].length≤Zl) <|
 rq (o1.length+[((7:Int),((0:Int),((0:Int),(r1_.2.2,r1_.2.1))))].length≤Zl) <|
 some (s_2,(o0++[(r1_.2.2,r1_.2.1)]),(o1++[((7:Int),((0:Int),((0:Int),(r1_.2.2,r1_.2.1))))]))
def Zc2 (s_2:Int) (decisions:List Int) (o0:List D7_) (o1:List Zw):Int×(List Int)→Option ((Int×(List Int))⊕(Int×(List D7_)×(List Zw))):=fun (i,lits)=>
 cond (decide (i<(decisions.length:Int))) (
  rq (0≤i∧i<decisions.length) <|
  rq (i64 (0 - (decisions.getD i.toNat 0))) <|
  rq (lits.length+[(0 - (decisions.getD i.toNat 0))].length≤Zl) <|
  rq (i64 (i+(1:Int))) <|
  some (.inl ((i+(1:Int)),(lits++[(0 - (decisions.getD i.toNat 0))])))) (
  up (ZhY s_2 o0 o1 lits))
def Zdv (s_2:Int) (decisions:List Int) (o0:List D7_) (o1:List Zw):Option (Int×(List D7_)×(List Zw)):=
 loop (Zc2 s_2 decisions o0 o1) ((0:Int),([]:List Int))
def ZjT (p:List Int):Int→Option (Int⊕Int):=fun i=>
 cond (decide (i<(p.length:Int))) (
  rq (0≤i∧i<p.length) <|
  cond ((p.getD i.toNat 0)==(0:Int)) (
   rq (i64 (i+(1:Int))) <|
   some (.inr (i+(1:Int)))) (
   rq (i64 (i+(1:Int))) <|
   some (.inl (i+(1:Int))))) (
  some (.inr (0:Int)))
def Zi1 (p:List Int):Option Int:=
 loop (ZjT p) (0:Int)
def ZkK (a0_2:Int) (o0:List D7_) (o1:List Zw):(List Bool)→Option (Int×Int×(List Bool)×(List D7_)×(List Zw)):=fun i5=>
 some ((1:Int),(a0_2 - (1:Int)),i5,o0,o1)
def ZcR (a0_2:Int) (o0:List D7_) (o1:List Zw) (r3_:Int×(List Int)):Int×(List Bool)→Option ((Int×(List Bool))⊕(Int×Int×(List Bool)×(List D7_)×(List Zw))):=fun (i3,i4)=>
 cond (decide (i3<(r3_.2.length:Int))) (
  rq (0≤i3∧i3<r3_.2.length) <|
  rq (i4.length+[(decide ((0:Int)<(r3_.2.getD i3.toNat 0)))].length≤Zl) <|
  rq (i64 (i3+(1:Int))) <|
  some (.inl ((i3+(1:Int)),(i4++[(decide ((0:Int)<(r3_.2.getD i3.toNat 0)))])))) (
  up (ZkK a0_2 o0 o1 i4))
def Zg3 (a1:List Int):Int×(List D7_)×(List Zw)→Option (Int×Int×(List Bool)×(List D7_)×(List Zw)):=fun (i_23,i_03,i_13)=>
 cond (decide ((1000:Int)≤(i_13.length:Int))) (
  some ((0:Int),i_23,([]:List Bool),i_03,i_13)) (
  (Zdv i_23 a1 i_03 i_13).bind fun r9_=>
  some ((2:Int),r9_.1,([]:List Bool),r9_.2.1,r9_.2.2))
def Zg4 (i6:Int):Int×Int×(List Bool)×(List D7_)×(List Zw)→Option ((Int×Int×(List D7_)×(List Zw))⊕(Int×Int×(List Bool)×(List D7_)×(List Zw))):=fun (i9,i_22,i10,i_02,i_12)=>
 cond (i9 != (2:Int)) (
  some (.inr (i9,i_22,i10,i_02,i_12))) (
  rq (i64 (i6+(1:Int))) <|
  some (.inl ((i6+(1:Int)),i_22,i_02,i_12)))
def Zee (a1:List Int) (r5_:Int) (rec_:Int→(List Int)→(List D7_)→(List Zw)→Option (Int×Int×(List Bool)×(List D7_)×(List Zw))):Int×Int×(List D7_)×(List Zw)→Option ((Int×Int×(List D7_)×(List Zw))⊕(Int×Int×(List Bool)×(List D7_)×(List Zw))):=fun (i6,i_21,i_01,i_11)=>
 cond (decide (i6<([r5_,(0 - r5_)].length:Int))) (
  rq (0≤i6∧i6 < [r5_,(0 - r5_)].length) <|
  rq (([]:List Int).length+a1.length≤Zl) <|
  rq ((([]:List Int)++a1).length+[([r5_,(0 - r5_)].getD i6.toNat 0)].length≤Zl) <|
  (rec_ i_21 ((([]:List Int)++a1)++[([r5_,(0 - r5_)].getD i6.toNat 0)]) i_01 i_11).bind fun r8_=>
  Zg4 i6 (r8_.1,r8_.2.1,r8_.2.2.1,r8_.2.2.2.1,r8_.2.2.2.2)) (
  up (Zg3 a1 (i_21,i_01,i_11)))
def Zcn (a0_2:Int) (a1:List Int) (o0:List D7_) (o1:List Zw) (rec_:Int→(List Int)→(List D7_)→(List Zw)→Option (Int×Int×(List Bool)×(List D7_)×(List Zw))):(List Int)→Option (Int×Int×(List Bool)×(List D7_)×(List Zw)):=fun i2=>
 (ZeC o0 i2).bind fun r3_=>
 cond (decide ((0:Int)≤r3_.1)) (
  (Zdv (a0_2 - (1:Int)) a1 o0 o1).bind fun r4_=>
  some ((2:Int),r4_.1,([]:List Bool),r4_.2.1,r4_.2.2)) (
  (Zi1 r3_.2).bind fun r5_=>
  cond (r5_==(0:Int)) (
   loop (ZcR a0_2 o0 o1 r3_) ((0:Int),([]:List Bool))) (
   rq (i64 (0 - r5_)) <|
   loop (Zee a1 r5_ rec_) ((0:Int),(a0_2 - (1:Int)),o0,o1)))
def Zdw (a0_2:Int) (a1:List Int) (o0:List D7_) (o1:List Zw) (rec_:Int→(List Int)→(List D7_)→(List Zw)→Option (Int×Int×(List Bool)×(List D7_)×(List Zw))):Int×(List Int)→Option ((Int×(List Int))⊕(Int×Int×(List Bool)×(List D7_)×(List Zw))):=fun (i,i1)=>
 cond (decide (i<(a1.length:Int))) (
  rq (0≤i∧i<a1.length) <|
  (Zgs (a1.getD i.toNat 0) i1).bind fun r2_=>
  rq (i64 (i+(1:Int))) <|
  some (.inl ((i+(1:Int)),r2_))) (
  up (Zcn a0_2 a1 o0 o1 rec_ i1))
def Zbx (rec_:Int→(List Int)→(List D7_)→(List Zw)→Option (Int×Int×(List Bool)×(List D7_)×(List Zw))) (a0_2:Int) (a1:List Int) (o0:List D7_) (o1:List Zw):Option (Int×Int×(List Bool)×(List D7_)×(List Zw)):=
 cond (a0_2==(0:Int)) (
  some ((0:Int),a0_2,([]:List Bool),o0,o1)) (
  cond (decide ((1000:Int)≤(o1.length:Int))) (
   some ((0:Int),a0_2,([]:List Bool),o0,o1)) (
   rq (i64 (a0_2 - (1:Int))) <|
   rq (0≤(12:Int)∧(12:Int)≤Zl∧(12:Int)=(12:Int)) <|
   loop (Zdw a0_2 a1 o0 o1 rec_) ((0:Int),(List.replicate (12:Int).toNat 0))))
def Z7:Nat→Int→(List Int)→(List D7_)→(List Zw)→Option (Int×Int×(List Bool)×(List D7_)×(List Zw))
  |0=>fun _ _ _ _=>none
  |n_+1=>Zbx (Z7 n_)
def ZpH (a0_2:Int) (o0:List D7_):(List Bool)→Option (Int×Int×(List Bool)×(List D7_)×(List Zw)):=fun i5=>
 some ((1:Int),(a0_2 - (1:Int)),i5,o0,([]:List Zw))
def ZpK (a0_2:Int) (o0:List D7_) (r3_:Int×(List Int)):Int×(List Bool)→Option ((Int×(List Bool))⊕(Int×Int×(List Bool)×(List D7_)×(List Zw))):=fun (i3,i4)=>
 cond (decide (i3<(r3_.2.length:Int))) (
  rq (0≤i3∧i3<r3_.2.length) <|
  rq (i4.length+[(decide ((0:Int)<(r3_.2.getD i3.toNat 0)))].length≤Zl) <|
  rq (i64 (i3+(1:Int))) <|
  some (.inl ((i3+(1:Int)),(i4++[(decide ((0:Int)<(r3_.2.getD i3.toNat 0)))])))) (
  up (ZpH a0_2 o0 i4))
def ZpI (a1:List Int):Int×(List D7_)×(List Zw)→Option (Int×Int×(List Bool)×(List D7_)×(List Zw)):=fun (i_23,i_03,i_13)=>
 cond (decide ((1000:Int)≤(i_13.length:Int))) (
  some ((0:Int),i_23,([]:List Bool),i_03,i_13)) (
  (Zdv i_23 a1 i_03 i_13).bind fun r9_=>
  some ((2:Int),r9_.1,([]:List Bool),r9_.2.1,r9_.2.2))
def ZpJ (i6:Int):Int×Int×(List Bool)×(List D7_)×(List Zw)→Option ((Int×Int×(List D7_)×(List Zw))⊕(Int×Int×(List Bool)×(List D7_)×(List Zw))):=fun (i9,i_22,i10,i_02,i_12)=>
 cond (i9 != (2:Int)) (
  some (.inr (i9,i_22,i10,i_02,i_12))) (
  rq (i64 (i6+(1:Int))) <|
  some (.inl ((i6+(1:Int)),i_22,i_02,i_12)))
def Zlt (a1:List Int) (r5_:Int):Int×Int×(List D7_)×(List Zw)→Option ((Int×Int×(List D7_)×(List Zw))⊕(Int×Int×(List Bool)×(List D7_)×(List Zw))):=fun (i6,i_21,i_01,i_11)=>
 cond (decide (i6<([r5_,(0 - r5_)].length:Int))) (
  rq (0≤i6∧i6 < [r5_,(0 - r5_)].length) <|
  rq (([]:List Int).length+a1.length≤Zl) <|
  rq ((([]:List Int)++a1).length+[([r5_,(0 - r5_)].getD i6.toNat 0)].length≤Zl) <|
  (Z7 64 i_21 ((([]:List Int)++a1)++[([r5_,(0 - r5_)].getD i6.toNat 0)]) i_01 i_11).bind fun r8_=>
  ZpJ i6 (r8_.1,r8_.2.1,r8_.2.2.1,r8_.2.2.2.1,r8_.2.2.2.2)) (
  up (ZpI a1 (i_21,i_01,i_11)))
def ZhZ (a0_2:Int) (a1:List Int) (o0:List D7_):(List Int)→Option (Int×Int×(List Bool)×(List D7_)×(List Zw)):=fun i2=>
 (ZeC o0 i2).bind fun r3_=>
 cond (decide ((0:Int)≤r3_.1)) (
  (Zdv (a0_2 - (1:Int)) a1 o0 ([]:List Zw)).bind fun r4_=>
  some ((2:Int),r4_.1,([]:List Bool),r4_.2.1,r4_.2.2)) (
  (Zi1 r3_.2).bind fun r5_=>
  cond (r5_==(0:Int)) (
   loop (ZpK a0_2 o0 r3_) ((0:Int),([]:List Bool))) (
   rq (i64 (0 - r5_)) <|
   loop (Zlt a1 r5_) ((0:Int),(a0_2 - (1:Int)),o0,([]:List Zw))))
def Zh0 (a0_2:Int) (a1:List Int) (o0:List D7_):Int×(List Int)→Option ((Int×(List Int))⊕(Int×Int×(List Bool)×(List D7_)×(List Zw))):=fun (i,i1)=>
 cond (decide (i<(a1.length:Int))) (
  rq (0≤i∧i<a1.length) <|
  (Zgs (a1.getD i.toNat 0) i1).bind fun r2_=>
  rq (i64 (i+(1:Int))) <|
  some (.inl ((i+(1:Int)),r2_))) (
  up (ZhZ a0_2 a1 o0 i1))
def ZkJ (a0_2:Int) (a1:List Int) (o0:List D7_):Option (Int×Int×(List Bool)×(List D7_)×(List Zw)):=
 cond (a0_2==(0:Int)) (
  some ((0:Int),a0_2,([]:List Bool),o0,([]:List Zw))) (
  cond (decide ((1000:Int)≤(0:Int))) (
   some ((0:Int),a0_2,([]:List Bool),o0,([]:List Zw))) (
   rq (i64 (a0_2 - (1:Int))) <|
   rq (0≤(12:Int)∧(12:Int)≤Zl∧(12:Int)=(12:Int)) <|
   loop (Zh0 a0_2 a1 o0) ((0:Int),(List.replicate (12:Int).toNat 0))))
def Zql (c_:(List D6_)×Int):Option (Int×(List D6_)):=
 rq (([]:List D6_).length+c_.1.length≤Zl) <|
 some (c_.2,(([]:List D6_)++c_.1))
def ZkG (r2_:Int×Int×(List Bool)×(List D7_)×(List Zw)):(List Zw)→Option (Int×(List Bool)×(List Zw)):=fun i2=>
 some (r2_.1,([]:List Bool),i2)
def Zed (r2_:Int×Int×(List Bool)×(List D7_)×(List Zw)):Int×(List Zw)→Option ((Int×(List Zw))⊕(Int×(List Bool)×(List Zw))):=fun (i,i1)=>
 cond (decide (i<(r2_.2.2.2.2.length:Int))) (
  rq (0≤i∧i<r2_.2.2.2.2.length) <|
  (Zql (r2_.2.2.2.2.getD i.toNat (0,(0,(0,([],0))))).2.2.2).bind fun r4_=>
  rq (i1.length+[((r2_.2.2.2.2.getD i.toNat (0,(0,(0,([],0))))).1,((r2_.2.2.2.2.getD i.toNat (0,(0,(0,([],0))))).2.1,((r2_.2.2.2.2.getD i.toNat (0,(0,(0,([],0))))).2.2.1,(r4_.2,r4_.1))))].length≤Zl) <|
  rq (i64 (i+(1:Int))) <|
  some (.inl ((i+(1:Int)),(i1++[((r2_.2.2.2.2.getD i.toNat (0,(0,(0,([],0))))).1,((r2_.2.2.2.2.getD i.toNat (0,(0,(0,([],0))))).2.1,((r2_.2.2.2.2.getD i.toNat (0,(0,(0,([],0))))).2.2.1,(r4_.2,r4_.1))))])))) (
  up (ZkG r2_ i1))
def Zjo (a0:List D7_) (a1:Int):Option (Int×(List Bool)×(List Zw)):=
 (Zjn a0).bind fun r1_=>
 cond (!r1_) (
  some ((3:Int),([]:List Bool),([]:List Zw))) (
  cond (decide (a1<(0:Int))) (
   some ((3:Int),([]:List Bool),([]:List Zw))) (
   cond (decide ((2000:Int)<a1)) (
    some ((3:Int),([]:List Bool),([]:List Zw))) (
    rq (([]:List D7_).length+a0.length≤Zl) <|
    (ZkJ a1 ([]:List Int) (([]:List D7_)++a0)).bind fun r2_=>
    cond (r2_.1 != (2:Int)) (
     some (r2_.1,r2_.2.2.1,([]:List Zw))) (
     loop (Zed r2_) ((0:Int),([]:List Zw))))))
def Zg1 (m:(List Int)×(List D5_)) (values:List Bool) (i:Int) (out:List Int):Int×Int×Int→Option ((Int×Int×Int)⊕((Int×(List Int))⊕(Bool×(List Int)))):=fun (v1,n1,k_1)=>
 rq (0≤i∧i<m.1.length) <|
 cond (decide (k_1≤(m.1.getD i.toNat 0))) (
  (Zg5 m i k_1).bind fun r3_=>
  rq (i64 (r3_ - (1:Int))) <|
  rq (0≤(r3_ - (1:Int))∧(r3_ - (1:Int))<values.length) <|
  cond (values.getD (r3_ - (1:Int)).toNat false) (
   rq (i64 (n1+(1:Int))) <|
   rq (i64 (k_1+(1:Int))) <|
   some (.inl (k_1,(n1+(1:Int)),(k_1+(1:Int))))) (
   rq (i64 (k_1+(1:Int))) <|
   some (.inl (v1,n1,(k_1+(1:Int)))))) (
  cond (n1 != (1:Int)) (
   some (.inr (.inr (false,([]:List Int))))) (
   rq (out.length+[v1].length≤Zl) <|
   rq (i64 (i+(1:Int))) <|
   some (.inr (.inl ((i+(1:Int)),(out++[v1]))))))
def Zg0 (m:(List Int)×(List D5_)) (values:List Bool):Int×(List Int)→Option ((Int×(List Int))⊕(Bool×(List Int))):=fun (i,out)=>
 cond (decide (i<(m.1.length:Int))) (
  loop (Zg1 m values i out) ((-1:Int),(0:Int),(0:Int))) (
  some (.inr (true,out)))
def Zjm (m:(List Int)×(List D5_)) (values:List Bool):Option (Bool×(List Int)):=
 (Zgh m).bind fun r1_=>
 cond (!r1_) (
  some (false,([]:List Int))) (
  cond ((values.length:Int) != (12:Int)) (
   some (false,([]:List Int))) (
   loop (Zg0 m values) ((0:Int),([]:List Int))))
def Zec (a0:(List Int)×(List D5_)) (i1:List Int) (r11_:Int×(List Bool)×(List Zw)):Unit→Option ((List Int)⊕(Int×(List Int)×(List Zw))):=fun _=>
 cond (r11_.1==(2:Int)) (
  some (.inr ((1:Int),i1,r11_.2.2))) (
  (Zjm a0 r11_.2.1).bind fun r12_=>
  some (.inl r12_.2))
def ZcQ (a0:(List Int)×(List D5_)) (a2:Int) (i1:List Int):(List D7_)→Option ((List Int)⊕(Int×(List Int)×(List Zw))):=fun i2=>
 (Zjo i2 a2).bind fun r11_=>
 cond (r11_.1==(0:Int)) (
  some (.inr (r11_.1,i1,([]:List Zw)))) (
  cond (r11_.1==(2:Int)) (
   cond ((i1.length:Int)==(0:Int)) (
    some (.inr (r11_.1,i1,r11_.2.2))) (
    Zec a0 i1 r11_ ())) (
   Zec a0 i1 r11_ ()))
def ZkF (a0:(List Int)×(List D5_)) (a2:Int) (r1_:Bool×(List D7_)) (i1:List Int):Int×(List D6_)→Option ((List Int)⊕(Int×(List Int)×(List Zw))):=fun (i_11,i_01)=>
 rq ((([]:List D7_)++r1_.2).length+[(i_01,i_11)].length≤Zl) <|
 ZcQ a0 a2 i1 ((([]:List D7_)++r1_.2)++[(i_01,i_11)])
def Zcm (a0:(List Int)×(List D5_)) (a1:List Int) (a2:Int) (r1_:Bool×(List D7_)):(List Int)→Option ((List Int)⊕(Int×(List Int)×(List Zw))):=fun i1=>
 rq (([]:List D7_).length+r1_.2.length≤Zl) <|
 cond (decide ((0:Int)<(i1.length:Int))) (
  (Zpt a1 i1).bind fun r9_=>
  rq (i64 (r9_ - (1:Int))) <|
  (Zgf a0 a1 (r9_ - (1:Int))).bind fun r10_=>
  ZkF a0 a2 r1_ i1 (r10_.2.1,r10_.2.2)) (
  ZcQ a0 a2 i1 (([]:List D7_)++r1_.2))
def ZgE (a0:(List Int)×(List D5_)) (a1:List Int) (a2:Int):Option (Int×(List Int)×(List Zw)):=
 (ZkE a0).bind fun r1_=>
 cond (!r1_.1) (
  some ((3:Int),([]:List Int),([]:List Zw))) (
  (Zmz a0 a1).bind fun r2_=>
  cond (!r2_) (
   some ((3:Int),([]:List Int),([]:List Zw))) (
   cond (decide (a2<(0:Int))) (
    some ((3:Int),([]:List Int),([]:List Zw))) (
    cond (decide ((2000:Int)<a2)) (
     some ((3:Int),([]:List Int),([]:List Zw))) (
     cond (decide ((400:Int)≤(r1_.2.length:Int))) (
      some ((3:Int),([]:List Int),([]:List Zw))) (
      loop (Zcm a0 a1 a2 r1_) ([]:List Int))))))
def ZdU (s1_:List D6_) (s2_:List D6_):Int→Option (Int⊕Bool):=fun i=>
 cond (decide (i<(s1_.length:Int))) (
  rq (0≤i∧i<s1_.length) <|
  rq (0≤i∧i<s2_.length) <|
  cond (!((s1_.getD i.toNat (0,0)).1==(s2_.getD i.toNat (0,0)).1&&(s1_.getD i.toNat (0,0)).2==(s2_.getD i.toNat (0,0)).2)) (
   some (.inr false)) (
   rq (i64 (i+(1:Int))) <|
   some (.inl (i+(1:Int))))) (
  some (.inr true))
def ZdK (s1_:List D6_) (s2_:List D6_):Option Bool:=
 cond ((s1_.length:Int) != (s2_.length:Int)) (
  some false) (
  loop (ZdU s1_ s2_) (0:Int))
def Zba (a:(List D6_)×Int) (b:(List D6_)×Int):Option Bool:=
 cond (a.2==b.2) (
  (ZdK a.1 b.1).bind fun r1_=>
  some r1_) (
  some false)
def Zkr (s_:Int×Int×Int×(List D6_)×Int) (t_:Int×Int×Int×(List D6_)×Int):Option Bool:=
 cond (s_.1==t_.1) (
  cond (s_.2.1==t_.2.1) (
   cond (s_.2.2.1==t_.2.2.1) (
    (Zba s_.2.2.2 t_.2.2.2).bind fun r1_=>
    some r1_) (
    some false)) (
   some false)) (
  some false)
def Zbc (s1_:List Zw) (s2_:List Zw):Int→Option (Int⊕Bool):=fun i=>
 cond (decide (i<(s1_.length:Int))) (
  rq (0≤i∧i<s1_.length) <|
  rq (0≤i∧i<s2_.length) <|
  (Zkr (s1_.getD i.toNat (0,(0,(0,([],0))))) (s2_.getD i.toNat (0,(0,(0,([],0)))))).bind fun r1_=>
  cond (!r1_) (
   some (.inr false)) (
   rq (i64 (i+(1:Int))) <|
   some (.inl (i+(1:Int))))) (
  some (.inr true))
def ZcT (s1_:List Zw) (s2_:List Zw):Option Bool:=
 cond ((s1_.length:Int) != (s2_.length:Int)) (
  some false) (
  loop (Zbc s1_ s2_) (0:Int))
def Zfz (a:List Zw) (b:List Zw):Option Bool:=
 (ZcT a b).bind fun r1_=>
 some r1_
def Zpc (r_:Int×(List Int)×(List Int)×Int×(List (List Int))):(List Int)→Option Bool:=fun vals1=>
 (ZiH r_ vals1).bind fun r1_=>
 some r1_
def ZlH (r_:Int×(List Int)×(List Int)×Int×(List (List Int))) (cells:List Int):Int×(List Int)→Option ((Int×(List Int))⊕Bool):=fun (i,vals)=>
 cond (decide (i<(r_.2.1.length:Int))) (
  rq (0≤i∧i<r_.2.1.length) <|
  rq (0≤(r_.2.1.getD i.toNat 0)∧(r_.2.1.getD i.toNat 0)<cells.length) <|
  rq (vals.length+[(cells.getD (r_.2.1.getD i.toNat 0).toNat 0)].length≤Zl) <|
  rq (i64 (i+(1:Int))) <|
  some (.inl ((i+(1:Int)),(vals++[(cells.getD (r_.2.1.getD i.toNat 0).toNat 0)])))) (
  up (Zpc r_ vals))
def Zpb (r_:Int×(List Int)×(List Int)×Int×(List (List Int))) (cells:List Int):Option Bool:=
 loop (ZlH r_ cells) ((0:Int),([]:List Int))
def Zlr (r_:Int×(List Int)×(List Int)×Int×(List (List Int))) (o0:List Int):Option Bool:=
 (Zpb r_ o0).bind fun r1_=>
 some (!r1_)
def Z4 (s_:List D5_) (o0:List Int):Int→Option (Int⊕Int):=fun i=>
 cond (decide (i<(s_.length:Int))) (
  rq (0≤i∧i<s_.length) <|
  (Zlr (s_.getD i.toNat (0,([],([],(0,[]))))) o0).bind fun r1_=>
  cond r1_ (
   some (.inr i)) (
   rq (i64 (i+(1:Int))) <|
   some (.inl (i+(1:Int))))) (
  some (.inr (-1:Int)))
def Zcx (s_:List D5_) (o0:List Int):Option Int:=
 loop (Z4 s_ o0) (0:Int)
def Zcl (s_:List D5_) (o0:List Int):Option Bool:=
 (Zcx s_ o0).bind fun r1_=>
 some (decide ((0:Int)≤r1_))
def Zji (m:(List Int)×(List D5_)) (cells:List Int):Option Bool:=
 (Zcl m.2 cells).bind fun r1_=>
 some (!r1_)
def ZfJ (o0:(List Int)×(List D5_)) (o1:Int) (cells:List Int):Option (Bool×Int):=
 (Zji o0 cells).bind fun r1_=>
 cond r1_ (
  rq (i64 (o1+(1:Int))) <|
  some (true,(o1+(1:Int)))) (
  some (true,o1))
def ZdH (r3_:Bool×Int):Int×(List Int)→Option ((Int×(List Int))⊕Int):=fun (i3,cells4)=>
 cond (decide (i3<(0:Int))) (
  some (.inr r3_.2)) (
  rq (0≤i3∧i3<cells4.length) <|
  rq (i64 ((cells4.getD i3.toNat 0)+(1:Int))) <|
  rq (0≤i3∧i3<cells4.length) <|
  some (.inl (r3_.2,(cells4.set i3.toNat ((cells4.getD i3.toNat 0)+(1:Int))))))
def ZeN (sizes:List Int) (r3_:Bool×Int):Int×(List Int)→Option ((Int×(List Int))⊕((Int×(List Int))⊕Int)):=fun (i2,cells3)=>
 cond (decide ((0:Int)≤i2)) (
  rq (0≤i2∧i2<cells3.length) <|
  rq (0≤i2∧i2<sizes.length) <|
  cond ((cells3.getD i2.toNat 0)==(sizes.getD i2.toNat 0)) (
   rq (0≤i2∧i2<cells3.length) <|
   rq (i64 (i2 - (1:Int))) <|
   some (.inl ((i2 - (1:Int)),(cells3.set i2.toNat (0:Int))))) (
   up (ZdH r3_ (i2,cells3)))) (
  up (ZdH r3_ (i2,cells3)))
def ZdI (sizes:List Int) (o0:(List Int)×(List D5_)):Int×(List Int)→Option ((Int×(List Int))⊕Int):=fun (cap,cells2)=>
 (ZfJ o0 cap cells2).bind fun r3_=>
 cond r3_.1 (
  rq (i64 ((cells2.length:Int) - (1:Int))) <|
  loop (ZeN sizes r3_) (((cells2.length:Int) - (1:Int)),cells2)) (
  some (.inr r3_.2))
def Zd8 (sizes:List Int) (from_:List Int) (o0:(List Int)×(List D5_)) (o1:Int):Option Int:=
 (ZbT from_).bind fun r1_=>
 loop (ZdI sizes o0) (o1,r1_)
def Zq0:Int→Option Int:=fun count=>
 some count
def ZiF (m:(List Int)×(List D5_)):Option Int:=
 (ZeZ m).bind fun r1_=>
 cond (!r1_) (
  some (0:Int)) (
  rq (0≤(m.1.length:Int)∧(m.1.length:Int)≤Zl∧(m.1.length:Int)=(m.1.length:Int)) <|
  (Zd8 m.1 (List.replicate (m.1.length:Int).toNat 0) m (0:Int)).bind fun r3_=>
  Zq0 r3_)
def Zny (kind:Int):Option (Int×Bool):=
 cond (kind==(1:Int)) (
  some ((2:Int),false)) (
  cond (kind==(2:Int)) (
   some ((1:Int),true)) (
   cond (kind==(3:Int)) (
    some ((1:Int),true)) (
    cond (kind==(5:Int)) (
     some ((1:Int),true)) (
     cond (kind==(4:Int)) (
      some ((1:Int),false)) (
      cond (kind==(8:Int)) (
       some ((1:Int),false)) (
       cond (kind==(6:Int)) (
        some ((0:Int),false)) (
        cond (kind==(7:Int)) (
         some ((0:Int),false)) (
         some ((-1:Int),false)))))))))
def Zkt (s_:Int×Int×Int×(List D6_)×Int):Option Bool:=
 (Zny s_.1).bind fun r1_=>
 cond (decide ((0:Int)≤r1_.1)) (
  cond (decide ((0:Int)<r1_.1)) (
   cond (r1_.1==(2:Int)) (
    cond (s_.1==(7:Int)) (
     some true) (
     (Zba s_.2.2.2 (([]:List D6_),(0:Int))).bind fun r10_=>
     some r10_)) (
    cond r1_.2 (
     cond (s_.1==(7:Int)) (
      some true) (
      (Zba s_.2.2.2 (([]:List D6_),(0:Int))).bind fun r9_=>
      some r9_)) (
     cond (s_.2.2.1==(0:Int)) (
      cond (s_.1==(7:Int)) (
       some true) (
       (Zba s_.2.2.2 (([]:List D6_),(0:Int))).bind fun r8_=>
       some r8_)) (
      some false)))) (
   cond (s_.1==(6:Int)) (
    cond (r1_.1==(2:Int)) (
     cond (s_.1==(7:Int)) (
      some true) (
      (Zba s_.2.2.2 (([]:List D6_),(0:Int))).bind fun r7_=>
      some r7_)) (
     cond r1_.2 (
      cond (s_.1==(7:Int)) (
       some true) (
       (Zba s_.2.2.2 (([]:List D6_),(0:Int))).bind fun r6_=>
       some r6_)) (
      cond (s_.2.2.1==(0:Int)) (
       cond (s_.1==(7:Int)) (
        some true) (
        (Zba s_.2.2.2 (([]:List D6_),(0:Int))).bind fun r5_=>
        some r5_)) (
       some false)))) (
    cond (s_.2.1==(0:Int)) (
     cond (r1_.1==(2:Int)) (
      cond (s_.1==(7:Int)) (
       some true) (
       (Zba s_.2.2.2 (([]:List D6_),(0:Int))).bind fun r4_=>
       some r4_)) (
      cond r1_.2 (
       cond (s_.1==(7:Int)) (
        some true) (
        (Zba s_.2.2.2 (([]:List D6_),(0:Int))).bind fun r3_=>
        some r3_)) (
       cond (s_.2.2.1==(0:Int)) (
        cond (s_.1==(7:Int)) (
         some true) (
         (Zba s_.2.2.2 (([]:List D6_),(0:Int))).bind fun r2_=>
         some r2_)) (
        some false)))) (
     some false)))) (
  some false)
def ZdV (i:Int) (o1:List D7_) (o2:List Bool):Option Bool:=
 rq (i64 ((o1.length:Int) - (1:Int))) <|
 (ZbN i (0:Int) ((o1.length:Int) - (1:Int))).bind fun r1_=>
 cond r1_ (
  rq (0≤i∧i<o2.length) <|
  some (!(o2.getD i.toNat false))) (
  some false)
def Zge (n:Int):Option (List D6_):=
 cond (decide (n<(0:Int))) (
  none) (
  rq (i64 ((0:Int) - (0:Int))) <|
  rq (i64 (n - ((0:Int) - (0:Int)))) <|
  cond (decide ((0:Int)<(n - ((0:Int) - (0:Int))))) (
   rq ((0:Int)=0) <|
   rq (1≤(n - ((0:Int) - (0:Int)))∧(n - ((0:Int) - (0:Int)))≤Zl) <|
   rq (0≤(0:Int)∧(0:Int)≤(List.replicate (n - ((0:Int) - (0:Int))).toNat (0,0)).length) <|
   some ((List.replicate (n - ((0:Int) - (0:Int))).toNat (0,0)).take (0:Int).toNat)) (
   some ([]:List D6_)))
def ZbL (slices:List (List D6_)):Int×(List D6_)→Option ((Int×(List D6_))⊕((Int×Int)⊕(List D6_))):=fun (i1,newslice)=>
 cond (decide (i1<(slices.length:Int))) (
  rq (0≤i1∧i1<slices.length) <|
  rq (newslice.length+(slices.getD i1.toNat []).length≤Zl) <|
  rq (i64 (i1+(1:Int))) <|
  some (.inl ((i1+(1:Int)),(newslice++(slices.getD i1.toNat []))))) (
  some (.inr (.inr newslice)))
def ZbK (slices:List (List D6_)):Int×Int→Option ((Int×Int)⊕(List D6_)):=fun (size,i)=>
 cond (decide (i<(slices.length:Int))) (
  rq (0≤i∧i<slices.length) <|
  rq (i64 (size+((slices.getD i.toNat []).length:Int))) <|
  cond (decide ((size+((slices.getD i.toNat []).length:Int))<(0:Int))) (
   none) (
   rq (i64 (i+(1:Int))) <|
   some (.inl ((size+((slices.getD i.toNat []).length:Int)),(i+(1:Int)))))) (
  (Zge size).bind fun r1_=>
  loop (ZbL slices) ((0:Int),r1_))
def Zfi (slices:List (List D6_)):Option (List D6_):=
 loop (ZbK slices) ((0:Int),(0:Int))
def Zi0 (a:(List D6_)×Int) (b:(List D6_)×Int):Unit→Option (Bool×Int×(List D6_)):=fun _=>
 (Z3 a).bind fun r1_=>
 cond (!r1_) (
  some (false,(0:Int),([]:List D6_))) (
  (Z3 b).bind fun r2_=>
  cond (!r2_) (
   some (false,(0:Int),([]:List D6_))) (
   rq (i64 (a.2+b.2)) <|
   (Zfi [a.1,b.1]).bind fun r5_=>
   (Zg8 r5_ (a.2+b.2)).bind fun r6_=>
   some (r6_.1,r6_.2.1,r6_.2.2)))
def ZhM (a:(List D6_)×Int) (b:(List D6_)×Int):Option (Bool×Int×(List D6_)):=
 Zi0 a b ()
def Zcj (n:Int) (o0:Int):Option Int:=
 rq (i64 (n*o0)) <|
 some (n*o0)
def Zc8 (c_:(List D6_)×Int):Option (Bool×(List D6_)×Int):=
 (Z3 c_).bind fun r1_=>
 cond (!r1_) (
  some (false,([]:List D6_),(0:Int))) (
  some (true,c_.1,c_.2))
def Zb1 (r2_:Int):(List D6_)→Option (Bool×D7_):=fun out_01=>
 (Zc8 (out_01,r2_)).bind fun r6_=>
 some (r6_.1,r6_.2)
def Zbk (o0:Int) (r1_:Int×(List D6_)) (r2_:Int):Int×(List D6_)→Option ((Int×(List D6_))⊕(Bool×D7_)):=fun (i,out_0)=>
 cond (decide (i<(r1_.2.length:Int))) (
  rq (0≤i∧i<out_0.length) <|
  (Zcj (out_0.getD i.toNat (0,0)).1 o0).bind fun r5_=>
  rq (0≤i∧i<out_0.length) <|
  rq (i64 (i+(1:Int))) <|
  some (.inl ((i+(1:Int)),(out_0.set i.toNat (r5_,(out_0.getD i.toNat (0,0)).2))))) (
  up (Zb1 r2_ out_0))
def Zbz (c_:(List D6_)×Int) (o0:Int):Option (Bool×D7_):=
 (Zeq c_).bind fun r1_=>
 (Zcj c_.2 o0).bind fun r2_=>
 loop (Zbk o0 r1_ r2_) ((0:Int),r1_.2)
def Zff (c_:(List D6_)×Int) (k_:Int):Option (Bool×(List D6_)×Int):=
 (Z3 c_).bind fun r1_=>
 cond (!r1_) (
  some (false,([]:List D6_),(0:Int))) (
  (ZbN k_ (1:Int) (1000:Int)).bind fun r2_=>
  cond (!r2_) (
   some (false,([]:List D6_),(0:Int))) (
   (Zbz c_ k_).bind fun r3_=>
   some (r3_.1,r3_.2.1,r3_.2.2)))
def Zef (n:Int) (o0:Int):Option Int:=
 rq (i64 (n+o0)) <|
 rq (i64 ((n+o0) - (1:Int))) <|
 rq (1≤o0∧0≤((n+o0) - (1:Int))) <|
 some (((n+o0) - (1:Int)) / o0)
def Zcf (r2_:Int):(List D6_)→Option (Bool×D7_):=fun out_01=>
 (Zc8 (out_01,r2_)).bind fun r6_=>
 some (r6_.1,r6_.2)
def Zbs (o0:Int) (r1_:Int×(List D6_)) (r2_:Int):Int×(List D6_)→Option ((Int×(List D6_))⊕(Bool×D7_)):=fun (i,out_0)=>
 cond (decide (i<(r1_.2.length:Int))) (
  rq (0≤i∧i<out_0.length) <|
  (Zef (out_0.getD i.toNat (0,0)).1 o0).bind fun r5_=>
  rq (0≤i∧i<out_0.length) <|
  rq (i64 (i+(1:Int))) <|
  some (.inl ((i+(1:Int)),(out_0.set i.toNat (r5_,(out_0.getD i.toNat (0,0)).2))))) (
  up (Zcf r2_ out_0))
def ZbE (c_:(List D6_)×Int) (o0:Int):Option (Bool×D7_):=
 (Zeq c_).bind fun r1_=>
 (Zef c_.2 o0).bind fun r2_=>
 loop (Zbs o0 r1_ r2_) ((0:Int),r1_.2)
def Zf9 (c_:(List D6_)×Int) (k_:Int):Option (Bool×(List D6_)×Int):=
 (Z3 c_).bind fun r1_=>
 cond (!r1_) (
  some (false,([]:List D6_),(0:Int))) (
  (ZbN k_ (1:Int) (1000:Int)).bind fun r2_=>
  cond (!r2_) (
   some (false,([]:List D6_),(0:Int))) (
   (ZbE c_ k_).bind fun r3_=>
   some (r3_.1,r3_.2.1,r3_.2.2)))
def ZdD (c_:(List D6_)×Int):Int×(List D6_)→Option ((Int×(List D6_))⊕(Bool×Int×(List D6_))):=fun (i,out_0)=>
 cond (decide (i<(c_.1.length:Int))) (
  rq (0≤i∧i<c_.1.length) <|
  rq (out_0.length+[((min (c_.1.getD i.toNat (0,0)).1 c_.2),(c_.1.getD i.toNat (0,0)).2)].length≤Zl) <|
  rq (i64 (i+(1:Int))) <|
  some (.inl ((i+(1:Int)),(out_0++[((min (c_.1.getD i.toNat (0,0)).1 c_.2),(c_.1.getD i.toNat (0,0)).2)])))) (
  some (.inr (true,c_.2,out_0)))
def Zfg (c_:(List D6_)×Int):Option (Bool×Int×(List D6_)):=
 (Z3 c_).bind fun r1_=>
 cond (!r1_) (
  some (false,(0:Int),([]:List D6_))) (
  cond (decide ((0:Int)<c_.2)) (
   loop (ZdD c_) ((0:Int),([]:List D6_))) (
   some (true,c_.2,([]:List D6_))))
def Ze2 (c_:(List D6_)×Int) (variable_:Int):Int×Int×(List D6_)→Option ((Int×Int×(List D6_))⊕(Bool×Int×(List D6_))):=fun (i,out_1,out_0)=>
 cond (decide (i<(c_.1.length:Int))) (
  rq (0≤i∧i<c_.1.length) <|
  (Zdg (c_.1.getD i.toNat (0,0)).2).bind fun r4_=>
  cond (r4_==variable_) (
   rq (i64 (c_.2 - (c_.1.getD i.toNat (0,0)).1)) <|
   rq (i64 (i+(1:Int))) <|
   some (.inl ((i+(1:Int)),(max (0:Int) (c_.2 - (c_.1.getD i.toNat (0,0)).1)),out_0))) (
   rq (out_0.length+[(c_.1.getD i.toNat (0,0))].length≤Zl) <|
   rq (i64 (i+(1:Int))) <|
   some (.inl ((i+(1:Int)),out_1,(out_0++[(c_.1.getD i.toNat (0,0))]))))) (
  some (.inr (true,out_1,out_0)))
def Zga (c_:(List D6_)×Int) (variable_:Int):Option (Bool×Int×(List D6_)):=
 (Z3 c_).bind fun r1_=>
 cond (!r1_) (
  some (false,(0:Int),([]:List D6_))) (
  (ZbN variable_ (1:Int) (12:Int)).bind fun r2_=>
  cond (!r2_) (
   some (false,(0:Int),([]:List D6_))) (
   loop (Ze2 c_ variable_) ((0:Int),c_.2,([]:List D6_))))
def Zjh (lit:Int):Option (Bool×Int×(List D6_)):=
 (Zhd lit).bind fun r1_=>
 cond (!r1_) (
  some (false,(0:Int),([]:List D6_))) (
  some (true,(0:Int),[((1:Int),lit)]))
def ZeL (o1:List D7_) (o2:List Bool):Int×(List D7_)→Option ((Int×(List D7_))⊕(List D7_)):=fun (i,out)=>
 cond (decide (i<(o1.length:Int))) (
  rq (0≤i∧i<o1.length) <|
  rq (0≤i∧i<o2.length) <|
  cond (!(o2.getD i.toNat false)) (
   rq (out.length+[(o1.getD i.toNat ([],0))].length≤Zl) <|
   rq (i64 (i+(1:Int))) <|
   some (.inl ((i+(1:Int)),(out++[(o1.getD i.toNat ([],0))])))) (
   rq (i64 (i+(1:Int))) <|
   some (.inl ((i+(1:Int)),out)))) (
  some (.inr out))
def ZfK (o1:List D7_) (o2:List Bool):Option (List D7_):=
 loop (ZeL o1 o2) ((0:Int),([]:List D7_))
def ZeY (c_:(List D6_)×Int):Int×Int→Option ((Int×Int)⊕Int):=fun (sum,i)=>
 cond (decide (i<(c_.1.length:Int))) (
  rq (0≤i∧i<c_.1.length) <|
  rq (i64 (sum+(c_.1.getD i.toNat (0,0)).1)) <|
  rq (i64 (i+(1:Int))) <|
  some (.inl ((sum+(c_.1.getD i.toNat (0,0)).1),(i+(1:Int))))) (
  some (.inr sum))
def ZeH (c_:(List D6_)×Int):Option Int:=
 loop (ZeY c_) ((0:Int),(0:Int))
def ZfZ (c_:(List D6_)×Int) (i:Int) (out_0:List D6_):Unit→Option ((Int×(List D6_))⊕(Int×(List D6_))):=fun _=>
 rq (i64 (0 - (c_.1.getD i.toNat (0,0)).2)) <|
 rq (out_0.length+[((c_.1.getD i.toNat (0,0)).1,(0 - (c_.1.getD i.toNat (0,0)).2))].length≤Zl) <|
 rq (i64 (i+(1:Int))) <|
 some (.inl ((i+(1:Int)),(out_0++[((c_.1.getD i.toNat (0,0)).1,(0 - (c_.1.getD i.toNat (0,0)).2))])))
def Zdn (c_:(List D6_)×Int) (out_1:Int):Int×(List D6_)→Option ((Int×(List D6_))⊕(Int×(List D6_))):=fun (i,out_0)=>
 cond (decide (i<(c_.1.length:Int))) (
  rq (0≤i∧i<c_.1.length) <|
  ZfZ c_ i out_0 ()) (
  some (.inr (out_1,out_0)))
def ZfY (c_:(List D6_)×Int):Int→Option (Int×(List D6_)):=fun out_1=>
 loop (Zdn c_ out_1) ((0:Int),([]:List D6_))
def ZfX (c_:(List D6_)×Int):Unit→Option (Int×(List D6_)):=fun _=>
 (ZeH c_).bind fun r2_=>
 rq (i64 (r2_ - c_.2)) <|
 rq (i64 ((r2_ - c_.2)+(1:Int))) <|
 ZfY c_ (max (0:Int) ((r2_ - c_.2)+(1:Int)))
def ZeW (c_:(List D6_)×Int):Option (Int×(List D6_)):=
 ZfX c_ ()
def Zuc:Int→Option Bool:=fun i=>
 some (decide ((0:Int)≤i))
def Zvy (list_:List D7_) (c_:(List D6_)×Int):Option Bool:=
 (Zbw list_).bind fun r4_=>
 (ZeW c_).bind fun r5_=>
 rq (r4_.length+[(r5_.2,r5_.1)].length≤Zl) <|
 rq (0≤(12:Int)∧(12:Int)≤Zl∧(12:Int)=(12:Int)) <|
 (ZbH (r4_++[(r5_.2,r5_.1)]) (List.replicate (12:Int).toNat 0)).bind fun r6_=>
 Zuc r6_.1
def ZgU (o1:List D7_) (o2:List Bool) (i:(List D6_)×Int) (i1:Bool):Unit→Option (Bool×(List D7_)×(List Bool)):=fun _=>
 some (i1,(o1++[i]),(o2++[false]))
def ZS (o1:List D7_) (o2:List Bool):D7_×Bool→Option (Bool×(List D7_)×(List Bool)):=fun (i,i1)=>
 rq (o1.length+[i].length≤Zl) <|
 rq (o2.length+[false].length≤Zl) <|
 ZgU o1 o2 i i1 ()
def ZbP (a1:Int×Int×Int×(List D6_)×Int) (o1:List D7_) (o2:List Bool):Unit→Option (Bool×(List D7_)×(List Bool)):=fun _=>
 cond (a1.1==(8:Int)) (
  rq (0≤a1.2.1∧a1.2.1<o2.length) <|
  some (true,o1,(o2.set a1.2.1.toNat true))) (
  cond (a1.1==(1:Int)) (
   rq (0≤a1.2.1∧a1.2.1<o1.length) <|
   rq (0≤a1.2.2.1∧a1.2.2.1<o1.length) <|
   (ZhM (o1.getD a1.2.1.toNat ([],0)) (o1.getD a1.2.2.1.toNat ([],0))).bind fun r7_=>
   ZS o1 o2 ((r7_.2.2,r7_.2.1),r7_.1)) (
   cond (a1.1==(2:Int)) (
    rq (0≤a1.2.1∧a1.2.1<o1.length) <|
    (Zff (o1.getD a1.2.1.toNat ([],0)) a1.2.2.1).bind fun r9_=>
    ZS o1 o2 (r9_.2,r9_.1)) (
    cond (a1.1==(3:Int)) (
     rq (0≤a1.2.1∧a1.2.1<o1.length) <|
     (Zf9 (o1.getD a1.2.1.toNat ([],0)) a1.2.2.1).bind fun r11_=>
     ZS o1 o2 (r11_.2,r11_.1)) (
     cond (a1.1==(4:Int)) (
      rq (0≤a1.2.1∧a1.2.1<o1.length) <|
      (Zfg (o1.getD a1.2.1.toNat ([],0))).bind fun r13_=>
      ZS o1 o2 ((r13_.2.2,r13_.2.1),r13_.1)) (
      cond (a1.1==(5:Int)) (
       rq (0≤a1.2.1∧a1.2.1<o1.length) <|
       (Zga (o1.getD a1.2.1.toNat ([],0)) a1.2.2.1).bind fun r15_=>
       ZS o1 o2 ((r15_.2.2,r15_.2.1),r15_.1)) (
       cond (a1.1==(6:Int)) (
        (Zjh a1.2.1).bind fun r16_=>
        ZS o1 o2 ((r16_.2.2,r16_.2.1),r16_.1)) (
        cond (a1.1==(7:Int)) (
         (Z3 a1.2.2.2).bind fun r20_=>
         cond r20_ (
          (ZfK o1 o2).bind fun r21_=>
          (Zvy r21_ a1.2.2.2).bind fun r22_=>
          ZS o1 o2 (a1.2.2.2,r22_)) (
          ZS o1 o2 (a1.2.2.2,false))) (
         ZS o1 o2 ((([]:List D6_),(0:Int)),false)))))))))
def ZgT (a1:Int×Int×Int×(List D6_)×Int) (o1:List D7_) (o2:List Bool):Unit→Option (Bool×(List D7_)×(List Bool)):=fun _=>
 (Zny a1.1).bind fun r1_=>
 (Zkt a1).bind fun r2_=>
 cond (!r2_) (
  some (false,o1,o2)) (
  cond (decide ((0:Int)<r1_.1)) (
   (ZdV a1.2.1 o1 o2).bind fun r3_=>
   cond (!r3_) (
    some (false,o1,o2)) (
    cond (decide ((1:Int)<r1_.1)) (
     (ZdV a1.2.2.1 o1 o2).bind fun r4_=>
     cond (!r4_) (
      some (false,o1,o2)) (
      ZbP a1 o1 o2 ())) (
     ZbP a1 o1 o2 ()))) (
   cond (decide ((1:Int)<r1_.1)) (
    (ZdV a1.2.2.1 o1 o2).bind fun r5_=>
    cond (!r5_) (
     some (false,o1,o2)) (
     ZbP a1 o1 o2 ())) (
    ZbP a1 o1 o2 ())))
def Zes (a1:Int×Int×Int×(List D6_)×Int) (o1:List D7_) (o2:List Bool):Option (Bool×(List D7_)×(List Bool)):=
 ZgT a1 o1 o2 ()
def Zqg (steps:List Zw):Int×(List D7_)×(List Bool)→Option ((Int×(List D7_)×(List Bool))⊕(Bool×Int×(List D7_)×(List Bool)×Int)):=fun (i,r_01,r_1)=>
 cond (decide (i<(steps.length:Int))) (
  rq (0≤i∧i<steps.length) <|
  (Zes (steps.getD i.toNat (0,(0,(0,([],0))))) r_01 r_1).bind fun r5_=>
  cond (!r5_.1) (
   some (.inr (false,0,[],[],i))) (
   rq (i64 (i+(1:Int))) <|
   some (.inl ((i+(1:Int)),r5_.2.1,r5_.2.2)))) (
  some (.inr (true,(-1:Int),r_01,r_1,0)))
def Zub (list_:List D7_) (steps:List Zw):(List D7_)→Option (Bool×Int×(List D7_)×(List Bool)×Int):=fun r_0=>
 loop (Zqg steps) ((0:Int),r_0,(List.replicate (list_.length:Int).toNat false))
def Zvx (list_:List D7_) (steps:List Zw):Option (Bool×Int×(List D7_)×(List Bool)×Int):=
 (Zgx list_).bind fun r1_=>
 cond (!r1_) (
  some (false,0,[],[],(0:Int))) (
  cond (decide ((1000:Int)<(steps.length:Int))) (
   some (false,0,[],[],(0:Int))) (
   (Zbw list_).bind fun r3_=>
   rq (0≤(list_.length:Int)∧(list_.length:Int)≤Zl∧(list_.length:Int)=(list_.length:Int)) <|
   Zub list_ steps r3_))
def ZeV (c_:(List D6_)×Int):Option Bool:=
 (Z3 c_).bind fun r3_=>
 cond r3_ (
  (ZeH c_).bind fun r4_=>
  some (decide (r4_<c_.2))) (
  some false)
def Zhu (r1_:Bool×Int×(List D7_)×(List Bool)×Int):Int→Option (Int⊕(Bool×Int×(List D7_)×(List Bool)×Int)):=fun i=>
 cond (decide (i<(r1_.2.2.1.length:Int))) (
  rq (0≤i∧i<r1_.2.2.1.length) <|
  rq (0≤i∧i<r1_.2.2.2.1.length) <|
  cond (!(r1_.2.2.2.1.getD i.toNat false)) (
   (ZeV (r1_.2.2.1.getD i.toNat ([],0))).bind fun r2_=>
   cond r2_ (
    some (.inr (true,i,r1_.2.2.1,r1_.2.2.2.1,0))) (
    rq (i64 (i+(1:Int))) <|
    some (.inl (i+(1:Int))))) (
   rq (i64 (i+(1:Int))) <|
   some (.inl (i+(1:Int))))) (
  some (.inr (true,(-1:Int),r1_.2.2.1,r1_.2.2.2.1,0)))
def ZnL (list_:List D7_) (steps:List Zw):Option (Bool×Int×(List D7_)×(List Bool)×Int):=
 (Zvx list_ steps).bind fun r1_=>
 cond r1_.1 (
  cond (decide ((0:Int)≤r1_.2.1)) (
   some (false,0,[],[],(-1:Int))) (
   loop (Zhu r1_) (0:Int))) (
  cond (decide ((0:Int)≤r1_.2.2.2.2)) (
   some (false,0,[],[],(-1:Int))) (
   none))
def ZgQ (list_:List D7_) (steps:List Zw):Option Bool:=
 (ZnL list_ steps).bind fun r1_=>
 cond r1_.1 (
  some (decide ((0:Int)≤r1_.2.1))) (
  some (decide ((0:Int)≤r1_.2.2.2.2)))
def Zod (a0:List Int):Option Bool:=
 cond (decide ((1048576:Int)<(a0.length:Int))) (
  some true) (
  (Zgg a0).bind fun r1_=>
  (Zgy r1_.2.2 r1_.2.1 r1_.1).bind fun r2_=>
  (ZgE r1_.2.2 r1_.2.1 r1_.1).bind fun r3_=>
  cond (r2_.1 != r3_.1) (
   cond (r2_.1==r3_.1) (
    (Zfz r2_.2.2 r3_.2.2).bind fun r7_=>
    some r7_) (
    some false)) (
   (Zfz r2_.2.2 r3_.2.2).bind fun r4_=>
   cond (!r4_) (
    cond (r2_.1==r3_.1) (
     (Zfz r2_.2.2 r3_.2.2).bind fun r6_=>
     some r6_) (
     some false)) (
    cond (r2_.1 != (2:Int)) (
     cond (r2_.1==r3_.1) (
      (Zfz r2_.2.2 r3_.2.2).bind fun r5_=>
      some r5_) (
      some false)) (
     (Zfy r1_.2.2).bind fun r8_=>
     cond r8_.1 (
      cond ((r2_.2.1.length:Int)==(0:Int)) (
       (ZiF r1_.2.2).bind fun r9_=>
       cond (r9_==(0:Int)) (
        (ZgQ r8_.2 r2_.2.2).bind fun r10_=>
        some r10_) (
        some false)) (
       some false)) (
      some false)))))
end
end Go.AE.Y
