/-
  Models of the functions: what each computes, as a Lean function into Option. Definitions alone.
-/
import Derived.Test.YtaeeiddjpigemaaGreatAEx3
namespace Go.AE.Y
open Go Go.AE
set_option linter.unusedVariables false
noncomputable section
abbrev y0_:Ty:=(.int .i64)
abbrev y1_:Ty:=(.pair (.sl (.int .u8)) y0_)
abbrev D1_:Type:=(List Int)×Int
abbrev y2_:Ty:=(.pair y0_ (.sl (.sl y0_)))
abbrev D2_:Type:=Int×(List (List Int))
abbrev y3_:Ty:=(.pair (.sl y0_) y2_)
abbrev D3_:Type:=(List Int)×Int×(List (List Int))
abbrev y4_:Ty:=(.pair (.sl y0_) y3_)
abbrev D4_:Type:=(List Int)×(List Int)×Int×(List (List Int))
abbrev y5_:Ty:=(.pair y0_ y4_)
abbrev D5_:Type:=Int×(List Int)×(List Int)×Int×(List (List Int))
abbrev y6_:Ty:=(.pair y0_ y0_)
abbrev D6_:Type:=Int×Int
abbrev y7_:Ty:=(.pair (.sl y6_) y0_)
abbrev D7_:Type:=(List (Int×Int))×Int
abbrev y8_:Ty:=(.pair y0_ y7_)
abbrev D8_:Type:=Int×(List (Int×Int))×Int
abbrev y9_:Ty:=(.pair y0_ y8_)
abbrev D9_:Type:=Int×Int×(List (Int×Int))×Int
abbrev Zb7:Ty:=(.pair y0_ y9_)
abbrev Zw:Type:=Int×Int×Int×(List (Int×Int))×Int
abbrev ZDM:Ty:=(.pair (.sl y0_) (.sl y5_))
abbrev ZOL:Type:=(List Int)×(List (Int×(List Int)×(List Int)×Int×(List (List Int))))
def Zmi:(List Int)→Option D1_:=fun code1=>
 some (code1,(0:Int))
def Zp9 (code:List Int):Option D1_:=
 cond (decide ((2000:Int)<(code.length:Int))) (
  rq (0≤(2000:Int)∧(2000:Int)≤code.length) <|
  Zmi (code.take (2000:Int).toNat)) (
  Zmi code)
def Zdt (a1:Int) (o0:(List Int)×Int):Option (Int×D1_):=
 rq (i64 (o0.2+(1:Int))) <|
 cond (decide (a1<(1:Int))) (
  some ((0:Int),(o0.1,(o0.2+(1:Int))))) (
  cond ((o0.1.length:Int)==(0:Int)) (
   some ((0:Int),(o0.1,(o0.2+(1:Int))))) (
   rq (i64 ((o0.2+(1:Int)) - (1:Int))) <|
   cond (decide (((o0.2+(1:Int)) - (1:Int))<(o0.1.length:Int))) (
    rq (0≤((o0.2+(1:Int)) - (1:Int))∧((o0.2+(1:Int)) - (1:Int))<o0.1.length) <|
    rq (i64 (o0.1.getD ((o0.2+(1:Int)) - (1:Int)).toNat 0)) <|
    rq (1≤a1∧0≤(o0.1.getD ((o0.2+(1:Int)) - (1:Int)).toNat 0)) <|
    some (((o0.1.getD ((o0.2+(1:Int)) - (1:Int)).toNat 0) % a1),(o0.1,(o0.2+(1:Int))))) (
    rq (1≤(o0.1.length:Int)∧0≤((o0.2+(1:Int)) - (1:Int))) <|
    rq (0≤(((o0.2+(1:Int)) - (1:Int)) % (o0.1.length:Int))∧(((o0.2+(1:Int)) - (1:Int)) % (o0.1.length:Int))<o0.1.length) <|
    rq (i64 (o0.1.getD (((o0.2+(1:Int)) - (1:Int)) % (o0.1.length:Int)).toNat 0)) <|
    rq (i64 ((o0.1.getD (((o0.2+(1:Int)) - (1:Int)) % (o0.1.length:Int)).toNat 0)*(131:Int))) <|
    rq (i64 (((o0.2+(1:Int)) - (1:Int))*(7:Int))) <|
    rq (i64 ((((o0.2+(1:Int)) - (1:Int))*(7:Int))+(3:Int))) <|
    rq (1≤(o0.1.length:Int)∧0≤((((o0.2+(1:Int)) - (1:Int))*(7:Int))+(3:Int))) <|
    rq (0≤(((((o0.2+(1:Int)) - (1:Int))*(7:Int))+(3:Int)) % (o0.1.length:Int))∧(((((o0.2+(1:Int)) - (1:Int))*(7:Int))+(3:Int)) % (o0.1.length:Int))<o0.1.length) <|
    rq (i64 (o0.1.getD (((((o0.2+(1:Int)) - (1:Int))*(7:Int))+(3:Int)) % (o0.1.length:Int)).toNat 0)) <|
    rq (i64 ((o0.1.getD (((((o0.2+(1:Int)) - (1:Int))*(7:Int))+(3:Int)) % (o0.1.length:Int)).toNat 0)*(1117:Int))) <|
    rq (i64 (((o0.1.getD (((o0.2+(1:Int)) - (1:Int)) % (o0.1.length:Int)).toNat 0)*(131:Int))+((o0.1.getD (((((o0.2+(1:Int)) - (1:Int))*(7:Int))+(3:Int)) % (o0.1.length:Int)).toNat 0)*(1117:Int)))) <|
    rq (i64 (((o0.2+(1:Int)) - (1:Int))*(29:Int))) <|
    rq (i64 ((((o0.1.getD (((o0.2+(1:Int)) - (1:Int)) % (o0.1.length:Int)).toNat 0)*(131:Int))+((o0.1.getD (((((o0.2+(1:Int)) - (1:Int))*(7:Int))+(3:Int)) % (o0.1.length:Int)).toNat 0)*(1117:Int)))+(((o0.2+(1:Int)) - (1:Int))*(29:Int)))) <|
    rq (1≤(o0.1.length:Int)∧0≤((o0.2+(1:Int)) - (1:Int))) <|
    rq (i64 ((((o0.2+(1:Int)) - (1:Int)) / (o0.1.length:Int))*(53:Int))) <|
    rq (i64 (((((o0.1.getD (((o0.2+(1:Int)) - (1:Int)) % (o0.1.length:Int)).toNat 0)*(131:Int))+((o0.1.getD (((((o0.2+(1:Int)) - (1:Int))*(7:Int))+(3:Int)) % (o0.1.length:Int)).toNat 0)*(1117:Int)))+(((o0.2+(1:Int)) - (1:Int))*(29:Int)))+((((o0.2+(1:Int)) - (1:Int)) / (o0.1.length:Int))*(53:Int)))) <|
    rq (1≤(64:Int)∧0≤(((((o0.1.getD (((o0.2+(1:Int)) - (1:Int)) % (o0.1.length:Int)).toNat 0)*(131:Int))+((o0.1.getD (((((o0.2+(1:Int)) - (1:Int))*(7:Int))+(3:Int)) % (o0.1.length:Int)).toNat 0)*(1117:Int)))+(((o0.2+(1:Int)) - (1:Int))*(29:Int)))+((((o0.2+(1:Int)) - (1:Int)) / (o0.1.length:Int))*(53:Int)))) <|
    rq (0≤(((((o0.1.getD (((o0.2+(1:Int)) - (1:Int)) % (o0.1.length:Int)).toNat 0)*(131:Int))+((o0.1.getD (((((o0.2+(1:Int)) - (1:Int))*(7:Int))+(3:Int)) % (o0.1.length:Int)).toNat 0)*(1117:Int)))+(((o0.2+(1:Int)) - (1:Int))*(29:Int)))+((((o0.2+(1:Int)) - (1:Int)) / (o0.1.length:Int))*(53:Int)))∧0≤((((((o0.1.getD (((o0.2+(1:Int)) - (1:Int)) % (o0.1.length:Int)).toNat 0)*(131:Int))+((o0.1.getD (((((o0.2+(1:Int)) - (1:Int))*(7:Int))+(3:Int)) % (o0.1.length:Int)).toNat 0)*(1117:Int)))+(((o0.2+(1:Int)) - (1:Int))*(29:Int)))+((((o0.2+(1:Int)) - (1:Int)) / (o0.1.length:Int))*(53:Int))) / (64:Int))) <|
    rq (1≤a1∧0≤(((((((o0.1.getD (((o0.2+(1:Int)) - (1:Int)) % (o0.1.length:Int)).toNat 0)*(131:Int))+((o0.1.getD (((((o0.2+(1:Int)) - (1:Int))*(7:Int))+(3:Int)) % (o0.1.length:Int)).toNat 0)*(1117:Int)))+(((o0.2+(1:Int)) - (1:Int))*(29:Int)))+((((o0.2+(1:Int)) - (1:Int)) / (o0.1.length:Int))*(53:Int))).toNat ^^^ ((((((o0.1.getD (((o0.2+(1:Int)) - (1:Int)) % (o0.1.length:Int)).toNat 0)*(131:Int))+((o0.1.getD (((((o0.2+(1:Int)) - (1:Int))*(7:Int))+(3:Int)) % (o0.1.length:Int)).toNat 0)*(1117:Int)))+(((o0.2+(1:Int)) - (1:Int))*(29:Int)))+((((o0.2+(1:Int)) - (1:Int)) / (o0.1.length:Int))*(53:Int))) / (64:Int)).toNat:Nat):Int)) <|
    some (((((((((o0.1.getD (((o0.2+(1:Int)) - (1:Int)) % (o0.1.length:Int)).toNat 0)*(131:Int))+((o0.1.getD (((((o0.2+(1:Int)) - (1:Int))*(7:Int))+(3:Int)) % (o0.1.length:Int)).toNat 0)*(1117:Int)))+(((o0.2+(1:Int)) - (1:Int))*(29:Int)))+((((o0.2+(1:Int)) - (1:Int)) / (o0.1.length:Int))*(53:Int))).toNat ^^^ ((((((o0.1.getD (((o0.2+(1:Int)) - (1:Int)) % (o0.1.length:Int)).toNat 0)*(131:Int))+((o0.1.getD (((((o0.2+(1:Int)) - (1:Int))*(7:Int))+(3:Int)) % (o0.1.length:Int)).toNat 0)*(1117:Int)))+(((o0.2+(1:Int)) - (1:Int))*(29:Int)))+((((o0.2+(1:Int)) - (1:Int)) / (o0.1.length:Int))*(53:Int))) / (64:Int)).toNat:Nat):Int) % a1),(o0.1,(o0.2+(1:Int)))))))
def Zbl (list_:List Int) (r_:(List Int)×Int):Option (Int×D1_):=
 (Zdt (list_.length:Int) r_).bind fun r1_=>
 rq (0≤r1_.1∧r1_.1<list_.length) <|
 some ((list_.getD r1_.1.toNat 0),r1_.2)
def ZdX (i3:(List Int)×Int):(List Int)→Option (D1_×(List Int)):=fun i12=>
 cond (decide ((1:Int)<(i12.length:Int))) (
  (Zdt (3:Int) i3).bind fun r3_=>
  cond (r3_.1==(0:Int)) (
   rq (0≤(0:Int)∧(0:Int)<i12.length) <|
   rq (0≤(1:Int)∧(1:Int)<i12.length) <|
   rq (0≤(0:Int)∧(0:Int)<i12.length) <|
   rq (0≤(1:Int)∧(1:Int)<(i12.set (0:Int).toNat (i12.getD (1:Int).toNat 0)).length) <|
   some (r3_.2,((i12.set (0:Int).toNat (i12.getD (1:Int).toNat 0)).set (1:Int).toNat (i12.getD (0:Int).toNat 0)))) (
   some (r3_.2,i12))) (
  some (i3,i12))
def Zl4 (a2:Int) (i3:(List Int)×Int):Int×(List Int)→Option ((Int×(List Int))⊕(D1_×(List Int))):=fun (i10,i11)=>
 cond (decide (i10<a2)) (
  rq (i11.length+[i10].length≤Zl) <|
  rq (i64 (i10+(1:Int))) <|
  some (.inl ((i10+(1:Int)),(i11++[i10])))) (
  up (ZdX i3 i11))
def Zl5 (a2:Int) (i3:(List Int)×Int):Int×(List Int)→Option ((Int×(List Int))⊕(D1_×(List Int))):=fun (i8,i9)=>
 cond (decide (i8<a2)) (
  rq (i9.length+[i8].length≤Zl) <|
  rq (i64 (i8+(1:Int))) <|
  some (.inl ((i8+(1:Int)),(i9++[i8])))) (
  up (ZdX i3 i9))
def ZfE (a2:Int) (i3:(List Int)×Int):(List Int)→Option (D1_×(List Int)):=fun i7=>
 cond (decide ((i7.length:Int)<a2)) (
  loop (Zl4 a2 i3) ((0:Int),([]:List Int))) (
  cond ((i7.length:Int)==(0:Int)) (
   loop (Zl5 a2 i3) ((0:Int),([]:List Int))) (
   ZdX i3 i7))
def Zit (a2:Int) (o1:List Int) (i3:(List Int)×Int):Int×(List Int)→Option ((Int×(List Int))⊕(D1_×(List Int))):=fun (i5,i6)=>
 cond (decide ((i6.length:Int)<a2)) (
  cond (decide (i5<(o1.length:Int))) (
   cond ((i6.length:Int)==(0:Int)) (
    rq (i6.length+[i5].length≤Zl) <|
    rq (i64 (i5+(1:Int))) <|
    some (.inl ((i5+(1:Int)),(i6++[i5])))) (
    rq (i64 ((i6.length:Int) - (1:Int))) <|
    rq (0≤((i6.length:Int) - (1:Int))∧((i6.length:Int) - (1:Int))<i6.length) <|
    cond (decide ((i6.getD ((i6.length:Int) - (1:Int)).toNat 0)<i5)) (
     rq (i6.length+[i5].length≤Zl) <|
     rq (i64 (i5+(1:Int))) <|
     some (.inl ((i5+(1:Int)),(i6++[i5])))) (
     rq (i64 (i5+(1:Int))) <|
     some (.inl ((i5+(1:Int)),i6))))) (
   up (ZfE a2 i3 i6))) (
  up (ZfE a2 i3 i6))
def Zis (a2:Int) (o1:List Int):D1_×(List Int)→Option (D1_×(List Int)):=fun (i3,i4)=>
 loop (Zit a2 o1 i3) ((0:Int),i4)
def Ziu (a2:Int) (o1:List Int):Int×D1_×(List Int)→Option ((Int×D1_×(List Int))⊕(D1_×(List Int))):=fun (i,i1,i2)=>
 cond (decide (i<(o1.length:Int))) (
  (Zdt (3:Int) i1).bind fun r2_=>
  cond (decide ((0:Int)<r2_.1)) (
   rq (i2.length+[i].length≤Zl) <|
   rq (i64 (i+(1:Int))) <|
   some (.inl ((i+(1:Int)),r2_.2,(i2++[i])))) (
   rq (i64 (i+(1:Int))) <|
   some (.inl ((i+(1:Int)),r2_.2,i2)))) (
  up (Zis a2 o1 (i1,i2)))
def Zh1 (a2:Int) (o0:(List Int)×Int) (o1:List Int) (o2:List D5_):Option (D1_×(List Int)):=
 loop (Ziu a2 o1) ((0:Int),o0,([]:List Int))
def Zl2 (r1_:Int×D1_) (r2_:D1_×(List Int)):D1_×(List Int)→Option (D1_×Int×Int×(List Int)×(List Int)×(List (List Int))):=fun (i2,i_21)=>
 (Zbl [(1:Int),(2:Int),(0:Int),(-1:Int),(3:Int),(-3:Int),(4:Int)] i2).bind fun r6_=>
 some (r6_.2,r1_.1,r6_.1,r2_.2,i_21,([]:List (List Int)))
def Zip (r1_:Int×D1_) (r2_:D1_×(List Int)):Int×D1_×(List Int)→Option ((Int×D1_×(List Int))⊕(D1_×Int×Int×(List Int)×(List Int)×(List (List Int)))):=fun (i,i1,i_2)=>
 cond (decide (i<(r2_.2.length:Int))) (
  (Zbl [(1:Int),(-1:Int),(2:Int),(1:Int),(-2:Int),(3:Int)] i1).bind fun r5_=>
  rq (i_2.length+[r5_.1].length≤Zl) <|
  rq (i64 (i+(1:Int))) <|
  some (.inl ((i+(1:Int)),r5_.2,(i_2++[r5_.1])))) (
  up (Zl2 r1_ r2_ (i1,i_2)))
def Zl3 (i3:Int) (i_4:List (List Int)):D1_×(List Int)→Option ((Int×D1_×(List (List Int)))⊕(D1_×Int×Int×(List Int)×(List Int)×(List (List Int)))):=fun (i13,i14)=>
 rq (i_4.length+[i14].length≤Zl) <|
 rq (i64 (i3 - (1:Int))) <|
 some (.inl ((i3 - (1:Int)),i13,(i_4++[i14])))
def Zir (r2_:D1_×(List Int)) (i3:Int) (i_4:List (List Int)):Int×D1_×(List Int)→Option ((Int×D1_×(List Int))⊕((Int×D1_×(List (List Int)))⊕(D1_×Int×Int×(List Int)×(List Int)×(List (List Int))))):=fun (i10,i11,i12)=>
 cond (decide (i10<(r2_.2.length:Int))) (
  (Zdt (4:Int) i11).bind fun r11_=>
  rq (i12.length+[r11_.1].length≤Zl) <|
  rq (i64 (i10+(1:Int))) <|
  some (.inl ((i10+(1:Int)),r11_.2,(i12++[r11_.1])))) (
  up (Zl3 i3 i_4 (i11,i12)))
def Ziq (r1_:Int×D1_) (r2_:D1_×(List Int)):Int×D1_×(List (List Int))→Option ((Int×D1_×(List (List Int)))⊕(D1_×Int×Int×(List Int)×(List Int)×(List (List Int)))):=fun (i3,i9,i_4)=>
 cond (decide ((0:Int)<i3)) (
  loop (Zir r2_ i3 i_4) ((0:Int),i9,([]:List Int))) (
  some (.inr (i9,r1_.1,(0:Int),r2_.2,([]:List Int),i_4)))
def Zlf (o0:(List Int)×Int) (o1:List Int) (o2:List D5_):Option (D1_×Int×Int×(List Int)×(List Int)×(List (List Int))):=
 (Zbl [(1:Int),(2:Int),(3:Int),(4:Int),(1:Int)] o0).bind fun r1_=>
 (Zh1 (1:Int) r1_.2 o1 o2).bind fun r2_=>
 cond (r1_.1==(1:Int)) (
  loop (Zip r1_ r2_) ((0:Int),r2_.1,([]:List Int))) (
  cond (r1_.1==(3:Int)) (
   (Zbl [(3:Int),(4:Int),(2:Int),(6:Int),(0:Int),(8:Int)] r2_.1).bind fun r7_=>
   loop (Ziq r1_ r2_) (r7_.1,r7_.2,([]:List (List Int)))) (
   cond (r1_.1==(4:Int)) (
    (Zh1 (2:Int) r2_.1 o1 o2).bind fun r12_=>
    rq (0≤(2:Int)∧(2:Int)≤r12_.2.length) <|
    some (r12_.1,r1_.1,(0:Int),(r12_.2.take (2:Int).toNat),([]:List Int),([]:List (List Int)))) (
    some (r2_.1,r1_.1,(0:Int),r2_.2,([]:List Int),([]:List (List Int))))))
def Zmp (i_03:List Int):Int×D1_×(List D5_)→Option ((Int×D1_×(List D5_))⊕(D1_×(List Int)×(List D5_))):=fun (i8,i9,i_1)=>
 cond (decide ((0:Int)<i8)) (
  (Zlf i9 i_03 i_1).bind fun r8_=>
  rq (i_1.length+[(r8_.2.1,(r8_.2.2.2.1,(r8_.2.2.2.2.1,(r8_.2.2.1,r8_.2.2.2.2.2))))].length≤Zl) <|
  rq (i64 (i8 - (1:Int))) <|
  some (.inl ((i8 - (1:Int)),r8_.1,(i_1++[(r8_.2.1,(r8_.2.2.2.1,(r8_.2.2.2.2.1,(r8_.2.2.1,r8_.2.2.2.2.2))))])))) (
  some (.inr (i9,i_03,i_1)))
def Zmo (i2:(List Int)×Int):(List Int)→Option (D1_×(List Int)×(List D5_)):=fun i_03=>
 (Zbl [(2:Int),(3:Int),(1:Int),(4:Int),(0:Int)] i2).bind fun r5_=>
 loop (Zmp i_03) (r5_.1,r5_.2,([]:List D5_))
def Zgx (i_02:List Int):Int×Int→Option ((Int×Int)⊕((Int×(List Int))⊕(D1_×(List Int)×(List D5_)))):=fun (i6,i7)=>
 cond (decide (i7<(i_02.length:Int))) (
  rq (0≤i7∧i7<i_02.length) <|
  rq (i64 (i6+(i_02.getD i7.toNat 0))) <|
  rq (i64 ((i6+(i_02.getD i7.toNat 0))+(1:Int))) <|
  rq (i64 (i7+(1:Int))) <|
  some (.inl (((i6+(i_02.getD i7.toNat 0))+(1:Int)),(i7+(1:Int))))) (
  cond (decide ((12:Int)<i6)) (
   rq (i64 ((i_02.length:Int) - (1:Int))) <|
   rq (0≤((i_02.length:Int) - (1:Int))∧((i_02.length:Int) - (1:Int))≤i_02.length) <|
   some (.inr (.inl ((0:Int),(i_02.take ((i_02.length:Int) - (1:Int)).toNat))))) (
   some (.inr (.inl (i6,i_02)))))
def Zmq (i2:(List Int)×Int):Int×(List Int)→Option ((Int×(List Int))⊕(D1_×(List Int)×(List D5_))):=fun (i3,i_02)=>
 cond (i3==(0:Int)) (
  loop (Zgx i_02) (i3,(0:Int))) (
  up (Zmo i2 i_02))
def Zmn:D1_×(List Int)→Option (D1_×(List Int)×(List D5_)):=fun (i2,i_01)=>
 loop (Zmq i2) ((0:Int),i_01)
def Zmr:Int×D1_×(List Int)→Option ((Int×D1_×(List Int))⊕(D1_×(List Int)×(List D5_))):=fun (i,i1,i_0)=>
 cond (decide ((0:Int)<i)) (
  (Zbl [(2:Int),(1:Int),(3:Int),(2:Int),(0:Int)] i1).bind fun r4_=>
  rq (i_0.length+[r4_.1].length≤Zl) <|
  rq (i64 (i - (1:Int))) <|
  some (.inl ((i - (1:Int)),r4_.2,(i_0++[r4_.1])))) (
  up (Zmn (i1,i_0)))
def Zqd (o0:(List Int)×Int):Option (D1_×(List Int)×(List D5_)):=
 (Zbl [(3:Int),(2:Int),(4:Int),(3:Int)] o0).bind fun r1_=>
 loop (Zmr) (r1_.1,r1_.2,([]:List Int))
def ZvB (m:(List Int)×(List D5_)) (i:Int) (out_1:List D5_):(List (List Int))→Option ((Int×(List D5_))⊕((List Int)×(List D5_))):=fun y_43=>
 rq (out_1.length+[((m.2.getD i.toNat (0,([],([],(0,[]))))).1,((([]:List Int)++(m.2.getD i.toNat (0,([],([],(0,[]))))).2.1),((([]:List Int)++(m.2.getD i.toNat (0,([],([],(0,[]))))).2.2.1),((m.2.getD i.toNat (0,([],([],(0,[]))))).2.2.2.1,y_43))))].length≤Zl) <|
 rq (i64 (i+(1:Int))) <|
 some (.inl ((i+(1:Int)),(out_1++[((m.2.getD i.toNat (0,([],([],(0,[]))))).1,((([]:List Int)++(m.2.getD i.toNat (0,([],([],(0,[]))))).2.1),((([]:List Int)++(m.2.getD i.toNat (0,([],([],(0,[]))))).2.2.1),((m.2.getD i.toNat (0,([],([],(0,[]))))).2.2.2.1,y_43))))])))
def ZhH (m:(List Int)×(List D5_)) (i:Int) (out_1:List D5_):Int×(List (List Int))→Option ((Int×(List (List Int)))⊕((Int×(List D5_))⊕((List Int)×(List D5_)))):=fun (k_1,y_42)=>
 cond (decide (k_1<((m.2.getD i.toNat (0,([],([],(0,[]))))).2.2.2.2.length:Int))) (
  rq (0≤k_1∧k_1<(m.2.getD i.toNat (0,([],([],(0,[]))))).2.2.2.2.length) <|
  rq (([]:List Int).length+((m.2.getD i.toNat (0,([],([],(0,[]))))).2.2.2.2.getD k_1.toNat []).length≤Zl) <|
  rq (y_42.length+[(([]:List Int)++((m.2.getD i.toNat (0,([],([],(0,[]))))).2.2.2.2.getD k_1.toNat []))].length≤Zl) <|
  rq (i64 (k_1+(1:Int))) <|
  some (.inl ((k_1+(1:Int)),(y_42++[(([]:List Int)++((m.2.getD i.toNat (0,([],([],(0,[]))))).2.2.2.2.getD k_1.toNat []))])))) (
  up (ZvB m i out_1 y_42))
def ZvA (m:(List Int)×(List D5_)) (i:Int) (out_1:List D5_):Unit→Option ((Int×(List D5_))⊕((List Int)×(List D5_))):=fun _=>
 loop (ZhH m i out_1) ((0:Int),([]:List (List Int)))
def Zvz (m:(List Int)×(List D5_)) (i:Int) (out_1:List D5_):Unit→Option ((Int×(List D5_))⊕((List Int)×(List D5_))):=fun _=>
 rq (([]:List Int).length+(m.2.getD i.toNat (0,([],([],(0,[]))))).2.1.length≤Zl) <|
 rq (([]:List Int).length+(m.2.getD i.toNat (0,([],([],(0,[]))))).2.2.1.length≤Zl) <|
 ZvA m i out_1 ()
def ZqT (m:(List Int)×(List D5_)):Int×(List D5_)→Option ((Int×(List D5_))⊕((List Int)×(List D5_))):=fun (i,out_1)=>
 cond (decide (i<(m.2.length:Int))) (
  rq (0≤i∧i<m.2.length) <|
  Zvz m i out_1 ()) (
  some (.inr ((([]:List Int)++m.1),out_1)))
def Zvy (m:(List Int)×(List D5_)):Unit→Option ((List Int)×(List D5_)):=fun _=>
 rq (([]:List Int).length+m.1.length≤Zl) <|
 loop (ZqT m) ((0:Int),([]:List D5_))
def Zq5 (m:(List Int)×(List D5_)):Option ((List Int)×(List D5_)):=
 Zvy m ()
def Zlh (r1_:(List Int)×(List D5_)) (r2_:Int×D1_):(List Int)→Option ((List Int)⊕(D1_×(List Int)×(List D5_))):=fun i_0=>
 cond (decide ((i_0.length:Int)≤(5:Int))) (
  rq (i_0.length+[(0:Int)].length≤Zl) <|
  some (.inl (i_0++[(0:Int)]))) (
  some (.inr (r2_.2,i_0,r1_.2)))
def ZoE (a1:(List Int)×(List D5_)) (o0:(List Int)×Int):Option (D1_×(List Int)×(List D5_)):=
 (Zq5 a1).bind fun r1_=>
 (Zdt (50:Int) o0).bind fun r2_=>
 cond (r2_.1==(0:Int)) (
  cond (decide ((0:Int)<(r1_.1.length:Int))) (
   (Zbl [(-1:Int),(4:Int),(3:Int),(9223372036854775807:Int)] r2_.2).bind fun r4_=>
   rq (0≤(0:Int)∧(0:Int)<r1_.1.length) <|
   some (r4_.2,(r1_.1.set (0:Int).toNat r4_.1),r1_.2)) (
   some (r2_.2,r1_.1,r1_.2))) (
  cond (r2_.1==(1:Int)) (
   loop (Zlh r1_ r2_) r1_.1) (
   cond (r2_.1==(2:Int)) (
    cond (decide ((0:Int)<(r1_.2.length:Int))) (
     (Zbl [(0:Int),(5:Int),(1:Int),(2:Int),(3:Int)] r2_.2).bind fun r6_=>
     rq (0≤(0:Int)∧(0:Int)<r1_.2.length) <|
     some (r6_.2,r1_.1,(r1_.2.set (0:Int).toNat (r6_.1,(r1_.2.getD (0:Int).toNat (0,([],([],(0,[]))))).2)))) (
     some (r2_.2,r1_.1,r1_.2))) (
    cond (r2_.1==(3:Int)) (
     cond (decide ((0:Int)<(r1_.2.length:Int))) (
      rq (i64 ((r1_.2.length:Int) - (1:Int))) <|
      rq (0≤((r1_.2.length:Int) - (1:Int))∧((r1_.2.length:Int) - (1:Int))<r1_.2.length) <|
      cond (decide ((0:Int)<((r1_.2.getD ((r1_.2.length:Int) - (1:Int)).toNat (0,([],([],(0,[]))))).2.1.length:Int))) (
       rq (i64 ((r1_.2.length:Int) - (1:Int))) <|
       rq (0≤((r1_.2.length:Int) - (1:Int))∧((r1_.2.length:Int) - (1:Int))<r1_.2.length) <|
       (Zbl [(-1:Int),(5:Int),(1:Int),(0:Int)] r2_.2).bind fun r8_=>
       rq (0≤(0:Int)∧(0:Int)<((r1_.2.set ((r1_.2.length:Int) - (1:Int)).toNat (r1_.2.getD ((r1_.2.length:Int) - (1:Int)).toNat (0,([],([],(0,[])))))).getD ((r1_.2.length:Int) - (1:Int)).toNat (0,([],([],(0,[]))))).2.1.length) <|
       some (r8_.2,r1_.1,((r1_.2.set ((r1_.2.length:Int) - (1:Int)).toNat (r1_.2.getD ((r1_.2.length:Int) - (1:Int)).toNat (0,([],([],(0,[])))))).set ((r1_.2.length:Int) - (1:Int)).toNat (((r1_.2.set ((r1_.2.length:Int) - (1:Int)).toNat (r1_.2.getD ((r1_.2.length:Int) - (1:Int)).toNat (0,([],([],(0,[])))))).getD ((r1_.2.length:Int) - (1:Int)).toNat (0,([],([],(0,[]))))).1,((((r1_.2.set ((r1_.2.length:Int) - (1:Int)).toNat (r1_.2.getD ((r1_.2.length:Int) - (1:Int)).toNat (0,([],([],(0,[])))))).getD ((r1_.2.length:Int) - (1:Int)).toNat (0,([],([],(0,[]))))).2.1.set (0:Int).toNat r8_.1),((r1_.2.set ((r1_.2.length:Int) - (1:Int)).toNat (r1_.2.getD ((r1_.2.length:Int) - (1:Int)).toNat (0,([],([],(0,[])))))).getD ((r1_.2.length:Int) - (1:Int)).toNat (0,([],([],(0,[]))))).2.2))))) (
       some (r2_.2,r1_.1,(r1_.2.set ((r1_.2.length:Int) - (1:Int)).toNat (r1_.2.getD ((r1_.2.length:Int) - (1:Int)).toNat (0,([],([],(0,[]))))))))) (
      some (r2_.2,r1_.1,r1_.2))) (
     cond (r2_.1==(4:Int)) (
      cond (decide ((0:Int)<(r1_.2.length:Int))) (
       (Zbl [(1001:Int),(-1001:Int),(1000:Int)] r2_.2).bind fun r10_=>
       rq (0≤(0:Int)∧(0:Int)<r1_.2.length) <|
       some (r10_.2,r1_.1,(r1_.2.set (0:Int).toNat ((r1_.2.getD (0:Int).toNat (0,([],([],(0,[]))))).1,((r1_.2.getD (0:Int).toNat (0,([],([],(0,[]))))).2.1,((r1_.2.getD (0:Int).toNat (0,([],([],(0,[]))))).2.2.1,(r10_.1,(r1_.2.getD (0:Int).toNat (0,([],([],(0,[]))))).2.2.2.2))))))) (
       some (r2_.2,r1_.1,r1_.2))) (
      cond (r2_.1==(5:Int)) (
       some (r2_.2,([]:List Int),([]:List D5_))) (
       some (r2_.2,r1_.1,r1_.2)))))))
def Zl7:D1_×(List Int)→Option (D1_×(List Int)):=fun (r_2,out1)=>
 (Zdt (30:Int) r_2).bind fun r3_=>
 cond (r3_.1==(0:Int)) (
  cond (decide ((0:Int)<(out1.length:Int))) (
   (Zbl [(10:Int),(-10:Int),(9:Int),(9223372036854775807:Int)] r3_.2).bind fun r4_=>
   rq (0≤(0:Int)∧(0:Int)<out1.length) <|
   some (r4_.2,(out1.set (0:Int).toNat r4_.1))) (
   some (r3_.2,out1))) (
  cond (r3_.1==(1:Int)) (
   rq (out1.length+[(1:Int)].length≤Zl) <|
   some (r3_.2,(out1++[(1:Int)]))) (
   some (r3_.2,out1)))
def Ziv (o1:List Int):Int×D1_×(List Int)→Option ((Int×D1_×(List Int))⊕(D1_×(List Int))):=fun (i,r_1,out)=>
 cond (decide (i<(o1.length:Int))) (
  (Zbl [(1:Int),(-1:Int),(2:Int),(0:Int),(-2:Int),(3:Int)] r_1).bind fun r2_=>
  rq (out.length+[r2_.1].length≤Zl) <|
  rq (i64 (i+(1:Int))) <|
  some (.inl ((i+(1:Int)),r2_.2,(out++[r2_.1])))) (
  up (Zl7 (r_1,out)))
def Zlp (r_:(List Int)×Int) (o1:List Int) (o2:List D5_):Option (D1_×(List Int)):=
 loop (Ziv o1) ((0:Int),r_,([]:List Int))
def Zgv (code:List Int):Option (Int×(List Int)×(List Int)×(List D5_)):=
 (Zp9 code).bind fun r1_=>
 (Zqd r1_).bind fun r2_=>
 (ZoE r2_.2 r2_.1).bind fun r3_=>
 (Zlp r3_.1 r3_.2.1 r3_.2.2).bind fun r4_=>
 (Zbl [(300:Int),(500:Int),(200:Int),(2:Int),(0:Int),(2001:Int),(-1:Int)] r4_.1).bind fun r6_=>
 some (r6_.1,r4_.2,r3_.2.1,r3_.2.2)
def ZbG (n:Int) (low:Int) (high:Int):Option Bool:=
 cond (decide (low≤n)) (
  some (decide (n≤high))) (
  some false)
def Zda (s_:List Int) (v:Int):Int→Option (Int⊕Int):=fun i=>
 cond (decide (i<(s_.length:Int))) (
  rq (0≤i∧i<s_.length) <|
  cond (v==(s_.getD i.toNat 0)) (
   some (.inr i)) (
   rq (i64 (i+(1:Int))) <|
   some (.inl (i+(1:Int))))) (
  some (.inr (-1:Int)))
def Zk5 (s_:List Int) (v:Int):Option Int:=
 loop (Zda s_ v) (0:Int)
def ZcB (s_:List Int) (v:Int):Option Bool:=
 (Zk5 s_ v).bind fun r1_=>
 some (decide ((0:Int)≤r1_))
def ZoT (n:Int):Option Bool:=
 cond (n==(0:Int)) (
  some true) (
  (ZbG n (-9:Int) (9:Int)).bind fun r1_=>
  some (!r1_))
def ZbE (s_:List Int):Int→Option (Int⊕Int):=fun i=>
 cond (decide (i<(s_.length:Int))) (
  rq (0≤i∧i<s_.length) <|
  (ZoT (s_.getD i.toNat 0)).bind fun r1_=>
  cond r1_ (
   some (.inr i)) (
   rq (i64 (i+(1:Int))) <|
   some (.inl (i+(1:Int))))) (
  some (.inr (-1:Int)))
def ZdU (s_:List Int):Option Int:=
 loop (ZbE s_) (0:Int)
def Zch (s_:List Int):Option Bool:=
 (ZdU s_).bind fun r1_=>
 some (decide ((0:Int)≤r1_))
def ZmX (n:Int):Option Bool:=
 (ZbG n (0:Int) (3:Int)).bind fun r1_=>
 some (!r1_)
def Zbr (s_:List Int):Int→Option (Int⊕Int):=fun i=>
 cond (decide (i<(s_.length:Int))) (
  rq (0≤i∧i<s_.length) <|
  (ZmX (s_.getD i.toNat 0)).bind fun r1_=>
  cond r1_ (
   some (.inr i)) (
   rq (i64 (i+(1:Int))) <|
   some (.inl (i+(1:Int))))) (
  some (.inr (-1:Int)))
def ZdC (s_:List Int):Option Int:=
 loop (Zbr s_) (0:Int)
def Zb4 (s_:List Int):Option Bool:=
 (ZdC s_).bind fun r1_=>
 some (decide ((0:Int)≤r1_))
def ZoU (row:List Int) (o0:Int×(List Int)×(List Int)×Int×(List (List Int))):Option Bool:=
 cond ((row.length:Int) != (o0.2.1.length:Int)) (
  some true) (
  (Zb4 row).bind fun r1_=>
  some r1_)
def Zbs (s_:List (List Int)) (o0:Int×(List Int)×(List Int)×Int×(List (List Int))):Int→Option (Int⊕Int):=fun i=>
 cond (decide (i<(s_.length:Int))) (
  rq (0≤i∧i<s_.length) <|
  (ZoU (s_.getD i.toNat []) o0).bind fun r1_=>
  cond r1_ (
   some (.inr i)) (
   rq (i64 (i+(1:Int))) <|
   some (.inl (i+(1:Int))))) (
  some (.inr (-1:Int)))
def ZdD (s_:List (List Int)) (o0:Int×(List Int)×(List Int)×Int×(List (List Int))):Option Int:=
 loop (Zbs s_ o0) (0:Int)
def Zb5 (s_:List (List Int)) (o0:Int×(List Int)×(List Int)×Int×(List (List Int))):Option Bool:=
 (ZdD s_ o0).bind fun r1_=>
 some (decide ((0:Int)≤r1_))
def Zey (a0:Int×(List Int)×(List Int)×Int×(List (List Int))):Unit→Option (Int⊕Bool):=fun _=>
 cond (a0.1==(1:Int)) (
  cond ((a0.2.2.1.length:Int)==(a0.2.1.length:Int)) (
   (ZbG a0.2.2.2.1 (-1000:Int) (1000:Int)).bind fun r3_=>
   cond r3_ (
    (Zch a0.2.2.1).bind fun r4_=>
    some (.inr (!r4_))) (
    some (.inr false))) (
   some (.inr false))) (
  cond (a0.1==(3:Int)) (
   cond (decide ((a0.2.2.2.2.length:Int)≤(8:Int))) (
    (Zb5 a0.2.2.2.2 a0).bind fun r5_=>
    some (.inr (!r5_))) (
    some (.inr false))) (
   cond (a0.1==(4:Int)) (
    some (.inr ((a0.2.1.length:Int)==(2:Int)))) (
    some (.inr (a0.1==(2:Int))))))
def ZjJ (a0:Int×(List Int)×(List Int)×Int×(List (List Int))) (a1:Int):Int→Option (Int⊕Bool):=fun i=>
 cond (decide (i<(a0.2.1.length:Int))) (
  rq (0≤i∧i<a0.2.1.length) <|
  rq (i64 (a1 - (1:Int))) <|
  (ZbG (a0.2.1.getD i.toNat 0) (0:Int) (a1 - (1:Int))).bind fun r1_=>
  cond (!r1_) (
   some (.inr false)) (
   rq (0≤i∧i≤a0.2.1.length) <|
   (ZcB (a0.2.1.take i.toNat) (a0.2.1.getD i.toNat 0)).bind fun r2_=>
   cond r2_ (
    some (.inr false)) (
    rq (i64 (i+(1:Int))) <|
    some (.inl (i+(1:Int)))))) (
  cond ((a0.2.1.length:Int)==(0:Int)) (
   some (.inr false)) (
   cond (a0.1 != (1:Int)) (
    cond (decide ((0:Int)<(a0.2.2.1.length:Int))) (
     some (.inr false)) (
     cond (a0.2.2.2.1 != (0:Int)) (
      some (.inr false)) (
      cond (a0.1 != (3:Int)) (
       cond (decide ((0:Int)<(a0.2.2.2.2.length:Int))) (
        some (.inr false)) (
        Zey a0 ())) (
       Zey a0 ())))) (
    cond (a0.1 != (3:Int)) (
     cond (decide ((0:Int)<(a0.2.2.2.2.length:Int))) (
      some (.inr false)) (
      Zey a0 ())) (
     Zey a0 ()))))
def Zno (a0:Int×(List Int)×(List Int)×Int×(List (List Int))) (a1:Int):Option Bool:=
 loop (ZjJ a0 a1) (0:Int)
def ZnQ (r_:Int×(List Int)×(List Int)×Int×(List (List Int))) (o0:(List Int)×(List D5_)):Option Bool:=
 (Zno r_ (o0.1.length:Int)).bind fun r1_=>
 some (!r1_)
def Zba (s_:List D5_) (o0:(List Int)×(List D5_)):Int→Option (Int⊕Int):=fun i=>
 cond (decide (i<(s_.length:Int))) (
  rq (0≤i∧i<s_.length) <|
  (ZnQ (s_.getD i.toNat (0,([],([],(0,[]))))) o0).bind fun r1_=>
  cond r1_ (
   some (.inr i)) (
   rq (i64 (i+(1:Int))) <|
   some (.inl (i+(1:Int))))) (
  some (.inr (-1:Int)))
def ZcX (s_:List D5_) (o0:(List Int)×(List D5_)):Option Int:=
 loop (Zba s_ o0) (0:Int)
def ZbM (s_:List D5_) (o0:(List Int)×(List D5_)):Option Bool:=
 (ZcX s_ o0).bind fun r1_=>
 some (decide ((0:Int)≤r1_))
def ZmT (m:(List Int)×(List D5_)):Int×Int→Option ((Int×Int)⊕Bool):=fun (count,i)=>
 cond (decide (i<(m.1.length:Int))) (
  rq (0≤i∧i<m.1.length) <|
  (ZbG (m.1.getD i.toNat 0) (0:Int) (3:Int)).bind fun r2_=>
  cond (!r2_) (
   some (.inr false)) (
   rq (i64 ((m.1.getD i.toNat 0)+(1:Int))) <|
   rq (i64 (count+((m.1.getD i.toNat 0)+(1:Int)))) <|
   rq (i64 (i+(1:Int))) <|
   some (.inl ((count+((m.1.getD i.toNat 0)+(1:Int))),(i+(1:Int)))))) (
  cond (decide (count≤(12:Int))) (
   (ZbM m.2 m).bind fun r3_=>
   some (.inr (!r3_))) (
   some (.inr false)))
def ZeB (m:(List Int)×(List D5_)):Option Bool:=
 (ZbG (m.1.length:Int) (1:Int) (5:Int)).bind fun r1_=>
 cond (!r1_) (
  some false) (
  cond (decide ((8:Int)<(m.2.length:Int))) (
   some false) (
   loop (ZmT m) ((0:Int),(0:Int))))
def Zj6 (m:(List Int)×(List D5_)) (cell:Int):Int×Int→Option ((Int×Int)⊕Int):=fun (v,i)=>
 cond (decide (i<((m.1.take cell.toNat).length:Int))) (
  rq (0≤i∧i<(m.1.take cell.toNat).length) <|
  rq (i64 (((m.1.take cell.toNat).getD i.toNat 0)+(1:Int))) <|
  rq (i64 (v+(((m.1.take cell.toNat).getD i.toNat 0)+(1:Int)))) <|
  rq (i64 (i+(1:Int))) <|
  some (.inl ((v+(((m.1.take cell.toNat).getD i.toNat 0)+(1:Int))),(i+(1:Int))))) (
  some (.inr v))
def Zdy (m:(List Int)×(List D5_)) (cell:Int) (value:Int):Option Int:=
 rq (i64 ((1:Int)+value)) <|
 rq (0≤cell∧cell≤m.1.length) <|
 loop (Zj6 m cell) (((1:Int)+value),(0:Int))
def Zfe (m:(List Int)×(List D5_)) (cell:Int):Int×(List Int)→Option ((Int×(List Int))⊕(List Int)):=fun (i,out)=>
 cond (decide (i<((m.1.getD cell.toNat 0)+(1:Int)))) (
  (Zdy m cell i).bind fun r2_=>
  rq (out.length+[r2_].length≤Zl) <|
  rq (i64 (i+(1:Int))) <|
  some (.inl ((i+(1:Int)),(out++[r2_])))) (
  some (.inr out))
def ZgN (m:(List Int)×(List D5_)) (cell:Int):Option (List Int):=
 rq (0≤cell∧cell<m.1.length) <|
 rq (i64 ((m.1.getD cell.toNat 0)+(1:Int))) <|
 loop (Zfe m cell) ((0:Int),([]:List Int))
def ZhC (l:Int):Option Bool:=
 cond (l != (0:Int)) (
  (ZbG l (-12:Int) (12:Int)).bind fun r1_=>
  some r1_) (
  some false)
def Zbu (s_:List Int):Option (List Int):=
 nt (s_=[]) (
  some ([]:List Int)) (
  rq (([]:List Int).length+s_.length≤Zl) <|
  some (([]:List Int)++s_))
def Zdr (l:Int):Option Int:=
 rq (i64 (0 - l)) <|
 some (max l (0 - l))
def Zi3 (a:Int) (b:Int):Option Int:=
 (Zdr a).bind fun r1_=>
 (Zdr b).bind fun r2_=>
 rq (i64 (r1_ - r2_)) <|
 some (r1_ - r2_)
def Zkk:Int×(List Int)→Option (Int⊕(List Int)):=fun (k_2,s_2)=>
 rq (0≤k_2∧k_2≤s_2.length) <|
 rq (0≤k_2∧k_2≤(s_2.take k_2.toNat++List.replicate (s_2.length - k_2.toNat) (0:Int)).length) <|
 some (.inr ((s_2.take k_2.toNat++List.replicate (s_2.length - k_2.toNat) (0:Int)).take k_2.toNat))
def Zgs (k_:Int):Int×Int×(List Int)→Option ((Int×Int×(List Int))⊕(Int⊕(List Int))):=fun (k_1,k2_,s_1)=>
 cond (decide (k2_<((s_1.length:Int) - k_))) (
  rq (0≤k2_∧k_+k2_<s_1.length) <|
  rq (i64 (k2_ - (1:Int))) <|
  rq (0≤(k2_ - (1:Int))∧k_+(k2_ - (1:Int))<s_1.length) <|
  cond ((s_1.getD (k_+k2_).toNat 0) != (s_1.getD (k_+(k2_ - (1:Int))).toNat 0)) (
   rq (0≤k2_∧k_+k2_<s_1.length) <|
   rq (0≤k_1∧k_1<s_1.length) <|
   rq (i64 (k_1+(1:Int))) <|
   rq (i64 (k2_+(1:Int))) <|
   some (.inl ((k_1+(1:Int)),(k2_+(1:Int)),(s_1.set k_1.toNat (s_1.getD (k_+k2_).toNat 0))))) (
   rq (i64 (k2_+(1:Int))) <|
   some (.inl (k_1,(k2_+(1:Int)),s_1)))) (
  up (Zkk (k_1,s_1)))
def Zgr (s_:List Int):Int→Option (Int⊕(List Int)):=fun k_=>
 cond (decide (k_<(s_.length:Int))) (
  rq (0≤k_∧k_<s_.length) <|
  rq (i64 (k_ - (1:Int))) <|
  rq (0≤(k_ - (1:Int))∧(k_ - (1:Int))<s_.length) <|
  cond ((s_.getD k_.toNat 0)==(s_.getD (k_ - (1:Int)).toNat 0)) (
   rq (0≤k_∧k_≤s_.length) <|
   loop (Zgs k_) (k_,(1:Int),s_)) (
   rq (i64 (k_+(1:Int))) <|
   some (.inl (k_+(1:Int))))) (
  some (.inr s_))
def Zjb (s_:List Int):Option (List Int):=
 cond (decide ((s_.length:Int)<(2:Int))) (
  some s_) (
  loop (Zgr s_) (1:Int))
def ZkQ (r5_:(List Int)):Int×(List D6_)→Option ((Int×(List D6_))⊕(Int⊕(Bool×Int×(List D6_)))):=fun (i1,c_0)=>
 cond (decide (i1<(r5_.length:Int))) (
  rq (0≤i1∧i1<r5_.length) <|
  rq (c_0.length+[((1:Int),(r5_.getD i1.toNat 0))].length≤Zl) <|
  rq (i64 (i1+(1:Int))) <|
  some (.inl ((i1+(1:Int)),(c_0++[((1:Int),(r5_.getD i1.toNat 0))])))) (
  some (.inr (.inr (true,(1:Int),c_0))))
def ZkP (lits:List Int):Int→Option (Int⊕(Bool×Int×(List D6_))):=fun i=>
 cond (decide (i<(lits.length:Int))) (
  rq (0≤i∧i<lits.length) <|
  (ZhC (lits.getD i.toNat 0)).bind fun r1_=>
  cond (!r1_) (
   some (.inr (false,(0:Int),([]:List D6_)))) (
   rq (i64 (0 - (lits.getD i.toNat 0))) <|
   (ZcB lits (0 - (lits.getD i.toNat 0))).bind fun r2_=>
   cond r2_ (
    some (.inr (false,(0:Int),([]:List D6_)))) (
    rq (i64 (i+(1:Int))) <|
    some (.inl (i+(1:Int)))))) (
  (Zbu lits).bind fun r3_=>
  (Zzw Zi3 r3_).bind fun r4_=>
  (Zjb r4_).bind fun r5_=>
  loop (ZkQ r5_) ((0:Int),([]:List D6_)))
def ZiO (lits:List Int):Option (Bool×Int×(List D6_)):=
 cond (decide ((40:Int)<(lits.length:Int))) (
  some (false,(0:Int),([]:List D6_))) (
  loop (ZkP lits) (0:Int))
def ZgQ (vars:List Int):Int×(List D6_)→Option ((Int×(List D6_))⊕(Int×(List D6_))):=fun (i,c_0)=>
 cond (decide (i<(vars.length:Int))) (
  rq (0≤i∧i<vars.length) <|
  rq (i64 (0 - (vars.getD i.toNat 0))) <|
  rq (c_0.length+[((1:Int),(0 - (vars.getD i.toNat 0)))].length≤Zl) <|
  rq (i64 (i+(1:Int))) <|
  some (.inl ((i+(1:Int)),(c_0++[((1:Int),(0 - (vars.getD i.toNat 0)))])))) (
  some (.inr (((vars.length:Int) - (1:Int)),c_0)))
def Zj7 (vars:List Int):Option (Int×(List D6_)):=
 rq (i64 ((vars.length:Int) - (1:Int))) <|
 loop (ZgQ vars) ((0:Int),([]:List D6_))
def ZiK (c_:(List D6_)×Int):Int×Int→Option ((Int×Int)⊕Bool):=fun (before,i)=>
 cond (decide (i<(c_.1.length:Int))) (
  rq (0≤i∧i<c_.1.length) <|
  (ZhC (c_.1.getD i.toNat (0,0)).2).bind fun r1_=>
  cond (!r1_) (
   some (.inr false)) (
   (Zdr (c_.1.getD i.toNat (0,0)).2).bind fun r2_=>
   cond (decide (r2_≤before)) (
    some (.inr false)) (
    (ZbG (c_.1.getD i.toNat (0,0)).1 (1:Int) (1000:Int)).bind fun r3_=>
    cond (!r3_) (
     some (.inr false)) (
     (Zdr (c_.1.getD i.toNat (0,0)).2).bind fun r4_=>
     rq (i64 (i+(1:Int))) <|
     some (.inl (r4_,(i+(1:Int)))))))) (
  (ZbG c_.2 (0:Int) (20000:Int)).bind fun r5_=>
  some (.inr r5_))
def Z6 (c_:(List D6_)×Int):Option Bool:=
 loop (ZiK c_) ((0:Int),(0:Int))
def Zdj (c_1:Int) (o0:List D6_):Option (Bool×Int×(List D6_)):=
 (Z6 (o0,c_1)).bind fun r1_=>
 cond (!r1_) (
  some (false,(0:Int),([]:List D6_))) (
  some (true,c_1,o0))
def Znm:Int×(List D6_)→Option (Bool×Int×(List D6_)):=fun (i9,i_03)=>
 (Zdj (max (0:Int) i9) i_03).bind fun r1_=>
 some (r1_.1,r1_.2.1,r1_.2.2)
def Znn (i5:Int) (i6:Int):Int×(List D6_)→Option ((Int×Int×(List D6_))⊕(Bool×Int×(List D6_))):=fun (i8,i_02)=>
 rq (i64 (i5 - i8)) <|
 rq (i64 (i6+(1:Int))) <|
 some (.inl ((i5 - i8),(i6+(1:Int)),i_02))
def ZfM (i4:List Int):Int×Int×(List D6_)→Option ((Int×Int×(List D6_))⊕(Bool×Int×(List D6_))):=fun (i5,i6,i_01)=>
 cond (decide (i6<(13:Int))) (
  rq ((0≤i6∧i6<13)∧13≤[(i4.getD 0 0),(i4.getD 1 0),(i4.getD 2 0),(i4.getD 3 0),(i4.getD 4 0),(i4.getD 5 0),(i4.getD 6 0),(i4.getD 7 0),(i4.getD 8 0),(i4.getD 9 0),(i4.getD 10 0),(i4.getD 11 0),(i4.getD 12 0)].length) <|
  cond (decide ((0:Int)<([(i4.getD 0 0),(i4.getD 1 0),(i4.getD 2 0),(i4.getD 3 0),(i4.getD 4 0),(i4.getD 5 0),(i4.getD 6 0),(i4.getD 7 0),(i4.getD 8 0),(i4.getD 9 0),(i4.getD 10 0),(i4.getD 11 0),(i4.getD 12 0)].getD i6.toNat 0))) (
   rq (i_01.length+[(([(i4.getD 0 0),(i4.getD 1 0),(i4.getD 2 0),(i4.getD 3 0),(i4.getD 4 0),(i4.getD 5 0),(i4.getD 6 0),(i4.getD 7 0),(i4.getD 8 0),(i4.getD 9 0),(i4.getD 10 0),(i4.getD 11 0),(i4.getD 12 0)].getD i6.toNat 0),i6)].length≤Zl) <|
   rq (i64 (i6+(1:Int))) <|
   some (.inl (i5,(i6+(1:Int)),(i_01++[(([(i4.getD 0 0),(i4.getD 1 0),(i4.getD 2 0),(i4.getD 3 0),(i4.getD 4 0),(i4.getD 5 0),(i4.getD 6 0),(i4.getD 7 0),(i4.getD 8 0),(i4.getD 9 0),(i4.getD 10 0),(i4.getD 11 0),(i4.getD 12 0)].getD i6.toNat 0),i6)])))) (
   cond (decide (([(i4.getD 0 0),(i4.getD 1 0),(i4.getD 2 0),(i4.getD 3 0),(i4.getD 4 0),(i4.getD 5 0),(i4.getD 6 0),(i4.getD 7 0),(i4.getD 8 0),(i4.getD 9 0),(i4.getD 10 0),(i4.getD 11 0),(i4.getD 12 0)].getD i6.toNat 0)<(0:Int))) (
    rq (i64 (0 - ([(i4.getD 0 0),(i4.getD 1 0),(i4.getD 2 0),(i4.getD 3 0),(i4.getD 4 0),(i4.getD 5 0),(i4.getD 6 0),(i4.getD 7 0),(i4.getD 8 0),(i4.getD 9 0),(i4.getD 10 0),(i4.getD 11 0),(i4.getD 12 0)].getD i6.toNat 0))) <|
    rq (i64 (0 - i6)) <|
    rq (i_01.length+[((0 - ([(i4.getD 0 0),(i4.getD 1 0),(i4.getD 2 0),(i4.getD 3 0),(i4.getD 4 0),(i4.getD 5 0),(i4.getD 6 0),(i4.getD 7 0),(i4.getD 8 0),(i4.getD 9 0),(i4.getD 10 0),(i4.getD 11 0),(i4.getD 12 0)].getD i6.toNat 0)),(0 - i6))].length≤Zl) <|
    Znn i5 i6 (([(i4.getD 0 0),(i4.getD 1 0),(i4.getD 2 0),(i4.getD 3 0),(i4.getD 4 0),(i4.getD 5 0),(i4.getD 6 0),(i4.getD 7 0),(i4.getD 8 0),(i4.getD 9 0),(i4.getD 10 0),(i4.getD 11 0),(i4.getD 12 0)].getD i6.toNat 0),(i_01++[((0 - ([(i4.getD 0 0),(i4.getD 1 0),(i4.getD 2 0),(i4.getD 3 0),(i4.getD 4 0),(i4.getD 5 0),(i4.getD 6 0),(i4.getD 7 0),(i4.getD 8 0),(i4.getD 9 0),(i4.getD 10 0),(i4.getD 11 0),(i4.getD 12 0)].getD i6.toNat 0)),(0 - i6))]))) (
    rq (i64 (i6+(1:Int))) <|
    some (.inl (i5,(i6+(1:Int)),i_01))))) (
  up (Znm (i5,i_01)))
def Zj8:Int×(List Int)→Option (Bool×Int×(List D6_)):=fun (i3,i4)=>
 rq ((0:Int)=0∧0=0∧13≤i4.length) <|
 loop (ZfM i4) (i3,(0:Int),([]:List D6_))
def ZhD (a0:List D6_):Int×Int×(List Int)→Option ((Int×Int×(List Int))⊕(Bool×Int×(List D6_))):=fun (i,i1,i2)=>
 cond (decide (i1<(a0.length:Int))) (
  rq (0≤i1∧i1<a0.length) <|
  cond (decide ((a0.getD i1.toNat (0,0)).2<(0:Int))) (
   rq (i64 (i - (a0.getD i1.toNat (0,0)).1)) <|
   rq (i64 (0 - (a0.getD i1.toNat (0,0)).2)) <|
   rq ((0:Int)=0∧(0≤(0 - (a0.getD i1.toNat (0,0)).2)∧(0 - (a0.getD i1.toNat (0,0)).2)<13)∧13≤i2.length) <|
   rq (i64 ((i2.getD (0 - (a0.getD i1.toNat (0,0)).2).toNat 0) - (a0.getD i1.toNat (0,0)).1)) <|
   rq ((0:Int)=0∧(0≤(0 - (a0.getD i1.toNat (0,0)).2)∧(0 - (a0.getD i1.toNat (0,0)).2)<13)∧13≤i2.length) <|
   rq (i64 (i1+(1:Int))) <|
   some (.inl ((i - (a0.getD i1.toNat (0,0)).1),(i1+(1:Int)),(i2.set (0 - (a0.getD i1.toNat (0,0)).2).toNat ((i2.getD (0 - (a0.getD i1.toNat (0,0)).2).toNat 0) - (a0.getD i1.toNat (0,0)).1))))) (
   rq ((0:Int)=0∧(0≤(a0.getD i1.toNat (0,0)).2∧(a0.getD i1.toNat (0,0)).2<13)∧13≤i2.length) <|
   rq (i64 ((i2.getD (a0.getD i1.toNat (0,0)).2.toNat 0)+(a0.getD i1.toNat (0,0)).1)) <|
   rq ((0:Int)=0∧(0≤(a0.getD i1.toNat (0,0)).2∧(a0.getD i1.toNat (0,0)).2<13)∧13≤i2.length) <|
   rq (i64 (i1+(1:Int))) <|
   some (.inl (i,(i1+(1:Int)),(i2.set (a0.getD i1.toNat (0,0)).2.toNat ((i2.getD (a0.getD i1.toNat (0,0)).2.toNat 0)+(a0.getD i1.toNat (0,0)).1)))))) (
  up (Zj8 (i,i2)))
def Zhv (a0:List D6_) (a1:Int):Option (Bool×Int×(List D6_)):=
 loop (ZhD a0) (a1,(0:Int),(List.replicate 13 0))
def Zih (s1_:List Int) (s2_:List Int):Int→Option (Int⊕Bool):=fun i=>
 cond (decide (i<(s1_.length:Int))) (
  rq (0≤i∧i<s1_.length) <|
  rq (0≤i∧i<s2_.length) <|
  cond ((s1_.getD i.toNat 0) != (s2_.getD i.toNat 0)) (
   some (.inr false)) (
   rq (i64 (i+(1:Int))) <|
   some (.inl (i+(1:Int))))) (
  some (.inr true))
def Zk4 (s1_:List Int) (s2_:List Int):Option Bool:=
 cond ((s1_.length:Int) != (s2_.length:Int)) (
  some false) (
  loop (Zih s1_ s2_) (0:Int))
def ZnR (row:List Int) (o0:List Int):Option Bool:=
 (Zk4 row o0).bind fun r1_=>
 some r1_
def Zbn (s_:List (List Int)) (o0:List Int):Int→Option (Int⊕Int):=fun i=>
 cond (decide (i<(s_.length:Int))) (
  rq (0≤i∧i<s_.length) <|
  (ZnR (s_.getD i.toNat []) o0).bind fun r1_=>
  cond r1_ (
   some (.inr i)) (
   rq (i64 (i+(1:Int))) <|
   some (.inl (i+(1:Int))))) (
  some (.inr (-1:Int)))
def Zdv (s_:List (List Int)) (o0:List Int):Option Int:=
 loop (Zbn s_ o0) (0:Int)
def Zc0 (s_:List (List Int)) (o0:List Int):Option Bool:=
 (Zdv s_ o0).bind fun r1_=>
 some (decide ((0:Int)≤r1_))
def ZmU (r_:Int×(List Int)×(List Int)×Int×(List (List Int))) (vals:List Int):Int×Int→Option ((Int×Int)⊕Bool):=fun (sum,i)=>
 cond (decide (i<(vals.length:Int))) (
  rq (0≤i∧i<vals.length) <|
  rq (0≤i∧i<r_.2.2.1.length) <|
  rq (i64 ((r_.2.2.1.getD i.toNat 0)*(vals.getD i.toNat 0))) <|
  rq (i64 (sum+((r_.2.2.1.getD i.toNat 0)*(vals.getD i.toNat 0)))) <|
  rq (i64 (i+(1:Int))) <|
  some (.inl ((sum+((r_.2.2.1.getD i.toNat 0)*(vals.getD i.toNat 0))),(i+(1:Int))))) (
  some (.inr (decide (r_.2.2.2.1≤sum))))
def Zgc (vals:List Int):Int→Option (Int⊕Bool):=fun i1=>
 cond (decide (i1<(vals.length:Int))) (
  rq (0≤i1∧i1<vals.length) <|
  rq (0≤i1∧i1≤vals.length) <|
  (ZcB (vals.take i1.toNat) (vals.getD i1.toNat 0)).bind fun r1_=>
  cond r1_ (
   some (.inr false)) (
   rq (i64 (i1+(1:Int))) <|
   some (.inl (i1+(1:Int))))) (
  some (.inr true))
def Zi4 (r_:Int×(List Int)×(List Int)×Int×(List (List Int))) (vals:List Int):Option Bool:=
 cond (r_.1==(1:Int)) (
  loop (ZmU r_ vals) ((0:Int),(0:Int))) (
  cond (r_.1==(2:Int)) (
   loop (Zgc vals) (0:Int)) (
   cond (r_.1==(3:Int)) (
    (Zc0 r_.2.2.2.2 vals).bind fun r2_=>
    some r2_) (
    rq (0≤(0:Int)∧(0:Int)<vals.length) <|
    rq (0≤(1:Int)∧(1:Int)<vals.length) <|
    some (decide ((vals.getD (0:Int).toNat 0)<(vals.getD (1:Int).toNat 0))))))
def Zcv (o4:List D7_):(List Int)→Option (Bool×(List D7_)):=fun lits1=>
 (ZiO lits1).bind fun r5_=>
 rq (o4.length+[(r5_.2.2,r5_.2.1)].length≤Zl) <|
 some (true,(o4++[(r5_.2.2,r5_.2.1)]))
def Zcw (o0:Int×(List Int)×(List Int)×Int×(List (List Int))) (o1:(List Int)×(List D5_)) (vals:List Int) (o4:List D7_):Int×(List Int)→Option ((Int×(List Int))⊕(Bool×(List D7_))):=fun (i,lits)=>
 cond (decide (i<(o0.2.1.length:Int))) (
  rq (0≤i∧i<o0.2.1.length) <|
  rq (0≤i∧i<vals.length) <|
  (Zdy o1 (o0.2.1.getD i.toNat 0) (vals.getD i.toNat 0)).bind fun r4_=>
  rq (i64 (0 - r4_)) <|
  rq (lits.length+[(0 - r4_)].length≤Zl) <|
  rq (i64 (i+(1:Int))) <|
  some (.inl ((i+(1:Int)),(lits++[(0 - r4_)])))) (
  up (Zcv o4 lits))
def ZdZ (o0:Int×(List Int)×(List Int)×Int×(List (List Int))) (o1:(List Int)×(List D5_)) (vals:List Int) (o4:List D7_):Option (Bool×(List D7_)):=
 (Zi4 o0 vals).bind fun r1_=>
 cond (!r1_) (
  loop (Zcw o0 o1 vals o4) ((0:Int),([]:List Int))) (
  some (true,o4))
def Zb2 (r3_:Bool×(List D7_)):Int×(List Int)→Option (((List Int)×(List D7_))⊕(List D7_)):=fun (i3,cells4)=>
 cond (decide (i3<(0:Int))) (
  some (.inr r3_.2)) (
  rq (0≤i3∧i3<cells4.length) <|
  rq (i64 ((cells4.getD i3.toNat 0)+(1:Int))) <|
  rq (0≤i3∧i3<cells4.length) <|
  some (.inl ((cells4.set i3.toNat ((cells4.getD i3.toNat 0)+(1:Int))),r3_.2)))
def Zc6 (sizes:List Int) (r3_:Bool×(List D7_)):Int×(List Int)→Option ((Int×(List Int))⊕(((List Int)×(List D7_))⊕(List D7_))):=fun (i2,cells3)=>
 cond (decide ((0:Int)≤i2)) (
  rq (0≤i2∧i2<cells3.length) <|
  rq (0≤i2∧i2<sizes.length) <|
  cond ((cells3.getD i2.toNat 0)==(sizes.getD i2.toNat 0)) (
   rq (0≤i2∧i2<cells3.length) <|
   rq (i64 (i2 - (1:Int))) <|
   some (.inl ((i2 - (1:Int)),(cells3.set i2.toNat (0:Int))))) (
   up (Zb2 r3_ (i2,cells3)))) (
  up (Zb2 r3_ (i2,cells3)))
def Zb3 (sizes:List Int) (o0:Int×(List Int)×(List Int)×Int×(List (List Int))) (o1:(List Int)×(List D5_)):(List Int)×(List D7_)→Option (((List Int)×(List D7_))⊕(List D7_)):=fun (cells2,cap)=>
 (ZdZ o0 o1 cells2 cap).bind fun r3_=>
 cond r3_.1 (
  rq (i64 ((cells2.length:Int) - (1:Int))) <|
  loop (Zc6 sizes r3_) (((cells2.length:Int) - (1:Int)),cells2)) (
  some (.inr r3_.2))
def Zcq (sizes:List Int) (from_:List Int) (o0:Int×(List Int)×(List Int)×Int×(List (List Int))) (o1:(List Int)×(List D5_)):Option (List D7_):=
 (Zbu from_).bind fun r1_=>
 loop (Zb3 sizes o0 o1) (r1_,([]:List D7_))
def Zfd (a1:Int×(List Int)×(List Int)×Int×(List (List Int))):(List D6_)→Option (List D7_):=fun i6=>
 (Zhv i6 a1.2.2.2.1).bind fun r6_=>
 some [(r6_.2.2,r6_.2.1)]
def Zdk (a0:(List Int)×(List D5_)) (a1:Int×(List Int)×(List Int)×Int×(List (List Int))) (i:Int):Int×(List D6_)→Option ((Int×(List D6_))⊕((Int×(List D6_))⊕(List D7_))):=fun (i4,i5)=>
 cond (decide (i4<((a0.1.getD (a1.2.1.getD i.toNat 0).toNat 0)+(1:Int)))) (
  rq (0≤i∧i<a1.2.2.1.length) <|
  rq (i64 ((a1.2.2.1.getD i.toNat 0)*i4)) <|
  (Zdy a0 (a1.2.1.getD i.toNat 0) i4).bind fun r5_=>
  rq (i5.length+[(((a1.2.2.1.getD i.toNat 0)*i4),r5_)].length≤Zl) <|
  rq (i64 (i4+(1:Int))) <|
  some (.inl ((i4+(1:Int)),(i5++[(((a1.2.2.1.getD i.toNat 0)*i4),r5_)])))) (
  rq (i64 (i+(1:Int))) <|
  some (.inr (.inl ((i+(1:Int)),i5))))
def ZhQ (a0:(List Int)×(List D5_)) (a1:Int×(List Int)×(List Int)×Int×(List (List Int))):Int×(List D6_)→Option ((Int×(List D6_))⊕(List D7_)):=fun (i,i3)=>
 cond (decide (i<(a1.2.1.length:Int))) (
  rq (0≤i∧i<a1.2.1.length) <|
  rq (0≤(a1.2.1.getD i.toNat 0)∧(a1.2.1.getD i.toNat 0)<a0.1.length) <|
  rq (i64 ((a0.1.getD (a1.2.1.getD i.toNat 0).toNat 0)+(1:Int))) <|
  loop (Zdk a0 a1 i) ((0:Int),i3)) (
  up (Zfd a1 i3))
def Zea (i7:Int) (i11:List D7_):(List Int)→Option ((Int×(List D7_))⊕(List D7_)):=fun i14=>
 cond (decide ((1:Int)<(i14.length:Int))) (
  (ZFf i14).bind fun r14_=>
  (Zj7 r14_).bind fun r15_=>
  rq (i11.length+[(r15_.2,r15_.1)].length≤Zl) <|
  rq (i64 (i7+(1:Int))) <|
  some (.inl ((i7+(1:Int)),(i11++[(r15_.2,r15_.1)])))) (
  rq (i64 (i7+(1:Int))) <|
  some (.inl ((i7+(1:Int)),i11)))
def Zec (a0:(List Int)×(List D5_)) (a1:Int×(List Int)×(List Int)×Int×(List (List Int))) (i7:Int) (i11:List D7_):Int×(List Int)→Option ((Int×(List Int))⊕((Int×(List D7_))⊕(List D7_))):=fun (i12,i13)=>
 cond (decide (i12<(a1.2.1.length:Int))) (
  rq (0≤i12∧i12<a1.2.1.length) <|
  rq (0≤(a1.2.1.getD i12.toNat 0)∧(a1.2.1.getD i12.toNat 0)<a0.1.length) <|
  cond (decide (i7≤(a0.1.getD (a1.2.1.getD i12.toNat 0).toNat 0))) (
   (Zdy a0 (a1.2.1.getD i12.toNat 0) i7).bind fun r13_=>
   rq (i13.length+[r13_].length≤Zl) <|
   rq (i64 (i12+(1:Int))) <|
   some (.inl ((i12+(1:Int)),(i13++[r13_])))) (
   rq (i64 (i12+(1:Int))) <|
   some (.inl ((i12+(1:Int)),i13)))) (
  up (Zea i7 i11 i13))
def ZhR (a0:(List Int)×(List D5_)) (a1:Int×(List Int)×(List Int)×Int×(List (List Int))):Int×(List D7_)→Option ((Int×(List D7_))⊕(List D7_)):=fun (i7,i11)=>
 cond (decide (i7<(4:Int))) (
  loop (Zec a0 a1 i7 i11) ((0:Int),([]:List Int))) (
  some (.inr i11))
def Zeb (a0:(List Int)×(List D5_)) (a1:Int×(List Int)×(List Int)×Int×(List (List Int))):(List Int)→Option (List D7_):=fun i17=>
 rq (0≤(i17.length:Int)∧(i17.length:Int)≤Zl∧(i17.length:Int)=(i17.length:Int)) <|
 (Zcq i17 (List.replicate (i17.length:Int).toNat 0) a1 a0).bind fun r16_=>
 some r16_
def Zed (a0:(List Int)×(List D5_)) (a1:Int×(List Int)×(List Int)×Int×(List (List Int))):Int×(List Int)→Option ((Int×(List Int))⊕(List D7_)):=fun (i15,i16)=>
 cond (decide (i15<(a1.2.1.length:Int))) (
  rq (0≤i15∧i15<a1.2.1.length) <|
  rq (0≤(a1.2.1.getD i15.toNat 0)∧(a1.2.1.getD i15.toNat 0)<a0.1.length) <|
  rq (i16.length+[(a0.1.getD (a1.2.1.getD i15.toNat 0).toNat 0)].length≤Zl) <|
  rq (i64 (i15+(1:Int))) <|
  some (.inl ((i15+(1:Int)),(i16++[(a0.1.getD (a1.2.1.getD i15.toNat 0).toNat 0)])))) (
  up (Zeb a0 a1 i16))
def Zb8 (a0:(List Int)×(List D5_)) (a1:Int×(List Int)×(List Int)×Int×(List (List Int))):Option (List D7_):=
 cond (a1.1==(1:Int)) (
  loop (ZhQ a0 a1) ((0:Int),([]:List D6_))) (
  cond (a1.1==(2:Int)) (
   loop (ZhR a0 a1) ((0:Int),([]:List D7_))) (
   loop (Zed a0 a1) ((0:Int),([]:List Int))))
def Zic:(List D7_)→Option (Bool×(List D7_)):=fun out3=>
 cond (decide ((400:Int)<(out3.length:Int))) (
  some (false,([]:List D7_))) (
  some (true,out3))
def Zid (m:(List Int)×(List D5_)):Int×(List D7_)→Option ((Int×(List D7_))⊕(Bool×(List D7_))):=fun (i1,out2)=>
 cond (decide (i1<(m.2.length:Int))) (
  rq (0≤i1∧i1<m.2.length) <|
  (Zb8 m (m.2.getD i1.toNat (0,([],([],(0,[])))))).bind fun r10_=>
  rq (out2.length+r10_.length≤Zl) <|
  rq (i64 (i1+(1:Int))) <|
  some (.inl ((i1+(1:Int)),(out2++r10_)))) (
  up (Zic out2))
def Zib (m:(List Int)×(List D5_)):(List D7_)→Option (Bool×(List D7_)):=fun out1=>
 loop (Zid m) ((0:Int),out1)
def Zie (m:(List Int)×(List D5_)):Int×(List D7_)→Option ((Int×(List D7_))⊕(Bool×(List D7_))):=fun (i,out)=>
 cond (decide (i<(m.1.length:Int))) (
  (ZgN m i).bind fun r6_=>
  (ZiO r6_).bind fun r7_=>
  (Zj7 r6_).bind fun r8_=>
  rq (out.length+[(r7_.2.2,r7_.2.1),(r8_.2,r8_.1)].length≤Zl) <|
  rq (i64 (i+(1:Int))) <|
  some (.inl ((i+(1:Int)),(out++[(r7_.2.2,r7_.2.1),(r8_.2,r8_.1)])))) (
  up (Zib m out))
def ZkS (m:(List Int)×(List D5_)):Option (Bool×(List D7_)):=
 (ZeB m).bind fun r1_=>
 cond (!r1_) (
  some (false,([]:List D7_))) (
  loop (Zie m) ((0:Int),([]:List D7_)))
def ZmV (m:(List Int)×(List D5_)):Option (Bool×(List D7_)):=
 (ZkS m).bind fun r1_=>
 cond r1_.1 (
  some ((decide ((r1_.2.length:Int)<(400:Int))),r1_.2)) (
  some (false,r1_.2))
def ZmW (n:Int):Option Bool:=
 (ZbG n (-9:Int) (9:Int)).bind fun r1_=>
 some (!r1_)
def Zbq (s_:List Int):Int→Option (Int⊕Int):=fun i=>
 cond (decide (i<(s_.length:Int))) (
  rq (0≤i∧i<s_.length) <|
  (ZmW (s_.getD i.toNat 0)).bind fun r1_=>
  cond r1_ (
   some (.inr i)) (
   rq (i64 (i+(1:Int))) <|
   some (.inl (i+(1:Int))))) (
  some (.inr (-1:Int)))
def ZdB (s_:List Int):Option Int:=
 loop (Zbq s_) (0:Int)
def Zc8 (s_:List Int):Option Bool:=
 (ZdB s_).bind fun r1_=>
 some (decide ((0:Int)≤r1_))
def Zee (m:(List Int)×(List D5_)) (coefs:List Int):Option Bool:=
 cond ((coefs.length:Int)==(m.1.length:Int)) (
  (Zc8 coefs).bind fun r1_=>
  some (!r1_)) (
  some false)
def Zol (fuel:Int):Option Bool:=
 (ZbG fuel (0:Int) (2000:Int)).bind fun r1_=>
 some r1_
def ZpY (c_:(List D6_)×Int):Option Bool:=
 (Z6 c_).bind fun r1_=>
 some (!r1_)
def Z3 (s_:List D7_):Int→Option (Int⊕Int):=fun i=>
 cond (decide (i<(s_.length:Int))) (
  rq (0≤i∧i<s_.length) <|
  (ZpY (s_.getD i.toNat ([],0))).bind fun r1_=>
  cond r1_ (
   some (.inr i)) (
   rq (i64 (i+(1:Int))) <|
   some (.inl (i+(1:Int))))) (
  some (.inr (-1:Int)))
def Zcy (s_:List D7_):Option Int:=
 loop (Z3 s_) (0:Int)
def Zcf (s_:List D7_):Option Bool:=
 (Zcy s_).bind fun r1_=>
 some (decide ((0:Int)≤r1_))
def Zsb (list_:List D7_):Option Bool:=
 (Zcf list_).bind fun r1_=>
 some (!r1_)
def ZgO (list_:List D7_):Option Bool:=
 cond (decide ((list_.length:Int)≤(400:Int))) (
  (Zsb list_).bind fun r1_=>
  some r1_) (
  some false)
def Zbi (s_:List D7_):Option (List D7_):=
 nt (s_=[]) (
  some ([]:List D7_)) (
  rq (([]:List D7_).length+s_.length≤Zl) <|
  some (([]:List D7_)++s_))
def ZpZ (l:Int) (p:List Int):Option Int:=
 cond (decide (l<(0:Int))) (
  rq (i64 (0 - l)) <|
  rq (i64 ((0 - l) - (1:Int))) <|
  rq (0≤((0 - l) - (1:Int))∧((0 - l) - (1:Int))<p.length) <|
  rq (i64 (0 - (p.getD ((0 - l) - (1:Int)).toNat 0))) <|
  some (0 - (p.getD ((0 - l) - (1:Int)).toNat 0))) (
  rq (i64 (l - (1:Int))) <|
  rq (0≤(l - (1:Int))∧(l - (1:Int))<p.length) <|
  some (p.getD (l - (1:Int)).toNat 0))
def Zfb (c_:(List D6_)×Int) (p:List Int):Int×Int→Option ((Int×Int)⊕Int):=fun (out,i)=>
 cond (decide (i<(c_.1.length:Int))) (
  rq (0≤i∧i<c_.1.length) <|
  (ZpZ (c_.1.getD i.toNat (0,0)).2 p).bind fun r1_=>
  cond (decide ((0:Int)≤r1_)) (
   rq (i64 (out+(c_.1.getD i.toNat (0,0)).1)) <|
   rq (i64 (i+(1:Int))) <|
   some (.inl ((out+(c_.1.getD i.toNat (0,0)).1),(i+(1:Int))))) (
   rq (i64 (i+(1:Int))) <|
   some (.inl (out,(i+(1:Int)))))) (
  some (.inr out))
def ZeV (c_:(List D6_)×Int) (p:List Int):Option Int:=
 rq (i64 (0 - c_.2)) <|
 loop (Zfb c_ p) ((0 - c_.2),(0:Int))
def Zce (c_:(List D6_)×Int) (p:List Int) (r1_:Int):Int×(List Int)→Option ((Int×(List Int))⊕(List Int)):=fun (i,out)=>
 cond (decide (i<(c_.1.length:Int))) (
  rq (0≤i∧i<c_.1.length) <|
  (ZpZ (c_.1.getD i.toNat (0,0)).2 p).bind fun r3_=>
  cond (r3_==(0:Int)) (
   cond (decide (r1_<(c_.1.getD i.toNat (0,0)).1)) (
    rq (out.length+[(c_.1.getD i.toNat (0,0)).2].length≤Zl) <|
    rq (i64 (i+(1:Int))) <|
    some (.inl ((i+(1:Int)),(out++[(c_.1.getD i.toNat (0,0)).2])))) (
    rq (i64 (i+(1:Int))) <|
    some (.inl ((i+(1:Int)),out)))) (
   rq (i64 (i+(1:Int))) <|
   some (.inl ((i+(1:Int)),out)))) (
  some (.inr out))
def Zcg (c_:(List D6_)×Int) (p:List Int):Option (List Int):=
 (ZeV c_ p).bind fun r1_=>
 loop (Zce c_ p r1_) ((0:Int),([]:List Int))
def ZcI (i3:Int) (r9_:(List Int)):Bool×Int×(List Int)→Option ((Bool×Int×(List Int))⊕((Bool×Int×(List Int))⊕((Bool×(List Int))⊕(Int×(List Int))))):=fun (made6,i5,out6)=>
 cond (decide (i5<(r9_.length:Int))) (
  rq (0≤i5∧i5<r9_.length) <|
  cond (decide ((0:Int)<(r9_.getD i5.toNat 0))) (
   rq (i64 ((r9_.getD i5.toNat 0) - (1:Int))) <|
   rq (0≤((r9_.getD i5.toNat 0) - (1:Int))∧((r9_.getD i5.toNat 0) - (1:Int))<out6.length) <|
   rq (i64 (i5+(1:Int))) <|
   some (.inl (true,(i5+(1:Int)),(out6.set ((r9_.getD i5.toNat 0) - (1:Int)).toNat (1:Int))))) (
   rq (i64 (0 - (r9_.getD i5.toNat 0))) <|
   rq (i64 ((0 - (r9_.getD i5.toNat 0)) - (1:Int))) <|
   rq (0≤((0 - (r9_.getD i5.toNat 0)) - (1:Int))∧((0 - (r9_.getD i5.toNat 0)) - (1:Int))<out6.length) <|
   rq (i64 (i5+(1:Int))) <|
   some (.inl (true,(i5+(1:Int)),(out6.set ((0 - (r9_.getD i5.toNat 0)) - (1:Int)).toNat (-1:Int)))))) (
  rq (i64 (i3+(1:Int))) <|
  some (.inr (.inl (made6,(i3+(1:Int)),out6))))
def ZbP (list_:List D7_):Bool×Int×(List Int)→Option ((Bool×Int×(List Int))⊕((Bool×(List Int))⊕(Int×(List Int)))):=fun (made4,i3,out5)=>
 cond (decide (i3<(list_.length:Int))) (
  rq (0≤i3∧i3<list_.length) <|
  (ZeV (list_.getD i3.toNat ([],0)) out5).bind fun r8_=>
  cond (decide (r8_<(0:Int))) (
   some (.inr (.inr (i3,out5)))) (
   (Zcg (list_.getD i3.toNat ([],0)) out5).bind fun r9_=>
   loop (ZcI i3 r9_) (made4,(0:Int),out5))) (
  some (.inr (.inl (made4,out5))))
def ZcH (list_:List D7_):Bool×(List Int)→Option ((Bool×(List Int))⊕(Int×(List Int))):=fun (made,out3)=>
 cond made (
  loop (ZbP list_) (false,(0:Int),out3)) (
  some (.inr ((-1:Int),out3)))
def ZbO (list_:List D7_) (p:List Int):Option (Int×(List Int)):=
 (Zbu p).bind fun r1_=>
 loop (ZcH list_) (true,r1_)
def ZkY:(List Bool)→Option (Int×Bool×(List Bool)):=fun out1=>
 some ((0:Int),true,out1)
def ZhT (p:List Int):Int×(List Bool)→Option ((Int×(List Bool))⊕(Int×Bool×(List Bool))):=fun (i,out)=>
 cond (decide (i<(p.length:Int))) (
  rq (0≤i∧i<p.length) <|
  cond ((p.getD i.toNat 0)==(0:Int)) (
   rq (i64 (i+(1:Int))) <|
   some (.inr ((i+(1:Int)),false,([]:List Bool)))) (
   rq (out.length+[(decide ((0:Int)<(p.getD i.toNat 0)))].length≤Zl) <|
   rq (i64 (i+(1:Int))) <|
   some (.inl ((i+(1:Int)),(out++[(decide ((0:Int)<(p.getD i.toNat 0)))]))))) (
  up (ZkY out))
def ZgE (p:List Int):Option (Int×Bool×(List Bool)):=
 loop (ZhT p) ((0:Int),([]:List Bool))
def ZfX (s_:List D6_):Option (List D6_):=
 nt (s_=[]) (
  some ([]:List D6_)) (
  rq (([]:List D6_).length+s_.length≤Zl) <|
  some (([]:List D6_)++s_))
def ZeG (c_:(List D6_)×Int):Option (Int×(List D6_)):=
 (ZfX c_.1).bind fun r1_=>
 some (c_.2,r1_)
def ZeD (o1:List D7_) (o2:List Zw) (r1_:Bool×Int×(List D6_)):Unit→Option ((List D7_)×(List Zw)):=fun _=>
 (ZeG (r1_.2.2,r1_.2.1)).bind fun r3_=>
 rq (o2.length+[((7:Int),((0:Int),((0:Int),(r3_.2,r3_.1))))].length≤Zl) <|
 some ((o1++[(r1_.2.2,r1_.2.1)]),(o2++[((7:Int),((0:Int),((0:Int),(r3_.2,r3_.1))))]))
def ZeC (o1:List D7_) (o2:List Zw):(List Int)→Option ((List D7_)×(List Zw)):=fun lits1=>
 (ZiO lits1).bind fun r1_=>
 rq (o1.length+[(r1_.2.2,r1_.2.1)].length≤Zl) <|
 ZeD o1 o2 r1_ ()
def ZbF (decisions:List Int) (o1:List D7_) (o2:List Zw):Int×(List Int)→Option ((Int×(List Int))⊕((List D7_)×(List Zw))):=fun (i,lits)=>
 cond (decide (i<(decisions.length:Int))) (
  rq (0≤i∧i<decisions.length) <|
  rq (i64 (0 - (decisions.getD i.toNat 0))) <|
  rq (lits.length+[(0 - (decisions.getD i.toNat 0))].length≤Zl) <|
  rq (i64 (i+(1:Int))) <|
  some (.inl ((i+(1:Int)),(lits++[(0 - (decisions.getD i.toNat 0))])))) (
  up (ZeC o1 o2 lits))
def ZcA (decisions:List Int) (s_1:Int) (s_3:Bool) (o1:List D7_) (o2:List Zw):Option ((List D7_)×(List Zw)):=
 loop (ZbF decisions o1 o2) ((0:Int),([]:List Int))
def Zbg (a1:List Int):Int×Bool×(List D7_)×(List Zw)→Option (Bool×Int×Bool×(List Bool)×(List D7_)×(List Zw)):=fun (i_12,i_32,i_02,i_22)=>
 (ZcA a1 i_12 i_32 i_02 i_22).bind fun r9_=>
 some (false,i_12,i_32,([]:List Bool),r9_.1,r9_.2)
def Zdl (a1:List Int):Int×Bool×(List D7_)×(List Zw)→Option (Bool×Int×Bool×(List Bool)×(List D7_)×(List Zw)):=fun (i_11,i_31,i_01,i_21)=>
 cond (decide ((1000:Int)≤(i_21.length:Int))) (
  some (false,i_11,true,([]:List Bool),i_01,i_21)) (
  Zbg a1 (i_11,i_31,i_01,i_21))
def Zbz (a1:List Int) (r4_:Int×Bool×(List Bool)) (rec_:(List Int)→Int→Bool→(List D7_)→(List Zw)→Option (Bool×Int×Bool×(List Bool)×(List D7_)×(List Zw))):Int×Int×Bool×(List D7_)×(List Zw)→Option ((Int×Int×Bool×(List D7_)×(List Zw))⊕(Bool×Int×Bool×(List Bool)×(List D7_)×(List Zw))):=fun (i3,i_1,i_3,i_0,i_2)=>
 cond (decide (i3<([r4_.1,(0 - r4_.1)].length:Int))) (
  rq (0≤i3∧i3 < [r4_.1,(0 - r4_.1)].length) <|
  (Zbu a1).bind fun r7_=>
  rq (r7_.length+[([r4_.1,(0 - r4_.1)].getD i3.toNat 0)].length≤Zl) <|
  (rec_ (r7_++[([r4_.1,(0 - r4_.1)].getD i3.toNat 0)]) i_1 i_3 i_0 i_2).bind fun r8_=>
  cond r8_.1 (
   some (.inr (r8_.1,r8_.2.1,r8_.2.2.1,r8_.2.2.2.1,r8_.2.2.2.2.1,r8_.2.2.2.2.2))) (
   cond r8_.2.2.1 (
    some (.inr (r8_.1,r8_.2.1,r8_.2.2.1,r8_.2.2.2.1,r8_.2.2.2.2.1,r8_.2.2.2.2.2))) (
    rq (i64 (i3+(1:Int))) <|
    some (.inl ((i3+(1:Int)),r8_.2.1,r8_.2.2.1,r8_.2.2.2.2.1,r8_.2.2.2.2.2))))) (
  up (Zdl a1 (i_1,i_3,i_0,i_2)))
def ZW (a1:List Int) (o0_1:Int) (o0_3:Bool) (o1:List D7_) (o2:List Zw) (rec_:(List Int)→Int→Bool→(List D7_)→(List Zw)→Option (Bool×Int×Bool×(List Bool)×(List D7_)×(List Zw))):(List Int)→Option (Bool×Int×Bool×(List Bool)×(List D7_)×(List Zw)):=fun i2=>
 (ZbO o1 i2).bind fun r3_=>
 cond (decide (r3_.1<(0:Int))) (
  (ZgE r3_.2).bind fun r4_=>
  cond r4_.2.1 (
   some (true,(o0_1 - (1:Int)),o0_3,r4_.2.2,o1,o2)) (
   rq (i64 (0 - r4_.1)) <|
   loop (Zbz a1 r4_ rec_) ((0:Int),(o0_1 - (1:Int)),o0_3,o1,o2))) (
  Zbg a1 ((o0_1 - (1:Int)),o0_3,o1,o2))
def Zbh (a1:List Int) (o0_1:Int) (o0_3:Bool) (o1:List D7_) (o2:List Zw) (rec_:(List Int)→Int→Bool→(List D7_)→(List Zw)→Option (Bool×Int×Bool×(List Bool)×(List D7_)×(List Zw))):Int×(List Int)→Option ((Int×(List Int))⊕(Bool×Int×Bool×(List Bool)×(List D7_)×(List Zw))):=fun (i,i1)=>
 cond (decide (i<(a1.length:Int))) (
  rq (0≤i∧i<a1.length) <|
  (Zdr (a1.getD i.toNat 0)).bind fun r2_=>
  rq (i64 (r2_ - (1:Int))) <|
  rq (0≤(r2_ - (1:Int))∧(r2_ - (1:Int))<i1.length) <|
  cond (decide ((a1.getD i.toNat 0)<(0:Int))) (
   rq (i64 (0 - (a1.getD i.toNat 0))) <|
   rq (i64 ((0 - (a1.getD i.toNat 0)) - (1:Int))) <|
   rq (0≤((0 - (a1.getD i.toNat 0)) - (1:Int))∧((0 - (a1.getD i.toNat 0)) - (1:Int))<(i1.set (r2_ - (1:Int)).toNat (1:Int)).length) <|
   rq (i64 (i+(1:Int))) <|
   some (.inl ((i+(1:Int)),((i1.set (r2_ - (1:Int)).toNat (1:Int)).set ((0 - (a1.getD i.toNat 0)) - (1:Int)).toNat (-1:Int))))) (
   rq (i64 (i+(1:Int))) <|
   some (.inl ((i+(1:Int)),(i1.set (r2_ - (1:Int)).toNat (1:Int)))))) (
  up (ZW a1 o0_1 o0_3 o1 o2 rec_ i1))
def ZM (rec_:(List Int)→Int→Bool→(List D7_)→(List Zw)→Option (Bool×Int×Bool×(List Bool)×(List D7_)×(List Zw))) (a1:List Int) (o0_1:Int) (o0_3:Bool) (o1:List D7_) (o2:List Zw):Option (Bool×Int×Bool×(List Bool)×(List D7_)×(List Zw)):=
 cond (o0_1==(0:Int)) (
  some (false,o0_1,true,([]:List Bool),o1,o2)) (
  cond (decide ((1000:Int)≤(o2.length:Int))) (
   some (false,o0_1,true,([]:List Bool),o1,o2)) (
   rq (i64 (o0_1 - (1:Int))) <|
   rq (0≤(12:Int)∧(12:Int)≤Zl∧(12:Int)=(12:Int)) <|
   loop (Zbh a1 o0_1 o0_3 o1 o2 rec_) ((0:Int),(List.replicate (12:Int).toNat 0))))
def ZC:Nat→(List Int)→Int→Bool→(List D7_)→(List Zw)→Option (Bool×Int×Bool×(List Bool)×(List D7_)×(List Zw))
  |0=>fun _ _ _ _ _=>none
  |n_+1=>ZM (ZC n_)
def ZfN (a1:List Int):Int×Bool×(List D7_)×(List Zw)→Option (Bool×Int×Bool×(List Bool)×(List D7_)×(List Zw)):=fun (i_12,i_32,i_02,i_22)=>
 (ZcA a1 i_12 i_32 i_02 i_22).bind fun r9_=>
 some (false,i_12,i_32,([]:List Bool),r9_.1,r9_.2)
def Zj9 (a1:List Int):Int×Bool×(List D7_)×(List Zw)→Option (Bool×Int×Bool×(List Bool)×(List D7_)×(List Zw)):=fun (i_11,i_31,i_01,i_21)=>
 cond (decide ((1000:Int)≤(i_21.length:Int))) (
  some (false,i_11,true,([]:List Bool),i_01,i_21)) (
  ZfN a1 (i_11,i_31,i_01,i_21))
def ZfO (a1:List Int) (r4_:Int×Bool×(List Bool)):Int×Int×Bool×(List D7_)×(List Zw)→Option ((Int×Int×Bool×(List D7_)×(List Zw))⊕(Bool×Int×Bool×(List Bool)×(List D7_)×(List Zw))):=fun (i3,i_1,i_3,i_0,i_2)=>
 cond (decide (i3<([r4_.1,(0 - r4_.1)].length:Int))) (
  rq (0≤i3∧i3 < [r4_.1,(0 - r4_.1)].length) <|
  (Zbu a1).bind fun r7_=>
  rq (r7_.length+[([r4_.1,(0 - r4_.1)].getD i3.toNat 0)].length≤Zl) <|
  (ZC 64 (r7_++[([r4_.1,(0 - r4_.1)].getD i3.toNat 0)]) i_1 i_3 i_0 i_2).bind fun r8_=>
  cond r8_.1 (
   some (.inr (r8_.1,r8_.2.1,r8_.2.2.1,r8_.2.2.2.1,r8_.2.2.2.2.1,r8_.2.2.2.2.2))) (
   cond r8_.2.2.1 (
    some (.inr (r8_.1,r8_.2.1,r8_.2.2.1,r8_.2.2.2.1,r8_.2.2.2.2.1,r8_.2.2.2.2.2))) (
    rq (i64 (i3+(1:Int))) <|
    some (.inl ((i3+(1:Int)),r8_.2.1,r8_.2.2.1,r8_.2.2.2.2.1,r8_.2.2.2.2.2))))) (
  up (Zj9 a1 (i_1,i_3,i_0,i_2)))
def Zeo (a1:List Int) (o0_1:Int) (o0_3:Bool) (o1:List D7_):(List Int)→Option (Bool×Int×Bool×(List Bool)×(List D7_)×(List Zw)):=fun i2=>
 (ZbO o1 i2).bind fun r3_=>
 cond (decide (r3_.1<(0:Int))) (
  (ZgE r3_.2).bind fun r4_=>
  cond r4_.2.1 (
   some (true,(o0_1 - (1:Int)),o0_3,r4_.2.2,o1,([]:List Zw))) (
   rq (i64 (0 - r4_.1)) <|
   loop (ZfO a1 r4_) ((0:Int),(o0_1 - (1:Int)),o0_3,o1,([]:List Zw)))) (
  ZfN a1 ((o0_1 - (1:Int)),o0_3,o1,([]:List Zw)))
def Zep (a1:List Int) (o0_1:Int) (o0_3:Bool) (o1:List D7_):Int×(List Int)→Option ((Int×(List Int))⊕(Bool×Int×Bool×(List Bool)×(List D7_)×(List Zw))):=fun (i,i1)=>
 cond (decide (i<(a1.length:Int))) (
  rq (0≤i∧i<a1.length) <|
  (Zdr (a1.getD i.toNat 0)).bind fun r2_=>
  rq (i64 (r2_ - (1:Int))) <|
  rq (0≤(r2_ - (1:Int))∧(r2_ - (1:Int))<i1.length) <|
  cond (decide ((a1.getD i.toNat 0)<(0:Int))) (
   rq (i64 (0 - (a1.getD i.toNat 0))) <|
   rq (i64 ((0 - (a1.getD i.toNat 0)) - (1:Int))) <|
   rq (0≤((0 - (a1.getD i.toNat 0)) - (1:Int))∧((0 - (a1.getD i.toNat 0)) - (1:Int))<(i1.set (r2_ - (1:Int)).toNat (1:Int)).length) <|
   rq (i64 (i+(1:Int))) <|
   some (.inl ((i+(1:Int)),((i1.set (r2_ - (1:Int)).toNat (1:Int)).set ((0 - (a1.getD i.toNat 0)) - (1:Int)).toNat (-1:Int))))) (
   rq (i64 (i+(1:Int))) <|
   some (.inl ((i+(1:Int)),(i1.set (r2_ - (1:Int)).toNat (1:Int)))))) (
  up (Zeo a1 o0_1 o0_3 o1 i1))
def Zd6 (rec_:(List Int)→Int→Bool→(List D7_)→Option (Bool×Int×Bool×(List Bool)×(List D7_)×(List Zw))) (a1:List Int) (o0_1:Int) (o0_3:Bool) (o1:List D7_):Option (Bool×Int×Bool×(List Bool)×(List D7_)×(List Zw)):=
 cond (o0_1==(0:Int)) (
  some (false,o0_1,true,([]:List Bool),o1,([]:List Zw))) (
  cond (decide ((1000:Int)≤(0:Int))) (
   some (false,o0_1,true,([]:List Bool),o1,([]:List Zw))) (
   rq (i64 (o0_1 - (1:Int))) <|
   rq (0≤(12:Int)∧(12:Int)≤Zl∧(12:Int)=(12:Int)) <|
   loop (Zep a1 o0_1 o0_3 o1) ((0:Int),(List.replicate (12:Int).toNat 0))))
def ZbW:Nat→(List Int)→Int→Bool→(List D7_)→Option (Bool×Int×Bool×(List Bool)×(List D7_)×(List Zw))
  |0=>fun _ _ _ _=>none
  |n_+1=>Zd6 (ZbW n_)
def ZcG (list_:List D7_) (fuel:Int):Option (Int×(List Bool)×(List Zw)):=
 (ZgO list_).bind fun r1_=>
 cond (!r1_) (
  some ((3:Int),([]:List Bool),([]:List Zw))) (
  (Zol fuel).bind fun r2_=>
  cond (!r2_) (
   some ((3:Int),([]:List Bool),([]:List Zw))) (
   (Zbi list_).bind fun r3_=>
   (ZbW 64 ([]:List Int) fuel false r3_).bind fun r4_=>
   cond r4_.1 (
    some ((1:Int),r4_.2.2.2.1,([]:List Zw))) (
    cond r4_.2.2.1 (
     some ((0:Int),([]:List Bool),([]:List Zw))) (
     some ((2:Int),([]:List Bool),r4_.2.2.2.2.2)))))
def ZkR (i:Int):Int×(List Int)→Option ((Int×(List Int))⊕(Bool×(List Int))):=fun (count3,out4)=>
 cond (count3 != (1:Int)) (
  some (.inr (false,([]:List Int)))) (
  rq (i64 (i+(1:Int))) <|
  some (.inl ((i+(1:Int)),out4)))
def Zha (values:List Bool) (i:Int) (r3_:(List Int)):Int×Int×(List Int)→Option ((Int×Int×(List Int))⊕((Int×(List Int))⊕(Bool×(List Int)))):=fun (count2,i2,out3)=>
 cond (decide (i2<(r3_.length:Int))) (
  rq (0≤i2∧i2<r3_.length) <|
  rq (i64 ((r3_.getD i2.toNat 0) - (1:Int))) <|
  rq (0≤((r3_.getD i2.toNat 0) - (1:Int))∧((r3_.getD i2.toNat 0) - (1:Int))<values.length) <|
  cond (values.getD ((r3_.getD i2.toNat 0) - (1:Int)).toNat false) (
   rq (out3.length+[i2].length≤Zl) <|
   rq (i64 (count2+(1:Int))) <|
   rq (i64 (i2+(1:Int))) <|
   some (.inl ((count2+(1:Int)),(i2+(1:Int)),(out3++[i2])))) (
   rq (i64 (i2+(1:Int))) <|
   some (.inl (count2,(i2+(1:Int)),out3)))) (
  up (ZkR i (count2,out3)))
def Zg9 (m:(List Int)×(List D5_)) (values:List Bool):Int×(List Int)→Option ((Int×(List Int))⊕(Bool×(List Int))):=fun (i,out2)=>
 cond (decide (i<(m.1.length:Int))) (
  (ZgN m i).bind fun r3_=>
  loop (Zha values i r3_) ((0:Int),(0:Int),out2)) (
  some (.inr (true,out2)))
def ZgL (m:(List Int)×(List D5_)) (values:List Bool):Option (Bool×(List Int)):=
 (ZeB m).bind fun r1_=>
 cond (!r1_) (
  some (false,([]:List Int))) (
  cond ((values.length:Int) != (12:Int)) (
   some (false,([]:List Int))) (
   loop (Zg9 m values) ((0:Int),([]:List Int))))
def Zp0 (coefs:List Int) (cells:List Int):Int×Int→Option ((Int×Int)⊕Int):=fun (sum,i)=>
 cond (decide (i<(cells.length:Int))) (
  rq (0≤i∧i<cells.length) <|
  rq (0≤i∧i<coefs.length) <|
  rq (i64 ((coefs.getD i.toNat 0)*(cells.getD i.toNat 0))) <|
  rq (i64 (sum+((coefs.getD i.toNat 0)*(cells.getD i.toNat 0)))) <|
  rq (i64 (i+(1:Int))) <|
  some (.inl ((sum+((coefs.getD i.toNat 0)*(cells.getD i.toNat 0))),(i+(1:Int))))) (
  some (.inr sum))
def Zfg (coefs:List Int) (cells:List Int):Option Int:=
 loop (Zp0 coefs cells) ((0:Int),(0:Int))
def ZhP (most:Int):(List D6_)→Option (Bool×Int×(List D6_)):=fun terms3=>
 rq (i64 (0 - most)) <|
 (Zhv terms3 (0 - most)).bind fun r9_=>
 some (r9_.1,r9_.2.1,r9_.2.2)
def Ze8 (m:(List Int)×(List D5_)) (coefs:List Int) (i:Int):Int×(List D6_)→Option ((Int×(List D6_))⊕((Int×(List D6_))⊕(Bool×Int×(List D6_)))):=fun (i2,terms2)=>
 cond (decide (i2<((m.1.getD i.toNat 0)+(1:Int)))) (
  rq (0≤i∧i<coefs.length) <|
  rq (i64 (0 - (coefs.getD i.toNat 0))) <|
  rq (i64 ((0 - (coefs.getD i.toNat 0))*i2)) <|
  (Zdy m i i2).bind fun r8_=>
  rq (terms2.length+[(((0 - (coefs.getD i.toNat 0))*i2),r8_)].length≤Zl) <|
  rq (i64 (i2+(1:Int))) <|
  some (.inl ((i2+(1:Int)),(terms2++[(((0 - (coefs.getD i.toNat 0))*i2),r8_)])))) (
  rq (i64 (i+(1:Int))) <|
  some (.inr (.inl ((i+(1:Int)),terms2))))
def Ze7 (m:(List Int)×(List D5_)) (coefs:List Int) (most:Int):Int×(List D6_)→Option ((Int×(List D6_))⊕(Bool×Int×(List D6_))):=fun (i,terms1)=>
 cond (decide (i<(m.1.length:Int))) (
  rq (0≤i∧i<m.1.length) <|
  rq (i64 ((m.1.getD i.toNat 0)+(1:Int))) <|
  loop (Ze8 m coefs i) ((0:Int),terms1)) (
  up (ZhP most terms1))
def Zd2 (m:(List Int)×(List D5_)) (coefs:List Int) (most:Int):Option (Bool×Int×(List D6_)):=
 (ZeB m).bind fun r1_=>
 cond (!r1_) (
  some (false,(0:Int),([]:List D6_))) (
  (Zee m coefs).bind fun r2_=>
  cond (!r2_) (
   some (false,(0:Int),([]:List D6_))) (
   (ZbG most (-1000:Int) (1000:Int)).bind fun r3_=>
   cond (!r3_) (
    some (false,(0:Int),([]:List D6_))) (
    loop (Ze7 m coefs most) ((0:Int),([]:List D6_)))))
def ZpV (r1_:Bool×(List D7_)) (r13_:Bool×(List Int)):Int×(List D6_)→Option (((List D7_)×(List Int))⊕(Int×(List Int)×(List Zw))):=fun (i_11,i_01)=>
 (Zbi r1_.2).bind fun r16_=>
 rq (r16_.length+[(i_01,i_11)].length≤Zl) <|
 rq (r13_.2≠[]) <|
 some (.inl ((r16_++[(i_01,i_11)]),r13_.2))
def ZkV (r1_:Bool×(List D7_)) (r17_:Bool×(List Int)):Int×(List D6_)→Option (((List D7_)×(List Int))⊕(Int×(List Int)×(List Zw))):=fun (i_12,i_02)=>
 (Zbi r1_.2).bind fun r20_=>
 rq (r20_.length+[(i_02,i_12)].length≤Zl) <|
 rq (r17_.2≠[]) <|
 some (.inl ((r20_++[(i_02,i_12)]),r17_.2))
def ZbK (a0:(List Int)×(List D5_)) (a1:List Int) (a2:Int) (r1_:Bool×(List D7_)):(List D7_)×(List Int)→Option (((List D7_)×(List Int))⊕(Int×(List Int)×(List Zw))):=fun (i,i1)=>
 (ZcG i a2).bind fun r12_=>
 cond (r12_.1==(2:Int)) (
  cond i1.isEmpty (
   some (.inr ((2:Int),([]:List Int),r12_.2.2))) (
   cond (r12_.1==(2:Int)) (
    some (.inr ((1:Int),i1,r12_.2.2))) (
    cond (r12_.1 != (1:Int)) (
     some (.inr ((0:Int),i1,([]:List Zw)))) (
     (ZgL a0 r12_.2.1).bind fun r13_=>
     (Zfg a1 r13_.2).bind fun r14_=>
     rq (i64 (r14_ - (1:Int))) <|
     (Zd2 a0 a1 (r14_ - (1:Int))).bind fun r15_=>
     ZpV r1_ r13_ (r15_.2.1,r15_.2.2))))) (
  cond (r12_.1==(2:Int)) (
   some (.inr ((1:Int),i1,r12_.2.2))) (
   cond (r12_.1 != (1:Int)) (
    some (.inr ((0:Int),i1,([]:List Zw)))) (
    (ZgL a0 r12_.2.1).bind fun r17_=>
    (Zfg a1 r17_.2).bind fun r18_=>
    rq (i64 (r18_ - (1:Int))) <|
    (Zd2 a0 a1 (r18_ - (1:Int))).bind fun r19_=>
    ZkV r1_ r17_ (r19_.2.1,r19_.2.2))))
def ZgP (a0:(List Int)×(List D5_)) (a1:List Int) (a2:Int):Option (Int×(List Int)×(List Zw)):=
 (ZmV a0).bind fun r1_=>
 cond (!r1_.1) (
  some ((3:Int),([]:List Int),([]:List Zw))) (
  (Zee a0 a1).bind fun r2_=>
  cond (!r2_) (
   some ((3:Int),([]:List Int),([]:List Zw))) (
   (Zol a2).bind fun r3_=>
   cond (!r3_) (
    some ((3:Int),([]:List Int),([]:List Zw))) (
    loop (ZbK a0 a1 a2 r1_) (r1_.2,([]:List Int)))))
def Zkm (list_:List Int) (i:Int):Int→Option (Int⊕(Int⊕Bool)):=fun k_=>
 cond (decide (k_<i)) (
  rq (0≤k_∧k_<list_.length) <|
  rq (0≤i∧i<list_.length) <|
  cond ((list_.getD k_.toNat 0)==(list_.getD i.toNat 0)) (
   some (.inr (.inr false))) (
   rq (i64 (k_+(1:Int))) <|
   some (.inl (k_+(1:Int))))) (
  rq (i64 (i+(1:Int))) <|
  some (.inr (.inl (i+(1:Int)))))
def Znz (m:(List Int)×(List D5_)) (list_:List Int):Int→Option (Int⊕Bool):=fun i=>
 cond (decide (i<(list_.length:Int))) (
  rq (0≤i∧i<list_.length) <|
  cond (decide ((list_.getD i.toNat 0)<(0:Int))) (
   some (.inr false)) (
   rq (0≤i∧i<list_.length) <|
   cond (decide ((m.1.length:Int)≤(list_.getD i.toNat 0))) (
    some (.inr false)) (
    loop (Zkm list_ i) (0:Int)))) (
  some (.inr (decide ((1:Int)≤(list_.length:Int)))))
def Zq8 (m:(List Int)×(List D5_)) (list_:List Int):Option Bool:=
 loop (Znz m list_) (0:Int)
def Zlg (r_:Int×(List Int)×(List Int)×Int×(List (List Int))):Int→Option (Int⊕Bool):=fun i=>
 cond (decide (i<(r_.2.2.1.length:Int))) (
  rq (0≤i∧i<r_.2.2.1.length) <|
  cond (decide ((r_.2.2.1.getD i.toNat 0)<(-9:Int))) (
   some (.inr false)) (
   rq (0≤i∧i<r_.2.2.1.length) <|
   cond (decide ((9:Int)<(r_.2.2.1.getD i.toNat 0))) (
    some (.inr false)) (
    rq (0≤i∧i<r_.2.2.1.length) <|
    cond ((r_.2.2.1.getD i.toNat 0)==(0:Int)) (
     some (.inr false)) (
     rq (i64 (i+(1:Int))) <|
     some (.inl (i+(1:Int))))))) (
  cond ((r_.2.2.1.length:Int)==(r_.2.1.length:Int)) (
   cond (decide ((-1000:Int)≤r_.2.2.2.1)) (
    some (.inr (decide (r_.2.2.2.1≤(1000:Int))))) (
    some (.inr false))) (
   some (.inr false)))
def ZoD (r_:Int×(List Int)×(List Int)×Int×(List (List Int))):Option Bool:=
 loop (Zlg r_) (0:Int)
def Zjg (r_:Int×(List Int)×(List Int)×Int×(List (List Int))) (i:Int):Int→Option (Int⊕(Int⊕Bool)):=fun k_=>
 rq (0≤i∧i<r_.2.2.2.2.length) <|
 cond (decide (k_<((r_.2.2.2.2.getD i.toNat []).length:Int))) (
  rq (0≤i∧i<r_.2.2.2.2.length) <|
  rq (0≤k_∧k_<(r_.2.2.2.2.getD i.toNat []).length) <|
  cond (decide (((r_.2.2.2.2.getD i.toNat []).getD k_.toNat 0)<(0:Int))) (
   some (.inr (.inr false))) (
   rq (0≤i∧i<r_.2.2.2.2.length) <|
   rq (0≤k_∧k_<(r_.2.2.2.2.getD i.toNat []).length) <|
   cond (decide ((3:Int)<((r_.2.2.2.2.getD i.toNat []).getD k_.toNat 0))) (
    some (.inr (.inr false))) (
    rq (i64 (k_+(1:Int))) <|
    some (.inl (k_+(1:Int)))))) (
  rq (i64 (i+(1:Int))) <|
  some (.inr (.inl (i+(1:Int)))))
def Zms (r_:Int×(List Int)×(List Int)×Int×(List (List Int))):Int→Option (Int⊕Bool):=fun i=>
 cond (decide (i<(r_.2.2.2.2.length:Int))) (
  rq (0≤i∧i<r_.2.2.2.2.length) <|
  cond (((r_.2.2.2.2.getD i.toNat []).length:Int) != (r_.2.1.length:Int)) (
   some (.inr false)) (
   loop (Zjg r_ i) (0:Int))) (
  some (.inr (decide ((r_.2.2.2.2.length:Int)≤(8:Int)))))
def Zqe (r_:Int×(List Int)×(List Int)×Int×(List (List Int))):Option Bool:=
 loop (Zms r_) (0:Int)
def ZfP (r_:Int×(List Int)×(List Int)×Int×(List (List Int))):Unit→Option Bool:=fun _=>
 cond (r_.1==(1:Int)) (
  (ZoD r_).bind fun r2_=>
  some r2_) (
  cond (r_.1==(2:Int)) (
   some true) (
   cond (r_.1==(3:Int)) (
    (Zqe r_).bind fun r3_=>
    some r3_) (
    cond (r_.1==(4:Int)) (
     some ((r_.2.1.length:Int)==(2:Int))) (
     some false))))
def Zq7 (m:(List Int)×(List D5_)) (r_:Int×(List Int)×(List Int)×Int×(List (List Int))):Option Bool:=
 (Zq8 m r_.2.1).bind fun r1_=>
 cond (!r1_) (
  some false) (
  cond (r_.1 != (1:Int)) (
   cond ((r_.2.2.1.length:Int) != (0:Int)) (
    some false) (
    cond (r_.2.2.2.1 != (0:Int)) (
     some false) (
     cond (r_.1 != (3:Int)) (
      cond ((r_.2.2.2.2.length:Int) != (0:Int)) (
       some false) (
       ZfP r_ ())) (
      ZfP r_ ())))) (
   cond (r_.1 != (3:Int)) (
    cond ((r_.2.2.2.2.length:Int) != (0:Int)) (
     some false) (
     ZfP r_ ())) (
    ZfP r_ ())))
def Zjd (a0:(List Int)×(List D5_)):Int→Option (Int⊕Bool):=fun i3=>
 cond (decide (i3<(a0.2.length:Int))) (
  rq (0≤i3∧i3<a0.2.length) <|
  (Zq7 a0 (a0.2.getD i3.toNat (0,([],([],(0,[])))))).bind fun r2_=>
  cond (!r2_) (
   some (.inr false)) (
   rq (i64 (i3+(1:Int))) <|
   some (.inl (i3+(1:Int))))) (
  some (.inr true))
def Zgj (a0:(List Int)×(List D5_)):Int→Option Bool:=fun i2=>
 cond (decide ((a0.1.length:Int)<(1:Int))) (
  some false) (
  cond (decide ((5:Int)<(a0.1.length:Int))) (
   some false) (
   cond (decide ((12:Int)<i2)) (
    some false) (
    cond (decide ((8:Int)<(a0.2.length:Int))) (
     some false) (
     loop (Zjd a0) (0:Int)))))
def Zm7 (a0:(List Int)×(List D5_)):Int×Int→Option ((Int×Int)⊕Bool):=fun (i,i1)=>
 cond (decide (i1<(a0.1.length:Int))) (
  cond (decide (i1<(5:Int))) (
   rq (0≤i1∧i1<a0.1.length) <|
   cond (decide ((a0.1.getD i1.toNat 0)<(0:Int))) (
    some (.inr false)) (
    rq (0≤i1∧i1<a0.1.length) <|
    cond (decide ((3:Int)<(a0.1.getD i1.toNat 0))) (
     some (.inr false)) (
     rq (0≤i1∧i1<a0.1.length) <|
     rq (i64 (i+(a0.1.getD i1.toNat 0))) <|
     rq (i64 ((i+(a0.1.getD i1.toNat 0))+(1:Int))) <|
     rq (i64 (i1+(1:Int))) <|
     some (.inl (((i+(a0.1.getD i1.toNat 0))+(1:Int)),(i1+(1:Int))))))) (
   up (Zgj a0 i))) (
  up (Zgj a0 i))
def Zgw (a0:(List Int)×(List D5_)):Option Bool:=
 loop (Zm7 a0) ((0:Int),(0:Int))
def Zsg (m:(List Int)×(List D5_)) (cell:Int):Int×Int→Option ((Int×Int)⊕Int):=fun (n,i)=>
 cond (decide (i<cell)) (
  rq (0≤i∧i<m.1.length) <|
  rq (i64 (n+(m.1.getD i.toNat 0))) <|
  rq (i64 ((n+(m.1.getD i.toNat 0))+(1:Int))) <|
  rq (i64 (i+(1:Int))) <|
  some (.inl (((n+(m.1.getD i.toNat 0))+(1:Int)),(i+(1:Int))))) (
  some (.inr n))
def Zhn (m:(List Int)×(List D5_)) (cell:Int) (value:Int):Option Int:=
 rq (i64 ((1:Int)+value)) <|
 loop (Zsg m cell) (((1:Int)+value),(0:Int))
def Zqa (n:Int):Option Bool:=
 cond (n != (0:Int)) (
  cond (decide ((-12:Int)≤n)) (
   some (decide (n≤(12:Int)))) (
   some false)) (
  some false)
def Znw (n:Int):Option Int:=
 cond (decide (n<(0:Int))) (
  rq (i64 (0 - n)) <|
  some (0 - n)) (
  some n)
def ZhZ (i2:List Int):Int×(List D6_)→Option ((Int×(List D6_))⊕(Bool×Int×(List D6_))):=fun (i3,i_0)=>
 cond (decide (i3≤(12:Int))) (
  rq (0≤i3∧i3<i2.length) <|
  cond ((i2.getD i3.toNat 0) != (0:Int)) (
   rq (0≤i3∧i3<i2.length) <|
   rq (i_0.length+[((1:Int),(i2.getD i3.toNat 0))].length≤Zl) <|
   rq (i64 (i3+(1:Int))) <|
   some (.inl ((i3+(1:Int)),(i_0++[((1:Int),(i2.getD i3.toNat 0))])))) (
   rq (i64 (i3+(1:Int))) <|
   some (.inl ((i3+(1:Int)),i_0)))) (
  some (.inr (true,(1:Int),i_0)))
def Zo5:(List Int)→Option (Bool×Int×(List D6_)):=fun i2=>
 loop (ZhZ i2) ((1:Int),([]:List D6_))
def Zk7 (a0:List Int):Int×(List Int)→Option ((Int×(List Int))⊕(Bool×Int×(List D6_))):=fun (i,i1)=>
 cond (decide (i<(a0.length:Int))) (
  rq (0≤i∧i<a0.length) <|
  (Zqa (a0.getD i.toNat 0)).bind fun r3_=>
  cond (!r3_) (
   some (.inr (false,(0:Int),([]:List D6_)))) (
   rq (0≤i∧i<a0.length) <|
   (Znw (a0.getD i.toNat 0)).bind fun r4_=>
   rq (0≤r4_∧r4_<i1.length) <|
   rq (0≤i∧i<a0.length) <|
   rq (i64 (0 - (a0.getD i.toNat 0))) <|
   cond ((i1.getD r4_.toNat 0)==(0 - (a0.getD i.toNat 0))) (
    some (.inr (false,(0:Int),([]:List D6_)))) (
    rq (0≤i∧i<a0.length) <|
    rq (0≤r4_∧r4_<i1.length) <|
    rq (i64 (i+(1:Int))) <|
    some (.inl ((i+(1:Int)),(i1.set r4_.toNat (a0.getD i.toNat 0))))))) (
  up (Zo5 i1))
def ZiP (a0:List Int):Option (Bool×Int×(List D6_)):=
 rq (0≤(13:Int)∧(13:Int)≤Zl∧(13:Int)=(13:Int)) <|
 cond (decide ((40:Int)<(a0.length:Int))) (
  some (false,(0:Int),([]:List D6_))) (
  loop (Zk7 a0) ((0:Int),(List.replicate (13:Int).toNat 0)))
def Zkp (vars:List Int):Int×(List D6_)→Option ((Int×(List D6_))⊕(Int×(List D6_))):=fun (i,c_0)=>
 cond (decide (i<(vars.length:Int))) (
  rq (0≤i∧i<vars.length) <|
  rq (i64 (0 - (vars.getD i.toNat 0))) <|
  rq (c_0.length+[((1:Int),(0 - (vars.getD i.toNat 0)))].length≤Zl) <|
  rq (i64 (i+(1:Int))) <|
  some (.inl ((i+(1:Int)),(c_0++[((1:Int),(0 - (vars.getD i.toNat 0)))])))) (
  some (.inr (((vars.length:Int) - (1:Int)),c_0)))
def Zoq (vars:List Int):Option (Int×(List D6_)):=
 rq (i64 ((vars.length:Int) - (1:Int))) <|
 loop (Zkp vars) ((0:Int),([]:List D6_))
def Zkn:(List Int)→Option (List D7_):=fun vars1=>
 (ZiP vars1).bind fun r3_=>
 (Zoq vars1).bind fun r5_=>
 some [(r3_.2.2,r3_.2.1),(r5_.2,r5_.1)]
def Zko (m:(List Int)×(List D5_)) (cell:Int):Int×(List Int)→Option ((Int×(List Int))⊕(List D7_)):=fun (k_,vars)=>
 rq (0≤cell∧cell<m.1.length) <|
 cond (decide (k_≤(m.1.getD cell.toNat 0))) (
  (Zhn m cell k_).bind fun r2_=>
  rq (vars.length+[r2_].length≤Zl) <|
  rq (i64 (k_+(1:Int))) <|
  some (.inl ((k_+(1:Int)),(vars++[r2_])))) (
  up (Zkn vars))
def Zq9 (m:(List Int)×(List D5_)) (cell:Int):Option (List D7_):=
 loop (Zko m cell) ((0:Int),([]:List Int))
def Zfx (c_:(List D6_)×Int):Int→Option (Int⊕Bool):=fun i=>
 cond (decide (i<(c_.1.length:Int))) (
  rq (0≤i∧i<c_.1.length) <|
  (Zqa (c_.1.getD i.toNat (0,0)).2).bind fun r4_=>
  cond (!r4_) (
   some (.inr false)) (
   cond (decide ((c_.1.getD i.toNat (0,0)).1<(1:Int))) (
    some (.inr false)) (
    cond (decide ((1000:Int)<(c_.1.getD i.toNat (0,0)).1)) (
     some (.inr false)) (
     cond (decide ((0:Int)<i)) (
      rq (i64 (i - (1:Int))) <|
      rq (0≤(i - (1:Int))∧(i - (1:Int))<c_.1.length) <|
      (Znw (c_.1.getD (i - (1:Int)).toNat (0,0)).2).bind fun r5_=>
      (Znw (c_.1.getD i.toNat (0,0)).2).bind fun r6_=>
      cond (decide (r6_≤r5_)) (
       some (.inr false)) (
       rq (i64 (i+(1:Int))) <|
       some (.inl (i+(1:Int))))) (
      rq (i64 (i+(1:Int))) <|
      some (.inl (i+(1:Int)))))))) (
  cond (decide ((0:Int)≤c_.2)) (
   some (.inr (decide (c_.2≤(20000:Int))))) (
   some (.inr false)))
def Zfl (c_:(List D6_)×Int):Option Bool:=
 loop (Zfx c_) (0:Int)
def Zh0 (c_03:List D6_):Int→Option (Bool×Int×(List D6_)):=fun bound_3=>
 (Zfl (c_03,bound_3)).bind fun r1_=>
 cond (!r1_) (
  some (false,(0:Int),([]:List D6_))) (
  some (true,bound_3,c_03))
def Zo6:Int×(List D6_)→Option (Bool×Int×(List D6_)):=fun (bound_2,c_03)=>
 cond (decide (bound_2<(0:Int))) (
  Zh0 c_03 (0:Int)) (
  Zh0 c_03 bound_2)
def Zo7 (net:List Int) (bound_1:Int) (v:Int) (c_02:List D6_):Unit→Option ((Int×Int×(List D6_))⊕(Bool×Int×(List D6_))):=fun _=>
 rq (0≤v∧v<net.length) <|
 rq (i64 (bound_1 - (net.getD v.toNat 0))) <|
 rq (i64 (v+(1:Int))) <|
 some (.inl ((bound_1 - (net.getD v.toNat 0)),(v+(1:Int)),(c_02++[((0 - (net.getD v.toNat 0)),(0 - v))])))
def Zlb (net:List Int) (bound_1:Int) (v:Int):(List D6_)→Option ((Int×Int×(List D6_))⊕(Bool×Int×(List D6_))):=fun c_02=>
 rq (0≤v∧v<net.length) <|
 cond (decide ((net.getD v.toNat 0)<(0:Int))) (
  rq (0≤v∧v<net.length) <|
  rq (i64 (0 - (net.getD v.toNat 0))) <|
  rq (i64 (0 - v)) <|
  rq (c_02.length+[((0 - (net.getD v.toNat 0)),(0 - v))].length≤Zl) <|
  Zo7 net bound_1 v c_02 ()) (
  rq (i64 (v+(1:Int))) <|
  some (.inl (bound_1,(v+(1:Int)),c_02)))
def Zlc (net:List Int):Int×Int×(List D6_)→Option ((Int×Int×(List D6_))⊕(Bool×Int×(List D6_))):=fun (bound_1,v,c_01)=>
 cond (decide (v≤(12:Int))) (
  rq (0≤v∧v<net.length) <|
  cond (decide ((0:Int)<(net.getD v.toNat 0))) (
   rq (0≤v∧v<net.length) <|
   rq (c_01.length+[((net.getD v.toNat 0),v)].length≤Zl) <|
   Zlb net bound_1 v (c_01++[((net.getD v.toNat 0),v)])) (
   Zlb net bound_1 v c_01)) (
  up (Zo6 (bound_1,c_01)))
def ZlG (net:List Int) (bound_:Int):Option (Bool×Int×(List D6_)):=
 loop (Zlc net) (bound_,(1:Int),([]:List D6_))
def Zll (r_:Int×(List Int)×(List Int)×Int×(List (List Int))):(List Int)→Option (List D7_):=fun net3=>
 (ZlG net3 r_.2.2.2.1).bind fun r6_=>
 some [(r6_.2.2,r6_.2.1)]
def Zlm (m:(List Int)×(List D5_)) (r_:Int×(List Int)×(List Int)×Int×(List (List Int))) (i:Int):Int×(List Int)→Option ((Int×(List Int))⊕((Int×(List Int))⊕(List D7_))):=fun (k_1,net2)=>
 rq (0≤i∧i<r_.2.1.length) <|
 rq (0≤(r_.2.1.getD i.toNat 0)∧(r_.2.1.getD i.toNat 0)<m.1.length) <|
 cond (decide (k_1≤(m.1.getD (r_.2.1.getD i.toNat 0).toNat 0))) (
  rq (0≤i∧i<r_.2.1.length) <|
  (Zhn m (r_.2.1.getD i.toNat 0) k_1).bind fun r5_=>
  rq (0≤i∧i<r_.2.2.1.length) <|
  rq (i64 ((r_.2.2.1.getD i.toNat 0)*k_1)) <|
  rq (0≤r5_∧r5_<net2.length) <|
  rq (i64 (k_1+(1:Int))) <|
  some (.inl ((k_1+(1:Int)),(net2.set r5_.toNat ((r_.2.2.1.getD i.toNat 0)*k_1))))) (
  rq (i64 (i+(1:Int))) <|
  some (.inr (.inl ((i+(1:Int)),net2))))
def Zpa (m:(List Int)×(List D5_)) (r_:Int×(List Int)×(List Int)×Int×(List (List Int))):Int×(List Int)→Option ((Int×(List Int))⊕(List D7_)):=fun (i,net1)=>
 cond (decide (i<(r_.2.1.length:Int))) (
  loop (Zlm m r_ i) ((0:Int),net1)) (
  up (Zll r_ net1))
def ZoG (m:(List Int)×(List D5_)) (r_:Int×(List Int)×(List Int)×Int×(List (List Int))):Option (List D7_):=
 rq (0≤(13:Int)∧(13:Int)≤Zl∧(13:Int)=(13:Int)) <|
 loop (Zpa m r_) ((0:Int),(List.replicate (13:Int).toNat 0))
def Zlo (i:Int):Int×(List Int)→Option ((Int×(List Int))⊕((Int×(List Int))⊕(List Int))):=fun (k_1,out2)=>
 cond (decide ((0:Int)<k_1)) (
  rq (0≤k_1∧k_1<out2.length) <|
  rq (i64 (k_1 - (1:Int))) <|
  rq (0≤(k_1 - (1:Int))∧(k_1 - (1:Int))<out2.length) <|
  cond (decide ((out2.getD k_1.toNat 0)<(out2.getD (k_1 - (1:Int)).toNat 0))) (
   rq (0≤k_1∧k_1<out2.length) <|
   rq (i64 (k_1 - (1:Int))) <|
   rq (0≤(k_1 - (1:Int))∧(k_1 - (1:Int))<out2.length) <|
   rq (0≤k_1∧k_1<out2.length) <|
   rq (i64 (k_1 - (1:Int))) <|
   rq (0≤(k_1 - (1:Int))∧(k_1 - (1:Int))<(out2.set k_1.toNat (out2.getD (k_1 - (1:Int)).toNat 0)).length) <|
   rq (i64 (k_1 - (1:Int))) <|
   some (.inl ((k_1 - (1:Int)),((out2.set k_1.toNat (out2.getD (k_1 - (1:Int)).toNat 0)).set (k_1 - (1:Int)).toNat (out2.getD k_1.toNat 0))))) (
   rq (i64 (i+(1:Int))) <|
   some (.inr (.inl ((i+(1:Int)),out2))))) (
  rq (i64 (i+(1:Int))) <|
  some (.inr (.inl ((i+(1:Int)),out2))))
def Zln:Int×(List Int)→Option ((Int×(List Int))⊕(List Int)):=fun (i,out1)=>
 cond (decide (i<(out1.length:Int))) (
  loop (Zlo i) (i,out1)) (
  some (.inr out1))
def ZoH (list_:List Int):Option (List Int):=
 rq (([]:List Int).length+list_.length≤Zl) <|
 loop (Zln) ((0:Int),(([]:List Int)++list_))
def ZfF (k_:Int) (out:List D7_):(List Int)→Option ((Int×(List D7_))⊕(List D7_)):=fun vars3=>
 cond (decide ((1:Int)<(vars3.length:Int))) (
  (ZoH vars3).bind fun r8_=>
  (Zoq r8_).bind fun r9_=>
  rq (out.length+[(r9_.2,r9_.1)].length≤Zl) <|
  rq (i64 (k_+(1:Int))) <|
  some (.inl ((k_+(1:Int)),(out++[(r9_.2,r9_.1)])))) (
  rq (i64 (k_+(1:Int))) <|
  some (.inl ((k_+(1:Int)),out)))
def ZfG (m:(List Int)×(List D5_)) (r_:Int×(List Int)×(List Int)×Int×(List (List Int))) (k_:Int) (out:List D7_):Int×(List Int)→Option ((Int×(List Int))⊕((Int×(List D7_))⊕(List D7_))):=fun (i1,vars2)=>
 cond (decide (i1<(r_.2.1.length:Int))) (
  rq (0≤i1∧i1<r_.2.1.length) <|
  rq (0≤(r_.2.1.getD i1.toNat 0)∧(r_.2.1.getD i1.toNat 0)<m.1.length) <|
  cond (decide (k_≤(m.1.getD (r_.2.1.getD i1.toNat 0).toNat 0))) (
   rq (0≤i1∧i1<r_.2.1.length) <|
   (Zhn m (r_.2.1.getD i1.toNat 0) k_).bind fun r7_=>
   rq (vars2.length+[r7_].length≤Zl) <|
   rq (i64 (i1+(1:Int))) <|
   some (.inl ((i1+(1:Int)),(vars2++[r7_])))) (
   rq (i64 (i1+(1:Int))) <|
   some (.inl ((i1+(1:Int)),vars2)))) (
  up (ZfF k_ out vars2))
def Zl6 (m:(List Int)×(List D5_)) (r_:Int×(List Int)×(List Int)×Int×(List (List Int))):Int×(List D7_)→Option ((Int×(List D7_))⊕(List D7_)):=fun (k_,out)=>
 cond (decide (k_≤(3:Int))) (
  loop (ZfG m r_ k_ out) ((0:Int),([]:List Int))) (
  some (.inr out))
def Zli (m:(List Int)×(List D5_)) (r_:Int×(List Int)×(List Int)×Int×(List (List Int))):Option (List D7_):=
 loop (Zl6 m r_) ((0:Int),([]:List D7_))
def Znx (a:List Int) (b:List Int):Int→Option (Int⊕Bool):=fun i=>
 cond (decide (i<(a.length:Int))) (
  rq (0≤i∧i<a.length) <|
  rq (0≤i∧i<b.length) <|
  cond ((a.getD i.toNat 0) != (b.getD i.toNat 0)) (
   some (.inr false)) (
   rq (i64 (i+(1:Int))) <|
   some (.inl (i+(1:Int))))) (
  some (.inr true))
def Zq6 (a:List Int) (b:List Int):Option Bool:=
 cond ((a.length:Int) != (b.length:Int)) (
  some false) (
  loop (Znx a b) (0:Int))
def Zqc (a0:Int×(List Int)×(List Int)×Int×(List (List Int))) (i2:List Int):Int×Int→Option ((Int×Int)⊕Bool):=fun (i3,i4)=>
 cond (decide (i4<(i2.length:Int))) (
  rq (0≤i4∧i4<a0.2.2.1.length) <|
  rq (0≤i4∧i4<i2.length) <|
  rq (i64 ((a0.2.2.1.getD i4.toNat 0)*(i2.getD i4.toNat 0))) <|
  rq (i64 (i3+((a0.2.2.1.getD i4.toNat 0)*(i2.getD i4.toNat 0)))) <|
  rq (i64 (i4+(1:Int))) <|
  some (.inl ((i3+((a0.2.2.1.getD i4.toNat 0)*(i2.getD i4.toNat 0))),(i4+(1:Int))))) (
  some (.inr (decide (a0.2.2.2.1≤i3))))
def Zjf (i2:List Int) (i5:Int):Int→Option (Int⊕(Int⊕Bool)):=fun i6=>
 cond (decide (i6<i5)) (
  rq (0≤i6∧i6<i2.length) <|
  rq (0≤i5∧i5<i2.length) <|
  cond ((i2.getD i6.toNat 0)==(i2.getD i5.toNat 0)) (
   some (.inr (.inr false))) (
   rq (i64 (i6+(1:Int))) <|
   some (.inl (i6+(1:Int))))) (
  rq (i64 (i5+(1:Int))) <|
  some (.inr (.inl (i5+(1:Int)))))
def Zje (i2:List Int):Int→Option (Int⊕Bool):=fun i5=>
 cond (decide (i5<(i2.length:Int))) (
  loop (Zjf i2 i5) (0:Int)) (
  some (.inr true))
def Zml (a0:Int×(List Int)×(List Int)×Int×(List (List Int))) (i2:List Int):Int→Option (Int⊕Bool):=fun i7=>
 cond (decide (i7<(a0.2.2.2.2.length:Int))) (
  rq (0≤i7∧i7<a0.2.2.2.2.length) <|
  (Zq6 (a0.2.2.2.2.getD i7.toNat []) i2).bind fun r1_=>
  cond r1_ (
   some (.inr true)) (
   rq (i64 (i7+(1:Int))) <|
   some (.inl (i7+(1:Int))))) (
  some (.inr false))
def Zmk (a0:Int×(List Int)×(List Int)×Int×(List (List Int))):(List Int)→Option Bool:=fun i2=>
 cond (a0.1==(1:Int)) (
  loop (Zqc a0 i2) ((0:Int),(0:Int))) (
  cond (a0.1==(2:Int)) (
   loop (Zje i2) (0:Int)) (
   cond (a0.1==(4:Int)) (
    rq (0≤(0:Int)∧(0:Int)<i2.length) <|
    rq (0≤(1:Int)∧(1:Int)<i2.length) <|
    some (decide ((i2.getD (0:Int).toNat 0)<(i2.getD (1:Int).toNat 0)))) (
    loop (Zml a0 i2) (0:Int))))
def Zmm (a0:Int×(List Int)×(List Int)×Int×(List (List Int))) (a1:List Int):Int×(List Int)→Option ((Int×(List Int))⊕Bool):=fun (i,i1)=>
 cond (decide (i<(a0.2.1.length:Int))) (
  rq (0≤i∧i<a0.2.1.length) <|
  rq (0≤(a0.2.1.getD i.toNat 0)∧(a0.2.1.getD i.toNat 0)<a1.length) <|
  rq (i1.length+[(a1.getD (a0.2.1.getD i.toNat 0).toNat 0)].length≤Zl) <|
  rq (i64 (i+(1:Int))) <|
  some (.inl ((i+(1:Int)),(i1++[(a1.getD (a0.2.1.getD i.toNat 0).toNat 0)])))) (
  up (Zmk a0 i1))
def Zqb (a0:Int×(List Int)×(List Int)×Int×(List (List Int))) (a1:List Int):Option Bool:=
 loop (Zmm a0 a1) ((0:Int),([]:List Int))
def Zny (m:(List Int)×(List D5_)):Int×(List Int)→Option ((Int×(List Int))⊕(Bool×(List Int))):=fun (i,out)=>
 cond (decide ((0:Int)≤i)) (
  rq (0≤i∧i<out.length) <|
  rq (0≤i∧i<m.1.length) <|
  cond (decide ((out.getD i.toNat 0)<(m.1.getD i.toNat 0))) (
   rq (0≤i∧i<out.length) <|
   rq (i64 ((out.getD i.toNat 0)+(1:Int))) <|
   rq (0≤i∧i<out.length) <|
   some (.inr (true,(out.set i.toNat ((out.getD i.toNat 0)+(1:Int)))))) (
   rq (0≤i∧i<out.length) <|
   rq (i64 (i - (1:Int))) <|
   some (.inl ((i - (1:Int)),(out.set i.toNat (0:Int)))))) (
  some (.inr (false,out)))
def Zop (m:(List Int)×(List D5_)) (cells:List Int):Option (Bool×(List Int)):=
 rq (([]:List Int).length+cells.length≤Zl) <|
 rq (i64 (((([]:List Int)++cells).length:Int) - (1:Int))) <|
 loop (Zny m) ((((([]:List Int)++cells).length:Int) - (1:Int)),(([]:List Int)++cells))
def Zh4 (i_01:List Int) (i9:List Int):(List D7_)→Option ((Bool×(List D7_)×(List Int))⊕(List D7_)):=fun i15=>
 (Zop (i_01,([]:List D5_)) i9).bind fun r11_=>
 some (.inl (r11_.1,i15,r11_.2))
def Zh3 (a1:Int×(List Int)×(List Int)×Int×(List (List Int))) (i_01:List Int) (i8:List D7_) (i9:List Int):(List Int)×(List Int)→Option ((Bool×(List D7_)×(List Int))⊕(List D7_)):=fun (i13,i14)=>
 (Zqb a1 i13).bind fun r9_=>
 cond (!r9_) (
  (ZiP i14).bind fun r10_=>
  rq (i8.length+[(r10_.2.2,r10_.2.1)].length≤Zl) <|
  Zh4 i_01 i9 (i8++[(r10_.2.2,r10_.2.1)])) (
  Zh4 i_01 i9 i8)
def Zo9 (a0:(List Int)×(List D5_)) (a1:Int×(List Int)×(List Int)×Int×(List (List Int))) (i9:List Int) (i10:Int) (i11:List Int) (i12:List Int):Unit→Option ((Int×(List Int)×(List Int))⊕((Bool×(List D7_)×(List Int))⊕(List D7_))):=fun _=>
 rq (0≤i10∧i10<i9.length) <|
 rq (0≤i10∧i10<a1.2.1.length) <|
 (Zhn a0 (a1.2.1.getD i10.toNat 0) (i9.getD i10.toNat 0)).bind fun r8_=>
 rq (i64 (0 - r8_)) <|
 rq (i12.length+[(0 - r8_)].length≤Zl) <|
 rq (i64 (i10+(1:Int))) <|
 some (.inl ((i10+(1:Int)),(i11.set (a1.2.1.getD i10.toNat 0).toNat (i9.getD i10.toNat 0)),(i12++[(0 - r8_)])))
def Zlk (a0:(List Int)×(List D5_)) (a1:Int×(List Int)×(List Int)×Int×(List (List Int))) (i_01:List Int) (i8:List D7_) (i9:List Int):Int×(List Int)×(List Int)→Option ((Int×(List Int)×(List Int))⊕((Bool×(List D7_)×(List Int))⊕(List D7_))):=fun (i10,i11,i12)=>
 cond (decide (i10<(i9.length:Int))) (
  rq (0≤i10∧i10<i9.length) <|
  rq (0≤i10∧i10<a1.2.1.length) <|
  rq (0≤(a1.2.1.getD i10.toNat 0)∧(a1.2.1.getD i10.toNat 0)<i11.length) <|
  Zo9 a0 a1 i9 i10 i11 i12 ()) (
  up (Zh3 a1 i_01 i8 i9 (i11,i12)))
def Zlj (a0:(List Int)×(List D5_)) (a1:Int×(List Int)×(List Int)×Int×(List (List Int))) (i_01:List Int):Bool×(List D7_)×(List Int)→Option ((Bool×(List D7_)×(List Int))⊕(List D7_)):=fun (i1,i8,i9)=>
 cond i1 (
  rq (0≤(a0.1.length:Int)∧(a0.1.length:Int)≤Zl∧(a0.1.length:Int)=(a0.1.length:Int)) <|
  loop (Zlk a0 a1 i_01 i8 i9) ((0:Int),(List.replicate (a0.1.length:Int).toNat 0),([]:List Int))) (
  some (.inr i8))
def Zh2 (a0:(List Int)×(List D5_)) (a1:Int×(List Int)×(List Int)×Int×(List (List Int))):(List Int)→Option (List D7_):=fun i_01=>
 rq (0≤(a1.2.1.length:Int)∧(a1.2.1.length:Int)≤Zl∧(a1.2.1.length:Int)=(a1.2.1.length:Int)) <|
 loop (Zlj a0 a1 i_01) (true,([]:List D7_),(List.replicate (a1.2.1.length:Int).toNat 0))
def Zh5 (a0:(List Int)×(List D5_)) (a1:Int×(List Int)×(List Int)×Int×(List (List Int))):Int×(List Int)→Option ((Int×(List Int))⊕(List D7_)):=fun (i,i_0)=>
 cond (decide (i<(a1.2.1.length:Int))) (
  rq (0≤i∧i<a1.2.1.length) <|
  rq (0≤(a1.2.1.getD i.toNat 0)∧(a1.2.1.getD i.toNat 0)<a0.1.length) <|
  rq (i_0.length+[(a0.1.getD (a1.2.1.getD i.toNat 0).toNat 0)].length≤Zl) <|
  rq (i64 (i+(1:Int))) <|
  some (.inl ((i+(1:Int)),(i_0++[(a0.1.getD (a1.2.1.getD i.toNat 0).toNat 0)])))) (
  up (Zh2 a0 a1 i_0))
def ZoF (a0:(List Int)×(List D5_)) (a1:Int×(List Int)×(List Int)×Int×(List (List Int))):Option (List D7_):=
 loop (Zh5 a0 a1) ((0:Int),([]:List Int))
def Zra (m:(List Int)×(List D5_)) (r_:Int×(List Int)×(List Int)×Int×(List (List Int))):Option (List D7_):=
 cond (r_.1==(1:Int)) (
  (ZoG m r_).bind fun r1_=>
  some r1_) (
  cond (r_.1==(2:Int)) (
   (Zli m r_).bind fun r2_=>
   some r2_) (
   (ZoF m r_).bind fun r3_=>
   some r3_))
def Zij:(List D7_)→Option (Bool×(List D7_)):=fun out3=>
 cond (decide ((400:Int)<(out3.length:Int))) (
  some (false,([]:List D7_))) (
  some (true,out3))
def Zik (m:(List Int)×(List D5_)):Int×(List D7_)→Option ((Int×(List D7_))⊕(Bool×(List D7_))):=fun (i1,out2)=>
 cond (decide (i1<(m.2.length:Int))) (
  rq (0≤i1∧i1<m.2.length) <|
  (Zra m (m.2.getD i1.toNat (0,([],([],(0,[])))))).bind fun r6_=>
  rq (out2.length+r6_.length≤Zl) <|
  rq (i64 (i1+(1:Int))) <|
  some (.inl ((i1+(1:Int)),(out2++r6_)))) (
  up (Zij out2))
def Zii (m:(List Int)×(List D5_)):(List D7_)→Option (Bool×(List D7_)):=fun out1=>
 loop (Zik m) ((0:Int),out1)
def Zil (m:(List Int)×(List D5_)):Int×(List D7_)→Option ((Int×(List D7_))⊕(Bool×(List D7_))):=fun (i,out)=>
 cond (decide (i<(m.1.length:Int))) (
  (Zq9 m i).bind fun r3_=>
  rq (out.length+r3_.length≤Zl) <|
  rq (i64 (i+(1:Int))) <|
  some (.inl ((i+(1:Int)),(out++r3_)))) (
  up (Zii m out))
def Zk8 (m:(List Int)×(List D5_)):Option (Bool×(List D7_)):=
 (Zgw m).bind fun r1_=>
 cond (!r1_) (
  some (false,([]:List D7_))) (
  loop (Zil m) ((0:Int),([]:List D7_)))
def Zmt (coefs:List Int):Int→Option (Int⊕Bool):=fun i=>
 cond (decide (i<(coefs.length:Int))) (
  rq (0≤i∧i<coefs.length) <|
  cond (decide ((coefs.getD i.toNat 0)<(-9:Int))) (
   some (.inr false)) (
   rq (0≤i∧i<coefs.length) <|
   cond (decide ((9:Int)<(coefs.getD i.toNat 0))) (
    some (.inr false)) (
    rq (i64 (i+(1:Int))) <|
    some (.inl (i+(1:Int)))))) (
  some (.inr true))
def Zna (m:(List Int)×(List D5_)) (coefs:List Int):Option Bool:=
 (Zgw m).bind fun r1_=>
 cond (!r1_) (
  some false) (
  cond ((coefs.length:Int) != (m.1.length:Int)) (
   some false) (
   loop (Zmt coefs) (0:Int)))
def Zqg (coefs:List Int) (cells:List Int):Int×Int→Option ((Int×Int)⊕Int):=fun (n,i)=>
 cond (decide (i<(cells.length:Int))) (
  rq (0≤i∧i<coefs.length) <|
  rq (0≤i∧i<cells.length) <|
  rq (i64 ((coefs.getD i.toNat 0)*(cells.getD i.toNat 0))) <|
  rq (i64 (n+((coefs.getD i.toNat 0)*(cells.getD i.toNat 0)))) <|
  rq (i64 (i+(1:Int))) <|
  some (.inl ((n+((coefs.getD i.toNat 0)*(cells.getD i.toNat 0))),(i+(1:Int))))) (
  some (.inr n))
def Zqf (coefs:List Int) (cells:List Int):Option Int:=
 loop (Zqg coefs cells) ((0:Int),(0:Int))
def ZhY (most:Int):(List Int)→Option (Bool×Int×(List D6_)):=fun net3=>
 rq (i64 (0 - most)) <|
 (ZlG net3 (0 - most)).bind fun r7_=>
 some (r7_.1,r7_.2.1,r7_.2.2)
def Zfk (m:(List Int)×(List D5_)) (coefs:List Int) (i:Int):Int×(List Int)→Option ((Int×(List Int))⊕((Int×(List Int))⊕(Bool×Int×(List D6_)))):=fun (k_1,net2)=>
 rq (0≤i∧i<m.1.length) <|
 cond (decide (k_1≤(m.1.getD i.toNat 0))) (
  rq (0≤i∧i<coefs.length) <|
  rq (i64 (0 - (coefs.getD i.toNat 0))) <|
  rq (i64 ((0 - (coefs.getD i.toNat 0))*k_1)) <|
  (Zhn m i k_1).bind fun r6_=>
  rq (0≤r6_∧r6_<net2.length) <|
  rq (i64 (k_1+(1:Int))) <|
  some (.inl ((k_1+(1:Int)),(net2.set r6_.toNat ((0 - (coefs.getD i.toNat 0))*k_1))))) (
  rq (i64 (i+(1:Int))) <|
  some (.inr (.inl ((i+(1:Int)),net2))))
def Zfj (m:(List Int)×(List D5_)) (coefs:List Int) (most:Int):Int×(List Int)→Option ((Int×(List Int))⊕(Bool×Int×(List D6_))):=fun (i,net1)=>
 cond (decide (i<(coefs.length:Int))) (
  loop (Zfk m coefs i) ((0:Int),net1)) (
  up (ZhY most net1))
def Zgu (m:(List Int)×(List D5_)) (coefs:List Int) (most:Int):Option (Bool×Int×(List D6_)):=
 (Zna m coefs).bind fun r1_=>
 cond (!r1_) (
  some (false,(0:Int),([]:List D6_))) (
  cond (decide (most<(-1000:Int))) (
   some (false,(0:Int),([]:List D6_))) (
   cond (decide ((1000:Int)<most)) (
    some (false,(0:Int),([]:List D6_))) (
    rq (0≤(13:Int)∧(13:Int)≤Zl∧(13:Int)=(13:Int)) <|
    loop (Zfj m coefs most) ((0:Int),(List.replicate (13:Int).toNat 0)))))
def Zhk (list_:List D7_):Int→Option (Int⊕Bool):=fun i=>
 cond (decide (i<(list_.length:Int))) (
  rq (0≤i∧i<list_.length) <|
  (Zfl (list_.getD i.toNat ([],0))).bind fun r1_=>
  cond (!r1_) (
   some (.inr false)) (
   rq (i64 (i+(1:Int))) <|
   some (.inl (i+(1:Int))))) (
  some (.inr (decide ((list_.length:Int)≤(400:Int)))))
def ZjM (list_:List D7_):Option Bool:=
 loop (Zhk list_) (0:Int)
def ZgH (lit:Int) (p:List Int):Option (List Int):=
 cond (decide ((0:Int)<lit)) (
  rq (i64 (lit - (1:Int))) <|
  rq (0≤(lit - (1:Int))∧(lit - (1:Int))<p.length) <|
  some (p.set (lit - (1:Int)).toNat (1:Int))) (
  rq (i64 (0 - lit)) <|
  rq (i64 ((0 - lit) - (1:Int))) <|
  rq (0≤((0 - lit) - (1:Int))∧((0 - lit) - (1:Int))<p.length) <|
  some (p.set ((0 - lit) - (1:Int)).toNat (-1:Int)))
def Zm9 (p:List Int) (lit:Int):Option Int:=
 cond (decide ((0:Int)<lit)) (
  rq (i64 (lit - (1:Int))) <|
  rq (0≤(lit - (1:Int))∧(lit - (1:Int))<p.length) <|
  some (p.getD (lit - (1:Int)).toNat 0)) (
  rq (i64 (0 - lit)) <|
  rq (i64 ((0 - lit) - (1:Int))) <|
  rq (0≤((0 - lit) - (1:Int))∧((0 - lit) - (1:Int))<p.length) <|
  rq (i64 (0 - (p.getD ((0 - lit) - (1:Int)).toNat 0))) <|
  some (0 - (p.getD ((0 - lit) - (1:Int)).toNat 0)))
def Zmj (c_:(List D6_)×Int) (p:List Int):Int×Int→Option ((Int×Int)⊕Int):=fun (n,i)=>
 cond (decide (i<(c_.1.length:Int))) (
  rq (0≤i∧i<c_.1.length) <|
  (Zm9 p (c_.1.getD i.toNat (0,0)).2).bind fun r1_=>
  cond (decide ((0:Int)≤r1_)) (
   rq (0≤i∧i<c_.1.length) <|
   rq (i64 (n+(c_.1.getD i.toNat (0,0)).1)) <|
   rq (i64 (i+(1:Int))) <|
   some (.inl ((n+(c_.1.getD i.toNat (0,0)).1),(i+(1:Int))))) (
   rq (i64 (i+(1:Int))) <|
   some (.inl (n,(i+(1:Int)))))) (
  some (.inr n))
def Zm8 (c_:(List D6_)×Int) (p:List Int):Option Int:=
 rq (i64 (0 - c_.2)) <|
 loop (Zmj c_ p) ((0 - c_.2),(0:Int))
def ZgX (c_:(List D6_)×Int) (p:List Int) (r1_:Int):Int×(List Int)→Option ((Int×(List Int))⊕(List Int)):=fun (i,out)=>
 cond (decide (i<(c_.1.length:Int))) (
  cond (decide ((0:Int)≤r1_)) (
   rq (0≤i∧i<c_.1.length) <|
   (Zm9 p (c_.1.getD i.toNat (0,0)).2).bind fun r3_=>
   cond (r3_==(0:Int)) (
    rq (0≤i∧i<c_.1.length) <|
    cond (decide (r1_<(c_.1.getD i.toNat (0,0)).1)) (
     rq (0≤i∧i<c_.1.length) <|
     rq (out.length+[(c_.1.getD i.toNat (0,0)).2].length≤Zl) <|
     rq (i64 (i+(1:Int))) <|
     some (.inl ((i+(1:Int)),(out++[(c_.1.getD i.toNat (0,0)).2])))) (
     rq (i64 (i+(1:Int))) <|
     some (.inl ((i+(1:Int)),out)))) (
    rq (i64 (i+(1:Int))) <|
    some (.inl ((i+(1:Int)),out)))) (
   some (.inr out))) (
  some (.inr out))
def ZhG (c_:(List D6_)×Int) (p:List Int):Option (List Int):=
 (Zm8 c_ p).bind fun r1_=>
 loop (ZgX c_ p r1_) ((0:Int),([]:List Int))
def ZdW (i1:Int) (r14_:(List Int)):Bool×Int×(List Int)→Option ((Bool×Int×(List Int))⊕((Bool×Int×(List Int))⊕((Bool×(List Int))⊕(Int×(List Int))))):=fun (changed6,k_3,p7)=>
 cond (decide (k_3<(r14_.length:Int))) (
  rq (0≤k_3∧k_3<r14_.length) <|
  (ZgH (r14_.getD k_3.toNat 0) p7).bind fun r16_=>
  rq (i64 (k_3+(1:Int))) <|
  some (.inl (true,(k_3+(1:Int)),r16_))) (
  rq (i64 (i1+(1:Int))) <|
  some (.inr (.inl (changed6,(i1+(1:Int)),p7))))
def ZdV (list_:List D7_):Bool×Int×(List Int)→Option ((Bool×Int×(List Int))⊕((Bool×(List Int))⊕(Int×(List Int)))):=fun (changed4,i1,p6)=>
 cond (decide (i1<(list_.length:Int))) (
  rq (0≤i1∧i1<list_.length) <|
  (Zm8 (list_.getD i1.toNat ([],0)) p6).bind fun r13_=>
  cond (decide (r13_<(0:Int))) (
   some (.inr (.inr (i1,p6)))) (
   rq (0≤i1∧i1<list_.length) <|
   (ZhG (list_.getD i1.toNat ([],0)) p6).bind fun r14_=>
   loop (ZdW i1 r14_) (changed4,(0:Int),p6))) (
  some (.inr (.inl (changed4,p6))))
def ZfD (list_:List D7_):Bool×(List Int)→Option ((Bool×(List Int))⊕(Int×(List Int))):=fun (changed,p4)=>
 cond changed (
  loop (ZdV list_) (false,(0:Int),p4)) (
  some (.inr ((-1:Int),p4)))
def ZeS (list_:List D7_) (p:List Int):Option (Int×(List Int)):=
 loop (ZfD list_) (true,p)
def Zim (s_2:Int) (o0:List D7_) (o1:List Zw):(List Int)→Option (Int×(List D7_)×(List Zw)):=fun lits1=>
 (ZiP lits1).bind fun r1_=>
 rq (o0.length+[(r1_.2.2,r1_.2.1)].length≤Zl) <|
 rq (o1.length+[((7:Int),((0:Int),((0:Int),(r1_.2.2,r1_.2.1))))].length≤Zl) <|
 some (s_2,(o0++[(r1_.2.2,r1_.2.1)]),(o1++[((7:Int),((0:Int),((0:Int),(r1_.2.2,r1_.2.1))))]))
def Zdb (s_2:Int) (decisions:List Int) (o0:List D7_) (o1:List Zw):Int×(List Int)→Option ((Int×(List Int))⊕(Int×(List D7_)×(List Zw))):=fun (i,lits)=>
 cond (decide (i<(decisions.length:Int))) (
  rq (0≤i∧i<decisions.length) <|
  rq (i64 (0 - (decisions.getD i.toNat 0))) <|
  rq (lits.length+[(0 - (decisions.getD i.toNat 0))].length≤Zl) <|
  rq (i64 (i+(1:Int))) <|
  some (.inl ((i+(1:Int)),(lits++[(0 - (decisions.getD i.toNat 0))])))) (
  up (Zim s_2 o0 o1 lits))
def ZdE (s_2:Int) (decisions:List Int) (o0:List D7_) (o1:List Zw):Option (Int×(List D7_)×(List Zw)):=
 loop (Zdb s_2 decisions o0 o1) ((0:Int),([]:List Int))
def Zkl (p:List Int):Int→Option (Int⊕Int):=fun i=>
 cond (decide (i<(p.length:Int))) (
  rq (0≤i∧i<p.length) <|
  cond ((p.getD i.toNat 0)==(0:Int)) (
   rq (i64 (i+(1:Int))) <|
   some (.inr (i+(1:Int)))) (
   rq (i64 (i+(1:Int))) <|
   some (.inl (i+(1:Int))))) (
  some (.inr (0:Int)))
def Zjr (p:List Int):Option Int:=
 loop (Zkl p) (0:Int)
def Zle (a0_2:Int) (o0:List D7_) (o1:List Zw):(List Bool)→Option (Int×Int×(List Bool)×(List D7_)×(List Zw)):=fun i5=>
 some ((1:Int),(a0_2 - (1:Int)),i5,o0,o1)
def ZcZ (a0_2:Int) (o0:List D7_) (o1:List Zw) (r3_:Int×(List Int)):Int×(List Bool)→Option ((Int×(List Bool))⊕(Int×Int×(List Bool)×(List D7_)×(List Zw))):=fun (i3,i4)=>
 cond (decide (i3<(r3_.2.length:Int))) (
  rq (0≤i3∧i3<r3_.2.length) <|
  rq (i4.length+[(decide ((0:Int)<(r3_.2.getD i3.toNat 0)))].length≤Zl) <|
  rq (i64 (i3+(1:Int))) <|
  some (.inl ((i3+(1:Int)),(i4++[(decide ((0:Int)<(r3_.2.getD i3.toNat 0)))])))) (
  up (Zle a0_2 o0 o1 i4))
def Zhl (a1:List Int):Int×(List D7_)×(List Zw)→Option (Int×Int×(List Bool)×(List D7_)×(List Zw)):=fun (i_23,i_03,i_13)=>
 cond (decide ((1000:Int)≤(i_13.length:Int))) (
  some ((0:Int),i_23,([]:List Bool),i_03,i_13)) (
  (ZdE i_23 a1 i_03 i_13).bind fun r9_=>
  some ((2:Int),r9_.1,([]:List Bool),r9_.2.1,r9_.2.2))
def Zhm (i6:Int):Int×Int×(List Bool)×(List D7_)×(List Zw)→Option ((Int×Int×(List D7_)×(List Zw))⊕(Int×Int×(List Bool)×(List D7_)×(List Zw))):=fun (i9,i_22,i10,i_02,i_12)=>
 cond (i9 != (2:Int)) (
  some (.inr (i9,i_22,i10,i_02,i_12))) (
  rq (i64 (i6+(1:Int))) <|
  some (.inl ((i6+(1:Int)),i_22,i_02,i_12)))
def Zet (a1:List Int) (r5_:Int) (rec_:Int→(List Int)→(List D7_)→(List Zw)→Option (Int×Int×(List Bool)×(List D7_)×(List Zw))):Int×Int×(List D7_)×(List Zw)→Option ((Int×Int×(List D7_)×(List Zw))⊕(Int×Int×(List Bool)×(List D7_)×(List Zw))):=fun (i6,i_21,i_01,i_11)=>
 cond (decide (i6<([r5_,(0 - r5_)].length:Int))) (
  rq (0≤i6∧i6 < [r5_,(0 - r5_)].length) <|
  rq (([]:List Int).length+a1.length≤Zl) <|
  rq ((([]:List Int)++a1).length+[([r5_,(0 - r5_)].getD i6.toNat 0)].length≤Zl) <|
  (rec_ i_21 ((([]:List Int)++a1)++[([r5_,(0 - r5_)].getD i6.toNat 0)]) i_01 i_11).bind fun r8_=>
  Zhm i6 (r8_.1,r8_.2.1,r8_.2.2.1,r8_.2.2.2.1,r8_.2.2.2.2)) (
  up (Zhl a1 (i_21,i_01,i_11)))
def Zct (a0_2:Int) (a1:List Int) (o0:List D7_) (o1:List Zw) (rec_:Int→(List Int)→(List D7_)→(List Zw)→Option (Int×Int×(List Bool)×(List D7_)×(List Zw))):(List Int)→Option (Int×Int×(List Bool)×(List D7_)×(List Zw)):=fun i2=>
 (ZeS o0 i2).bind fun r3_=>
 cond (decide ((0:Int)≤r3_.1)) (
  (ZdE (a0_2 - (1:Int)) a1 o0 o1).bind fun r4_=>
  some ((2:Int),r4_.1,([]:List Bool),r4_.2.1,r4_.2.2)) (
  (Zjr r3_.2).bind fun r5_=>
  cond (r5_==(0:Int)) (
   loop (ZcZ a0_2 o0 o1 r3_) ((0:Int),([]:List Bool))) (
   rq (i64 (0 - r5_)) <|
   loop (Zet a1 r5_ rec_) ((0:Int),(a0_2 - (1:Int)),o0,o1)))
def ZdF (a0_2:Int) (a1:List Int) (o0:List D7_) (o1:List Zw) (rec_:Int→(List Int)→(List D7_)→(List Zw)→Option (Int×Int×(List Bool)×(List D7_)×(List Zw))):Int×(List Int)→Option ((Int×(List Int))⊕(Int×Int×(List Bool)×(List D7_)×(List Zw))):=fun (i,i1)=>
 cond (decide (i<(a1.length:Int))) (
  rq (0≤i∧i<a1.length) <|
  (ZgH (a1.getD i.toNat 0) i1).bind fun r2_=>
  rq (i64 (i+(1:Int))) <|
  some (.inl ((i+(1:Int)),r2_))) (
  up (Zct a0_2 a1 o0 o1 rec_ i1))
def ZbA (rec_:Int→(List Int)→(List D7_)→(List Zw)→Option (Int×Int×(List Bool)×(List D7_)×(List Zw))) (a0_2:Int) (a1:List Int) (o0:List D7_) (o1:List Zw):Option (Int×Int×(List Bool)×(List D7_)×(List Zw)):=
 cond (a0_2==(0:Int)) (
  some ((0:Int),a0_2,([]:List Bool),o0,o1)) (
  cond (decide ((1000:Int)≤(o1.length:Int))) (
   some ((0:Int),a0_2,([]:List Bool),o0,o1)) (
   rq (i64 (a0_2 - (1:Int))) <|
   rq (0≤(12:Int)∧(12:Int)≤Zl∧(12:Int)=(12:Int)) <|
   loop (ZdF a0_2 a1 o0 o1 rec_) ((0:Int),(List.replicate (12:Int).toNat 0))))
def Z9:Nat→Int→(List Int)→(List D7_)→(List Zw)→Option (Int×Int×(List Bool)×(List D7_)×(List Zw))
  |0=>fun _ _ _ _=>none
  |n_+1=>ZbA (Z9 n_)
def Zqs (a0_2:Int) (o0:List D7_):(List Bool)→Option (Int×Int×(List Bool)×(List D7_)×(List Zw)):=fun i5=>
 some ((1:Int),(a0_2 - (1:Int)),i5,o0,([]:List Zw))
def Zqv (a0_2:Int) (o0:List D7_) (r3_:Int×(List Int)):Int×(List Bool)→Option ((Int×(List Bool))⊕(Int×Int×(List Bool)×(List D7_)×(List Zw))):=fun (i3,i4)=>
 cond (decide (i3<(r3_.2.length:Int))) (
  rq (0≤i3∧i3<r3_.2.length) <|
  rq (i4.length+[(decide ((0:Int)<(r3_.2.getD i3.toNat 0)))].length≤Zl) <|
  rq (i64 (i3+(1:Int))) <|
  some (.inl ((i3+(1:Int)),(i4++[(decide ((0:Int)<(r3_.2.getD i3.toNat 0)))])))) (
  up (Zqs a0_2 o0 i4))
def Zqt (a1:List Int):Int×(List D7_)×(List Zw)→Option (Int×Int×(List Bool)×(List D7_)×(List Zw)):=fun (i_23,i_03,i_13)=>
 cond (decide ((1000:Int)≤(i_13.length:Int))) (
  some ((0:Int),i_23,([]:List Bool),i_03,i_13)) (
  (ZdE i_23 a1 i_03 i_13).bind fun r9_=>
  some ((2:Int),r9_.1,([]:List Bool),r9_.2.1,r9_.2.2))
def Zqu (i6:Int):Int×Int×(List Bool)×(List D7_)×(List Zw)→Option ((Int×Int×(List D7_)×(List Zw))⊕(Int×Int×(List Bool)×(List D7_)×(List Zw))):=fun (i9,i_22,i10,i_02,i_12)=>
 cond (i9 != (2:Int)) (
  some (.inr (i9,i_22,i10,i_02,i_12))) (
  rq (i64 (i6+(1:Int))) <|
  some (.inl ((i6+(1:Int)),i_22,i_02,i_12)))
def Zl1 (a1:List Int) (r5_:Int):Int×Int×(List D7_)×(List Zw)→Option ((Int×Int×(List D7_)×(List Zw))⊕(Int×Int×(List Bool)×(List D7_)×(List Zw))):=fun (i6,i_21,i_01,i_11)=>
 cond (decide (i6<([r5_,(0 - r5_)].length:Int))) (
  rq (0≤i6∧i6 < [r5_,(0 - r5_)].length) <|
  rq (([]:List Int).length+a1.length≤Zl) <|
  rq ((([]:List Int)++a1).length+[([r5_,(0 - r5_)].getD i6.toNat 0)].length≤Zl) <|
  (Z9 64 i_21 ((([]:List Int)++a1)++[([r5_,(0 - r5_)].getD i6.toNat 0)]) i_01 i_11).bind fun r8_=>
  Zqu i6 (r8_.1,r8_.2.1,r8_.2.2.1,r8_.2.2.2.1,r8_.2.2.2.2)) (
  up (Zqt a1 (i_21,i_01,i_11)))
def Zin (a0_2:Int) (a1:List Int) (o0:List D7_):(List Int)→Option (Int×Int×(List Bool)×(List D7_)×(List Zw)):=fun i2=>
 (ZeS o0 i2).bind fun r3_=>
 cond (decide ((0:Int)≤r3_.1)) (
  (ZdE (a0_2 - (1:Int)) a1 o0 ([]:List Zw)).bind fun r4_=>
  some ((2:Int),r4_.1,([]:List Bool),r4_.2.1,r4_.2.2)) (
  (Zjr r3_.2).bind fun r5_=>
  cond (r5_==(0:Int)) (
   loop (Zqv a0_2 o0 r3_) ((0:Int),([]:List Bool))) (
   rq (i64 (0 - r5_)) <|
   loop (Zl1 a1 r5_) ((0:Int),(a0_2 - (1:Int)),o0,([]:List Zw))))
def Zio (a0_2:Int) (a1:List Int) (o0:List D7_):Int×(List Int)→Option ((Int×(List Int))⊕(Int×Int×(List Bool)×(List D7_)×(List Zw))):=fun (i,i1)=>
 cond (decide (i<(a1.length:Int))) (
  rq (0≤i∧i<a1.length) <|
  (ZgH (a1.getD i.toNat 0) i1).bind fun r2_=>
  rq (i64 (i+(1:Int))) <|
  some (.inl ((i+(1:Int)),r2_))) (
  up (Zin a0_2 a1 o0 i1))
def Zld (a0_2:Int) (a1:List Int) (o0:List D7_):Option (Int×Int×(List Bool)×(List D7_)×(List Zw)):=
 cond (a0_2==(0:Int)) (
  some ((0:Int),a0_2,([]:List Bool),o0,([]:List Zw))) (
  cond (decide ((1000:Int)≤(0:Int))) (
   some ((0:Int),a0_2,([]:List Bool),o0,([]:List Zw))) (
   rq (i64 (a0_2 - (1:Int))) <|
   rq (0≤(12:Int)∧(12:Int)≤Zl∧(12:Int)=(12:Int)) <|
   loop (Zio a0_2 a1 o0) ((0:Int),(List.replicate (12:Int).toNat 0))))
def Zq4 (c_:(List D6_)×Int):Option (Int×(List D6_)):=
 rq (([]:List D6_).length+c_.1.length≤Zl) <|
 some (c_.2,(([]:List D6_)++c_.1))
def Zla (r2_:Int×Int×(List Bool)×(List D7_)×(List Zw)):(List Zw)→Option (Int×(List Bool)×(List Zw)):=fun i2=>
 some (r2_.1,([]:List Bool),i2)
def Zes (r2_:Int×Int×(List Bool)×(List D7_)×(List Zw)):Int×(List Zw)→Option ((Int×(List Zw))⊕(Int×(List Bool)×(List Zw))):=fun (i,i1)=>
 cond (decide (i<(r2_.2.2.2.2.length:Int))) (
  rq (0≤i∧i<r2_.2.2.2.2.length) <|
  (Zq4 (r2_.2.2.2.2.getD i.toNat (0,(0,(0,([],0))))).2.2.2).bind fun r4_=>
  rq (i1.length+[((r2_.2.2.2.2.getD i.toNat (0,(0,(0,([],0))))).1,((r2_.2.2.2.2.getD i.toNat (0,(0,(0,([],0))))).2.1,((r2_.2.2.2.2.getD i.toNat (0,(0,(0,([],0))))).2.2.1,(r4_.2,r4_.1))))].length≤Zl) <|
  rq (i64 (i+(1:Int))) <|
  some (.inl ((i+(1:Int)),(i1++[((r2_.2.2.2.2.getD i.toNat (0,(0,(0,([],0))))).1,((r2_.2.2.2.2.getD i.toNat (0,(0,(0,([],0))))).2.1,((r2_.2.2.2.2.getD i.toNat (0,(0,(0,([],0))))).2.2.1,(r4_.2,r4_.1))))])))) (
  up (Zla r2_ i1))
def ZjN (a0:List D7_) (a1:Int):Option (Int×(List Bool)×(List Zw)):=
 (ZjM a0).bind fun r1_=>
 cond (!r1_) (
  some ((3:Int),([]:List Bool),([]:List Zw))) (
  cond (decide (a1<(0:Int))) (
   some ((3:Int),([]:List Bool),([]:List Zw))) (
   cond (decide ((2000:Int)<a1)) (
    some ((3:Int),([]:List Bool),([]:List Zw))) (
    rq (([]:List D7_).length+a0.length≤Zl) <|
    (Zld a1 ([]:List Int) (([]:List D7_)++a0)).bind fun r2_=>
    cond (r2_.1 != (2:Int)) (
     some (r2_.1,r2_.2.2.1,([]:List Zw))) (
     loop (Zes r2_) ((0:Int),([]:List Zw))))))
def Zhj (m:(List Int)×(List D5_)) (values:List Bool) (i:Int) (out:List Int):Int×Int×Int→Option ((Int×Int×Int)⊕((Int×(List Int))⊕(Bool×(List Int)))):=fun (v1,n1,k_1)=>
 rq (0≤i∧i<m.1.length) <|
 cond (decide (k_1≤(m.1.getD i.toNat 0))) (
  (Zhn m i k_1).bind fun r3_=>
  rq (i64 (r3_ - (1:Int))) <|
  rq (0≤(r3_ - (1:Int))∧(r3_ - (1:Int))<values.length) <|
  cond (values.getD (r3_ - (1:Int)).toNat false) (
   rq (i64 (n1+(1:Int))) <|
   rq (i64 (k_1+(1:Int))) <|
   some (.inl (k_1,(n1+(1:Int)),(k_1+(1:Int))))) (
   rq (i64 (k_1+(1:Int))) <|
   some (.inl (v1,n1,(k_1+(1:Int)))))) (
  cond (n1 != (1:Int)) (
   some (.inr (.inr (false,([]:List Int))))) (
   rq (out.length+[v1].length≤Zl) <|
   rq (i64 (i+(1:Int))) <|
   some (.inr (.inl ((i+(1:Int)),(out++[v1]))))))
def Zhi (m:(List Int)×(List D5_)) (values:List Bool):Int×(List Int)→Option ((Int×(List Int))⊕(Bool×(List Int))):=fun (i,out)=>
 cond (decide (i<(m.1.length:Int))) (
  loop (Zhj m values i out) ((-1:Int),(0:Int),(0:Int))) (
  some (.inr (true,out)))
def ZjL (m:(List Int)×(List D5_)) (values:List Bool):Option (Bool×(List Int)):=
 (Zgw m).bind fun r1_=>
 cond (!r1_) (
  some (false,([]:List Int))) (
  cond ((values.length:Int) != (12:Int)) (
   some (false,([]:List Int))) (
   loop (Zhi m values) ((0:Int),([]:List Int))))
def Zer (a0:(List Int)×(List D5_)) (i1:List Int) (r11_:Int×(List Bool)×(List Zw)):Unit→Option ((List Int)⊕(Int×(List Int)×(List Zw))):=fun _=>
 cond (r11_.1==(2:Int)) (
  some (.inr ((1:Int),i1,r11_.2.2))) (
  (ZjL a0 r11_.2.1).bind fun r12_=>
  some (.inl r12_.2))
def ZcY (a0:(List Int)×(List D5_)) (a2:Int) (i1:List Int):(List D7_)→Option ((List Int)⊕(Int×(List Int)×(List Zw))):=fun i2=>
 (ZjN i2 a2).bind fun r11_=>
 cond (r11_.1==(0:Int)) (
  some (.inr (r11_.1,i1,([]:List Zw)))) (
  cond (r11_.1==(2:Int)) (
   cond ((i1.length:Int)==(0:Int)) (
    some (.inr (r11_.1,i1,r11_.2.2))) (
    Zer a0 i1 r11_ ())) (
   Zer a0 i1 r11_ ()))
def Zk9 (a0:(List Int)×(List D5_)) (a2:Int) (r1_:Bool×(List D7_)) (i1:List Int):Int×(List D6_)→Option ((List Int)⊕(Int×(List Int)×(List Zw))):=fun (i_11,i_01)=>
 rq ((([]:List D7_)++r1_.2).length+[(i_01,i_11)].length≤Zl) <|
 ZcY a0 a2 i1 ((([]:List D7_)++r1_.2)++[(i_01,i_11)])
def Zcs (a0:(List Int)×(List D5_)) (a1:List Int) (a2:Int) (r1_:Bool×(List D7_)):(List Int)→Option ((List Int)⊕(Int×(List Int)×(List Zw))):=fun i1=>
 rq (([]:List D7_).length+r1_.2.length≤Zl) <|
 cond (decide ((0:Int)<(i1.length:Int))) (
  (Zqf a1 i1).bind fun r9_=>
  rq (i64 (r9_ - (1:Int))) <|
  (Zgu a0 a1 (r9_ - (1:Int))).bind fun r10_=>
  Zk9 a0 a2 r1_ i1 (r10_.2.1,r10_.2.2)) (
  ZcY a0 a2 i1 (([]:List D7_)++r1_.2))
def ZgW (a0:(List Int)×(List D5_)) (a1:List Int) (a2:Int):Option (Int×(List Int)×(List Zw)):=
 (Zk8 a0).bind fun r1_=>
 cond (!r1_.1) (
  some ((3:Int),([]:List Int),([]:List Zw))) (
  (Zna a0 a1).bind fun r2_=>
  cond (!r2_) (
   some ((3:Int),([]:List Int),([]:List Zw))) (
   cond (decide (a2<(0:Int))) (
    some ((3:Int),([]:List Int),([]:List Zw))) (
    cond (decide ((2000:Int)<a2)) (
     some ((3:Int),([]:List Int),([]:List Zw))) (
     cond (decide ((400:Int)≤(r1_.2.length:Int))) (
      some ((3:Int),([]:List Int),([]:List Zw))) (
      loop (Zcs a0 a1 a2 r1_) ([]:List Int))))))
def Znq (a:List Int) (b:List Int):Int→Option (Int⊕Bool):=fun i=>
 cond (decide (i<(a.length:Int))) (
  rq (0≤i∧i<a.length) <|
  rq (0≤i∧i<b.length) <|
  cond ((a.getD i.toNat 0) != (b.getD i.toNat 0)) (
   some (.inr false)) (
   rq (i64 (i+(1:Int))) <|
   some (.inl (i+(1:Int))))) (
  some (.inr true))
def Zhw (a:List Int) (b:List Int):Option Bool:=
 cond ((a.length:Int) != (b.length:Int)) (
  some false) (
  loop (Znq a b) (0:Int))
def Zd1 (s1_:List D6_) (s2_:List D6_):Int→Option (Int⊕Bool):=fun i=>
 cond (decide (i<(s1_.length:Int))) (
  rq (0≤i∧i<s1_.length) <|
  rq (0≤i∧i<s2_.length) <|
  cond (!((s1_.getD i.toNat (0,0)).1==(s2_.getD i.toNat (0,0)).1&&(s1_.getD i.toNat (0,0)).2==(s2_.getD i.toNat (0,0)).2)) (
   some (.inr false)) (
   rq (i64 (i+(1:Int))) <|
   some (.inl (i+(1:Int))))) (
  some (.inr true))
def ZdR (s1_:List D6_) (s2_:List D6_):Option Bool:=
 cond ((s1_.length:Int) != (s2_.length:Int)) (
  some false) (
  loop (Zd1 s1_ s2_) (0:Int))
def Zbc (a:(List D6_)×Int) (b:(List D6_)×Int):Option Bool:=
 cond (a.2==b.2) (
  (ZdR a.1 b.1).bind fun r1_=>
  some r1_) (
  some false)
def ZkU (s_:Int×Int×Int×(List D6_)×Int) (t_:Int×Int×Int×(List D6_)×Int):Option Bool:=
 cond (s_.1==t_.1) (
  cond (s_.2.1==t_.2.1) (
   cond (s_.2.2.1==t_.2.2.1) (
    (Zbc s_.2.2.2 t_.2.2.2).bind fun r1_=>
    some r1_) (
    some false)) (
   some false)) (
  some false)
def Zbf (s1_:List Zw) (s2_:List Zw):Int→Option (Int⊕Bool):=fun i=>
 cond (decide (i<(s1_.length:Int))) (
  rq (0≤i∧i<s1_.length) <|
  rq (0≤i∧i<s2_.length) <|
  (ZkU (s1_.getD i.toNat (0,(0,(0,([],0))))) (s2_.getD i.toNat (0,(0,(0,([],0)))))).bind fun r1_=>
  cond (!r1_) (
   some (.inr false)) (
   rq (i64 (i+(1:Int))) <|
   some (.inl (i+(1:Int))))) (
  some (.inr true))
def Zc1 (s1_:List Zw) (s2_:List Zw):Option Bool:=
 cond ((s1_.length:Int) != (s2_.length:Int)) (
  some false) (
  loop (Zbf s1_ s2_) (0:Int))
def ZeX (a:List Zw) (b:List Zw):Option Bool:=
 (Zc1 a b).bind fun r1_=>
 some r1_
def ZpX (r_:Int×(List Int)×(List Int)×Int×(List (List Int))):(List Int)→Option Bool:=fun vals1=>
 (Zi4 r_ vals1).bind fun r1_=>
 some r1_
def Zmf (r_:Int×(List Int)×(List Int)×Int×(List (List Int))) (cells:List Int):Int×(List Int)→Option ((Int×(List Int))⊕Bool):=fun (i,vals)=>
 cond (decide (i<(r_.2.1.length:Int))) (
  rq (0≤i∧i<r_.2.1.length) <|
  rq (0≤(r_.2.1.getD i.toNat 0)∧(r_.2.1.getD i.toNat 0)<cells.length) <|
  rq (vals.length+[(cells.getD (r_.2.1.getD i.toNat 0).toNat 0)].length≤Zl) <|
  rq (i64 (i+(1:Int))) <|
  some (.inl ((i+(1:Int)),(vals++[(cells.getD (r_.2.1.getD i.toNat 0).toNat 0)])))) (
  up (ZpX r_ vals))
def ZpW (r_:Int×(List Int)×(List Int)×Int×(List (List Int))) (cells:List Int):Option Bool:=
 loop (Zmf r_ cells) ((0:Int),([]:List Int))
def ZlX (r_:Int×(List Int)×(List Int)×Int×(List (List Int))) (o0:List Int):Option Bool:=
 (ZpW r_ o0).bind fun r1_=>
 some (!r1_)
def Z7 (s_:List D5_) (o0:List Int):Int→Option (Int⊕Int):=fun i=>
 cond (decide (i<(s_.length:Int))) (
  rq (0≤i∧i<s_.length) <|
  (ZlX (s_.getD i.toNat (0,([],([],(0,[]))))) o0).bind fun r1_=>
  cond r1_ (
   some (.inr i)) (
   rq (i64 (i+(1:Int))) <|
   some (.inl (i+(1:Int))))) (
  some (.inr (-1:Int)))
def ZcE (s_:List D5_) (o0:List Int):Option Int:=
 loop (Z7 s_ o0) (0:Int)
def Zcr (s_:List D5_) (o0:List Int):Option Bool:=
 (ZcE s_ o0).bind fun r1_=>
 some (decide ((0:Int)≤r1_))
def ZgM (m:(List Int)×(List D5_)) (cells:List Int):Option Bool:=
 (Zcr m.2 cells).bind fun r1_=>
 some (!r1_)
def Zen (o0:(List Int)×(List D5_)) (o2:List Int) (cells:List Int) (o4:List Int):Option (Bool×(List Int)):=
 (ZgM o0 cells).bind fun r4_=>
 cond r4_ (
  cond o4.isEmpty (
   (Zbu cells).bind fun r19_=>
   rq (r19_≠[]) <|
   some (true,r19_)) (
   (Zfg o2 cells).bind fun r5_=>
   (Zfg o2 o4).bind fun r6_=>
   cond (decide (r5_<r6_)) (
    (Zbu cells).bind fun r7_=>
    rq (r7_≠[]) <|
    some (true,r7_)) (
    some (true,o4)))) (
  some (true,o4))
def Zco (r3_:Bool×(List Int)):Int×(List Int)→Option (((List Int)×(List Int))⊕(List Int)):=fun (i3,cells4)=>
 cond (decide (i3<(0:Int))) (
  some (.inr r3_.2)) (
  rq (0≤i3∧i3<cells4.length) <|
  rq (i64 ((cells4.getD i3.toNat 0)+(1:Int))) <|
  rq (0≤i3∧i3<cells4.length) <|
  some (.inl ((cells4.set i3.toNat ((cells4.getD i3.toNat 0)+(1:Int))),r3_.2)))
def ZbL (sizes:List Int) (r3_:Bool×(List Int)):Int×(List Int)→Option ((Int×(List Int))⊕(((List Int)×(List Int))⊕(List Int))):=fun (i2,cells3)=>
 cond (decide ((0:Int)≤i2)) (
  rq (0≤i2∧i2<cells3.length) <|
  rq (0≤i2∧i2<sizes.length) <|
  cond ((cells3.getD i2.toNat 0)==(sizes.getD i2.toNat 0)) (
   rq (0≤i2∧i2<cells3.length) <|
   rq (i64 (i2 - (1:Int))) <|
   some (.inl ((i2 - (1:Int)),(cells3.set i2.toNat (0:Int))))) (
   up (Zco r3_ (i2,cells3)))) (
  up (Zco r3_ (i2,cells3)))
def Zcp (sizes:List Int) (o0:(List Int)×(List D5_)) (o2:List Int):(List Int)×(List Int)→Option (((List Int)×(List Int))⊕(List Int)):=fun (cells2,cap)=>
 (Zen o0 o2 cells2 cap).bind fun r3_=>
 cond r3_.1 (
  rq (i64 ((cells2.length:Int) - (1:Int))) <|
  loop (ZbL sizes r3_) (((cells2.length:Int) - (1:Int)),cells2)) (
  some (.inr r3_.2))
def ZcK (sizes:List Int) (from_:List Int) (o0:(List Int)×(List D5_)) (o2:List Int):Option (List Int):=
 (Zbu from_).bind fun r1_=>
 loop (Zcp sizes o0 o2) (r1_,([]:List Int))
def Zpq:(List Int)→Option (Bool×(List Int)):=fun best=>
 some ((!best.isEmpty),best)
def Zga (m:(List Int)×(List D5_)) (coefs:List Int):Option (Bool×(List Int)):=
 (ZeB m).bind fun r1_=>
 cond (!r1_) (
  some (false,([]:List Int))) (
  (Zee m coefs).bind fun r2_=>
  cond (!r2_) (
   some (false,([]:List Int))) (
   rq (0≤(m.1.length:Int)∧(m.1.length:Int)≤Zl∧(m.1.length:Int)=(m.1.length:Int)) <|
   (ZcK m.1 (List.replicate (m.1.length:Int).toNat 0) m coefs).bind fun r4_=>
   Zpq r4_))
def Zi2 (m:(List Int)×(List D5_)) (cells:List Int):Int→Option (Int⊕Bool):=fun i=>
 cond (decide (i<(cells.length:Int))) (
  rq (0≤i∧i<cells.length) <|
  rq (0≤i∧i<m.1.length) <|
  (ZbG (cells.getD i.toNat 0) (0:Int) (m.1.getD i.toNat 0)).bind fun r2_=>
  cond (!r2_) (
   some (.inr false)) (
   rq (i64 (i+(1:Int))) <|
   some (.inl (i+(1:Int))))) (
  some (.inr true))
def Zi1 (m:(List Int)×(List D5_)) (cells:List Int):Option Bool:=
 (ZeB m).bind fun r1_=>
 cond (!r1_) (
  some false) (
  cond ((cells.length:Int) != (m.1.length:Int)) (
   some false) (
   loop (Zi2 m cells) (0:Int)))
def ZdT (m:(List Int)×(List D5_)) (coefs:List Int) (cells:List Int):Option (Int×Bool):=
 (Zi1 m cells).bind fun r1_=>
 cond (!r1_) (
  some ((0:Int),false)) (
  (Zee m coefs).bind fun r2_=>
  cond (!r2_) (
   some ((0:Int),false)) (
   (Zfg coefs cells).bind fun r3_=>
   some (r3_,true)))
def ZkW (m:(List Int)×(List D5_)) (cells:List Int):Option Bool:=
 (Zi1 m cells).bind fun r1_=>
 cond r1_ (
  (ZgM m cells).bind fun r2_=>
  some r2_) (
  some false)
def Zom (kind:Int):Option (Int×Bool):=
 cond (kind==(1:Int)) (
  some ((2:Int),false)) (
  cond (kind==(2:Int)) (
   some ((1:Int),true)) (
   cond (kind==(3:Int)) (
    some ((1:Int),true)) (
    cond (kind==(5:Int)) (
     some ((1:Int),true)) (
     cond (kind==(4:Int)) (
      some ((1:Int),false)) (
      cond (kind==(8:Int)) (
       some ((1:Int),false)) (
       cond (kind==(6:Int)) (
        some ((0:Int),false)) (
        cond (kind==(7:Int)) (
         some ((0:Int),false)) (
         some ((-1:Int),false)))))))))
def ZkX (s_:Int×Int×Int×(List D6_)×Int):Option Bool:=
 (Zom s_.1).bind fun r1_=>
 cond (decide ((0:Int)≤r1_.1)) (
  cond (decide ((0:Int)<r1_.1)) (
   cond (r1_.1==(2:Int)) (
    cond (s_.1==(7:Int)) (
     some true) (
     (Zbc s_.2.2.2 (([]:List D6_),(0:Int))).bind fun r10_=>
     some r10_)) (
    cond r1_.2 (
     cond (s_.1==(7:Int)) (
      some true) (
      (Zbc s_.2.2.2 (([]:List D6_),(0:Int))).bind fun r9_=>
      some r9_)) (
     cond (s_.2.2.1==(0:Int)) (
      cond (s_.1==(7:Int)) (
       some true) (
       (Zbc s_.2.2.2 (([]:List D6_),(0:Int))).bind fun r8_=>
       some r8_)) (
      some false)))) (
   cond (s_.1==(6:Int)) (
    cond (r1_.1==(2:Int)) (
     cond (s_.1==(7:Int)) (
      some true) (
      (Zbc s_.2.2.2 (([]:List D6_),(0:Int))).bind fun r7_=>
      some r7_)) (
     cond r1_.2 (
      cond (s_.1==(7:Int)) (
       some true) (
       (Zbc s_.2.2.2 (([]:List D6_),(0:Int))).bind fun r6_=>
       some r6_)) (
      cond (s_.2.2.1==(0:Int)) (
       cond (s_.1==(7:Int)) (
        some true) (
        (Zbc s_.2.2.2 (([]:List D6_),(0:Int))).bind fun r5_=>
        some r5_)) (
       some false)))) (
    cond (s_.2.1==(0:Int)) (
     cond (r1_.1==(2:Int)) (
      cond (s_.1==(7:Int)) (
       some true) (
       (Zbc s_.2.2.2 (([]:List D6_),(0:Int))).bind fun r4_=>
       some r4_)) (
      cond r1_.2 (
       cond (s_.1==(7:Int)) (
        some true) (
        (Zbc s_.2.2.2 (([]:List D6_),(0:Int))).bind fun r3_=>
        some r3_)) (
       cond (s_.2.2.1==(0:Int)) (
        cond (s_.1==(7:Int)) (
         some true) (
         (Zbc s_.2.2.2 (([]:List D6_),(0:Int))).bind fun r2_=>
         some r2_)) (
        some false)))) (
     some false)))) (
  some false)
def Zd3 (i:Int) (o1:List D7_) (o2:List Bool):Option Bool:=
 rq (i64 ((o1.length:Int) - (1:Int))) <|
 (ZbG i (0:Int) ((o1.length:Int) - (1:Int))).bind fun r1_=>
 cond r1_ (
  rq (0≤i∧i<o2.length) <|
  some (!(o2.getD i.toNat false))) (
  some false)
def Zgt (n:Int):Option (List D6_):=
 cond (decide (n<(0:Int))) (
  none) (
  rq (i64 ((0:Int) - (0:Int))) <|
  rq (i64 (n - ((0:Int) - (0:Int)))) <|
  cond (decide ((0:Int)<(n - ((0:Int) - (0:Int))))) (
   rq ((0:Int)=0) <|
   rq (1≤(n - ((0:Int) - (0:Int)))∧(n - ((0:Int) - (0:Int)))≤Zl) <|
   rq (0≤(0:Int)∧(0:Int)≤(List.replicate (n - ((0:Int) - (0:Int))).toNat (0,0)).length) <|
   some ((List.replicate (n - ((0:Int) - (0:Int))).toNat (0,0)).take (0:Int).toNat)) (
   some ([]:List D6_)))
def ZbT (slices:List (List D6_)):Int×(List D6_)→Option ((Int×(List D6_))⊕((Int×Int)⊕(List D6_))):=fun (i1,newslice)=>
 cond (decide (i1<(slices.length:Int))) (
  rq (0≤i1∧i1<slices.length) <|
  rq (newslice.length+(slices.getD i1.toNat []).length≤Zl) <|
  rq (i64 (i1+(1:Int))) <|
  some (.inl ((i1+(1:Int)),(newslice++(slices.getD i1.toNat []))))) (
  some (.inr (.inr newslice)))
def ZbS (slices:List (List D6_)):Int×Int→Option ((Int×Int)⊕(List D6_)):=fun (size,i)=>
 cond (decide (i<(slices.length:Int))) (
  rq (0≤i∧i<slices.length) <|
  rq (i64 (size+((slices.getD i.toNat []).length:Int))) <|
  cond (decide ((size+((slices.getD i.toNat []).length:Int))<(0:Int))) (
   none) (
   rq (i64 (i+(1:Int))) <|
   some (.inl ((size+((slices.getD i.toNat []).length:Int)),(i+(1:Int)))))) (
  (Zgt size).bind fun r1_=>
  loop (ZbT slices) ((0:Int),r1_))
def Zfw (slices:List (List D6_)):Option (List D6_):=
 loop (ZbS slices) ((0:Int),(0:Int))
def Zjq (a:(List D6_)×Int) (b:(List D6_)×Int):Unit→Option (Bool×Int×(List D6_)):=fun _=>
 (Z6 a).bind fun r1_=>
 cond (!r1_) (
  some (false,(0:Int),([]:List D6_))) (
  (Z6 b).bind fun r2_=>
  cond (!r2_) (
   some (false,(0:Int),([]:List D6_))) (
   rq (i64 (a.2+b.2)) <|
   (Zfw [a.1,b.1]).bind fun r5_=>
   (Zhv r5_ (a.2+b.2)).bind fun r6_=>
   some (r6_.1,r6_.2.1,r6_.2.2)))
def Zia (a:(List D6_)×Int) (b:(List D6_)×Int):Option (Bool×Int×(List D6_)):=
 Zjq a b ()
def Zcn (n:Int) (o0:Int):Option Int:=
 rq (i64 (n*o0)) <|
 some (n*o0)
def Zdi (c_:(List D6_)×Int):Option (Bool×(List D6_)×Int):=
 (Z6 c_).bind fun r1_=>
 cond (!r1_) (
  some (false,([]:List D6_),(0:Int))) (
  some (true,c_.1,c_.2))
def Zb6 (r2_:Int):(List D6_)→Option (Bool×D7_):=fun out_01=>
 (Zdi (out_01,r2_)).bind fun r6_=>
 some (r6_.1,r6_.2)
def Zbm (o0:Int) (r1_:Int×(List D6_)) (r2_:Int):Int×(List D6_)→Option ((Int×(List D6_))⊕(Bool×D7_)):=fun (i,out_0)=>
 cond (decide (i<(r1_.2.length:Int))) (
  rq (0≤i∧i<out_0.length) <|
  (Zcn (out_0.getD i.toNat (0,0)).1 o0).bind fun r5_=>
  rq (0≤i∧i<out_0.length) <|
  rq (i64 (i+(1:Int))) <|
  some (.inl ((i+(1:Int)),(out_0.set i.toNat (r5_,(out_0.getD i.toNat (0,0)).2))))) (
  up (Zb6 r2_ out_0))
def ZbC (c_:(List D6_)×Int) (o0:Int):Option (Bool×D7_):=
 (ZeG c_).bind fun r1_=>
 (Zcn c_.2 o0).bind fun r2_=>
 loop (Zbm o0 r1_ r2_) ((0:Int),r1_.2)
def Zft (c_:(List D6_)×Int) (k_:Int):Option (Bool×(List D6_)×Int):=
 (Z6 c_).bind fun r1_=>
 cond (!r1_) (
  some (false,([]:List D6_),(0:Int))) (
  (ZbG k_ (1:Int) (1000:Int)).bind fun r2_=>
  cond (!r2_) (
   some (false,([]:List D6_),(0:Int))) (
   (ZbC c_ k_).bind fun r3_=>
   some (r3_.1,r3_.2.1,r3_.2.2)))
def Zeu (n:Int) (o0:Int):Option Int:=
 rq (i64 (n+o0)) <|
 rq (i64 ((n+o0) - (1:Int))) <|
 rq (1≤o0∧0≤((n+o0) - (1:Int))) <|
 some (((n+o0) - (1:Int)) / o0)
def Zcj (r2_:Int):(List D6_)→Option (Bool×D7_):=fun out_01=>
 (Zdi (out_01,r2_)).bind fun r6_=>
 some (r6_.1,r6_.2)
def Zbw (o0:Int) (r1_:Int×(List D6_)) (r2_:Int):Int×(List D6_)→Option ((Int×(List D6_))⊕(Bool×D7_)):=fun (i,out_0)=>
 cond (decide (i<(r1_.2.length:Int))) (
  rq (0≤i∧i<out_0.length) <|
  (Zeu (out_0.getD i.toNat (0,0)).1 o0).bind fun r5_=>
  rq (0≤i∧i<out_0.length) <|
  rq (i64 (i+(1:Int))) <|
  some (.inl ((i+(1:Int)),(out_0.set i.toNat (r5_,(out_0.getD i.toNat (0,0)).2))))) (
  up (Zcj r2_ out_0))
def ZbJ (c_:(List D6_)×Int) (o0:Int):Option (Bool×D7_):=
 (ZeG c_).bind fun r1_=>
 (Zeu c_.2 o0).bind fun r2_=>
 loop (Zbw o0 r1_ r2_) ((0:Int),r1_.2)
def Zgo (c_:(List D6_)×Int) (k_:Int):Option (Bool×(List D6_)×Int):=
 (Z6 c_).bind fun r1_=>
 cond (!r1_) (
  some (false,([]:List D6_),(0:Int))) (
  (ZbG k_ (1:Int) (1000:Int)).bind fun r2_=>
  cond (!r2_) (
   some (false,([]:List D6_),(0:Int))) (
   (ZbJ c_ k_).bind fun r3_=>
   some (r3_.1,r3_.2.1,r3_.2.2)))
def ZdN (c_:(List D6_)×Int):Int×(List D6_)→Option ((Int×(List D6_))⊕(Bool×Int×(List D6_))):=fun (i,out_0)=>
 cond (decide (i<(c_.1.length:Int))) (
  rq (0≤i∧i<c_.1.length) <|
  rq (out_0.length+[((min (c_.1.getD i.toNat (0,0)).1 c_.2),(c_.1.getD i.toNat (0,0)).2)].length≤Zl) <|
  rq (i64 (i+(1:Int))) <|
  some (.inl ((i+(1:Int)),(out_0++[((min (c_.1.getD i.toNat (0,0)).1 c_.2),(c_.1.getD i.toNat (0,0)).2)])))) (
  some (.inr (true,c_.2,out_0)))
def Zfu (c_:(List D6_)×Int):Option (Bool×Int×(List D6_)):=
 (Z6 c_).bind fun r1_=>
 cond (!r1_) (
  some (false,(0:Int),([]:List D6_))) (
  cond (decide ((0:Int)<c_.2)) (
   loop (ZdN c_) ((0:Int),([]:List D6_))) (
   some (true,c_.2,([]:List D6_))))
def Zff (c_:(List D6_)×Int) (variable_:Int):Int×Int×(List D6_)→Option ((Int×Int×(List D6_))⊕(Bool×Int×(List D6_))):=fun (i,out_1,out_0)=>
 cond (decide (i<(c_.1.length:Int))) (
  rq (0≤i∧i<c_.1.length) <|
  (Zdr (c_.1.getD i.toNat (0,0)).2).bind fun r4_=>
  cond (r4_==variable_) (
   rq (i64 (c_.2 - (c_.1.getD i.toNat (0,0)).1)) <|
   rq (i64 (i+(1:Int))) <|
   some (.inl ((i+(1:Int)),(max (0:Int) (c_.2 - (c_.1.getD i.toNat (0,0)).1)),out_0))) (
   rq (out_0.length+[(c_.1.getD i.toNat (0,0))].length≤Zl) <|
   rq (i64 (i+(1:Int))) <|
   some (.inl ((i+(1:Int)),out_1,(out_0++[(c_.1.getD i.toNat (0,0))]))))) (
  some (.inr (true,out_1,out_0)))
def Zgp (c_:(List D6_)×Int) (variable_:Int):Option (Bool×Int×(List D6_)):=
 (Z6 c_).bind fun r1_=>
 cond (!r1_) (
  some (false,(0:Int),([]:List D6_))) (
  (ZbG variable_ (1:Int) (12:Int)).bind fun r2_=>
  cond (!r2_) (
   some (false,(0:Int),([]:List D6_))) (
   loop (Zff c_ variable_) ((0:Int),c_.2,([]:List D6_))))
def ZjI (lit:Int):Option (Bool×Int×(List D6_)):=
 (ZhC lit).bind fun r1_=>
 cond (!r1_) (
  some (false,(0:Int),([]:List D6_))) (
  some (true,(0:Int),[((1:Int),lit)]))
def Ze0 (o1:List D7_) (o2:List Bool):Int×(List D7_)→Option ((Int×(List D7_))⊕(List D7_)):=fun (i,out)=>
 cond (decide (i<(o1.length:Int))) (
  rq (0≤i∧i<o1.length) <|
  rq (0≤i∧i<o2.length) <|
  cond (!(o2.getD i.toNat false)) (
   rq (out.length+[(o1.getD i.toNat ([],0))].length≤Zl) <|
   rq (i64 (i+(1:Int))) <|
   some (.inl ((i+(1:Int)),(out++[(o1.getD i.toNat ([],0))])))) (
   rq (i64 (i+(1:Int))) <|
   some (.inl ((i+(1:Int)),out)))) (
  some (.inr out))
def ZfU (o1:List D7_) (o2:List Bool):Option (List D7_):=
 loop (Ze0 o1 o2) ((0:Int),([]:List D7_))
def Zfc (c_:(List D6_)×Int):Int×Int→Option ((Int×Int)⊕Int):=fun (sum,i)=>
 cond (decide (i<(c_.1.length:Int))) (
  rq (0≤i∧i<c_.1.length) <|
  rq (i64 (sum+(c_.1.getD i.toNat (0,0)).1)) <|
  rq (i64 (i+(1:Int))) <|
  some (.inl ((sum+(c_.1.getD i.toNat (0,0)).1),(i+(1:Int))))) (
  some (.inr sum))
def ZeW (c_:(List D6_)×Int):Option Int:=
 loop (Zfc c_) ((0:Int),(0:Int))
def Zf9 (c_:(List D6_)×Int) (i:Int) (out_0:List D6_):Unit→Option ((Int×(List D6_))⊕(Int×(List D6_))):=fun _=>
 rq (i64 (0 - (c_.1.getD i.toNat (0,0)).2)) <|
 rq (out_0.length+[((c_.1.getD i.toNat (0,0)).1,(0 - (c_.1.getD i.toNat (0,0)).2))].length≤Zl) <|
 rq (i64 (i+(1:Int))) <|
 some (.inl ((i+(1:Int)),(out_0++[((c_.1.getD i.toNat (0,0)).1,(0 - (c_.1.getD i.toNat (0,0)).2))])))
def Zdx (c_:(List D6_)×Int) (out_1:Int):Int×(List D6_)→Option ((Int×(List D6_))⊕(Int×(List D6_))):=fun (i,out_0)=>
 cond (decide (i<(c_.1.length:Int))) (
  rq (0≤i∧i<c_.1.length) <|
  Zf9 c_ i out_0 ()) (
  some (.inr (out_1,out_0)))
def Zf8 (c_:(List D6_)×Int):Int→Option (Int×(List D6_)):=fun out_1=>
 loop (Zdx c_ out_1) ((0:Int),([]:List D6_))
def Zf7 (c_:(List D6_)×Int):Unit→Option (Int×(List D6_)):=fun _=>
 (ZeW c_).bind fun r2_=>
 rq (i64 (r2_ - c_.2)) <|
 rq (i64 ((r2_ - c_.2)+(1:Int))) <|
 Zf8 c_ (max (0:Int) ((r2_ - c_.2)+(1:Int)))
def Zfa (c_:(List D6_)×Int):Option (Int×(List D6_)):=
 Zf7 c_ ()
def ZuO:Int→Option Bool:=fun i=>
 some (decide ((0:Int)≤i))
def Zwm (list_:List D7_) (c_:(List D6_)×Int):Option Bool:=
 (Zbi list_).bind fun r4_=>
 (Zfa c_).bind fun r5_=>
 rq (r4_.length+[(r5_.2,r5_.1)].length≤Zl) <|
 rq (0≤(12:Int)∧(12:Int)≤Zl∧(12:Int)=(12:Int)) <|
 (ZbO (r4_++[(r5_.2,r5_.1)]) (List.replicate (12:Int).toNat 0)).bind fun r6_=>
 ZuO r6_.1
def Zhc (o1:List D7_) (o2:List Bool) (i:(List D6_)×Int) (i1:Bool):Unit→Option (Bool×(List D7_)×(List Bool)):=fun _=>
 some (i1,(o1++[i]),(o2++[false]))
def ZT (o1:List D7_) (o2:List Bool):D7_×Bool→Option (Bool×(List D7_)×(List Bool)):=fun (i,i1)=>
 rq (o1.length+[i].length≤Zl) <|
 rq (o2.length+[false].length≤Zl) <|
 Zhc o1 o2 i i1 ()
def ZbV (a1:Int×Int×Int×(List D6_)×Int) (o1:List D7_) (o2:List Bool):Unit→Option (Bool×(List D7_)×(List Bool)):=fun _=>
 cond (a1.1==(8:Int)) (
  rq (0≤a1.2.1∧a1.2.1<o2.length) <|
  some (true,o1,(o2.set a1.2.1.toNat true))) (
  cond (a1.1==(1:Int)) (
   rq (0≤a1.2.1∧a1.2.1<o1.length) <|
   rq (0≤a1.2.2.1∧a1.2.2.1<o1.length) <|
   (Zia (o1.getD a1.2.1.toNat ([],0)) (o1.getD a1.2.2.1.toNat ([],0))).bind fun r7_=>
   ZT o1 o2 ((r7_.2.2,r7_.2.1),r7_.1)) (
   cond (a1.1==(2:Int)) (
    rq (0≤a1.2.1∧a1.2.1<o1.length) <|
    (Zft (o1.getD a1.2.1.toNat ([],0)) a1.2.2.1).bind fun r9_=>
    ZT o1 o2 (r9_.2,r9_.1)) (
    cond (a1.1==(3:Int)) (
     rq (0≤a1.2.1∧a1.2.1<o1.length) <|
     (Zgo (o1.getD a1.2.1.toNat ([],0)) a1.2.2.1).bind fun r11_=>
     ZT o1 o2 (r11_.2,r11_.1)) (
     cond (a1.1==(4:Int)) (
      rq (0≤a1.2.1∧a1.2.1<o1.length) <|
      (Zfu (o1.getD a1.2.1.toNat ([],0))).bind fun r13_=>
      ZT o1 o2 ((r13_.2.2,r13_.2.1),r13_.1)) (
      cond (a1.1==(5:Int)) (
       rq (0≤a1.2.1∧a1.2.1<o1.length) <|
       (Zgp (o1.getD a1.2.1.toNat ([],0)) a1.2.2.1).bind fun r15_=>
       ZT o1 o2 ((r15_.2.2,r15_.2.1),r15_.1)) (
       cond (a1.1==(6:Int)) (
        (ZjI a1.2.1).bind fun r16_=>
        ZT o1 o2 ((r16_.2.2,r16_.2.1),r16_.1)) (
        cond (a1.1==(7:Int)) (
         (Z6 a1.2.2.2).bind fun r20_=>
         cond r20_ (
          (ZfU o1 o2).bind fun r21_=>
          (Zwm r21_ a1.2.2.2).bind fun r22_=>
          ZT o1 o2 (a1.2.2.2,r22_)) (
          ZT o1 o2 (a1.2.2.2,false))) (
         ZT o1 o2 ((([]:List D6_),(0:Int)),false)))))))))
def Zhb (a1:Int×Int×Int×(List D6_)×Int) (o1:List D7_) (o2:List Bool):Unit→Option (Bool×(List D7_)×(List Bool)):=fun _=>
 (Zom a1.1).bind fun r1_=>
 (ZkX a1).bind fun r2_=>
 cond (!r2_) (
  some (false,o1,o2)) (
  cond (decide ((0:Int)<r1_.1)) (
   (Zd3 a1.2.1 o1 o2).bind fun r3_=>
   cond (!r3_) (
    some (false,o1,o2)) (
    cond (decide ((1:Int)<r1_.1)) (
     (Zd3 a1.2.2.1 o1 o2).bind fun r4_=>
     cond (!r4_) (
      some (false,o1,o2)) (
      ZbV a1 o1 o2 ())) (
     ZbV a1 o1 o2 ()))) (
   cond (decide ((1:Int)<r1_.1)) (
    (Zd3 a1.2.2.1 o1 o2).bind fun r5_=>
    cond (!r5_) (
     some (false,o1,o2)) (
     ZbV a1 o1 o2 ())) (
    ZbV a1 o1 o2 ())))
def ZeK (a1:Int×Int×Int×(List D6_)×Int) (o1:List D7_) (o2:List Bool):Option (Bool×(List D7_)×(List Bool)):=
 Zhb a1 o1 o2 ()
def ZqZ (steps:List Zw):Int×(List D7_)×(List Bool)→Option ((Int×(List D7_)×(List Bool))⊕(Bool×Int×(List D7_)×(List Bool)×Int)):=fun (i,r_01,r_1)=>
 cond (decide (i<(steps.length:Int))) (
  rq (0≤i∧i<steps.length) <|
  (ZeK (steps.getD i.toNat (0,(0,(0,([],0))))) r_01 r_1).bind fun r5_=>
  cond (!r5_.1) (
   some (.inr (false,0,[],[],i))) (
   rq (i64 (i+(1:Int))) <|
   some (.inl ((i+(1:Int)),r5_.2.1,r5_.2.2)))) (
  some (.inr (true,(-1:Int),r_01,r_1,0)))
def ZuN (list_:List D7_) (steps:List Zw):(List D7_)→Option (Bool×Int×(List D7_)×(List Bool)×Int):=fun r_0=>
 loop (ZqZ steps) ((0:Int),r_0,(List.replicate (list_.length:Int).toNat false))
def Zwl (list_:List D7_) (steps:List Zw):Option (Bool×Int×(List D7_)×(List Bool)×Int):=
 (ZgO list_).bind fun r1_=>
 cond (!r1_) (
  some (false,0,[],[],(0:Int))) (
  cond (decide ((1000:Int)<(steps.length:Int))) (
   some (false,0,[],[],(0:Int))) (
   (Zbi list_).bind fun r3_=>
   rq (0≤(list_.length:Int)∧(list_.length:Int)≤Zl∧(list_.length:Int)=(list_.length:Int)) <|
   ZuN list_ steps r3_))
def Ze9 (c_:(List D6_)×Int):Option Bool:=
 (Z6 c_).bind fun r3_=>
 cond r3_ (
  (ZeW c_).bind fun r4_=>
  some (decide (r4_<c_.2))) (
  some false)
def ZhS (r1_:Bool×Int×(List D7_)×(List Bool)×Int):Int→Option (Int⊕(Bool×Int×(List D7_)×(List Bool)×Int)):=fun i=>
 cond (decide (i<(r1_.2.2.1.length:Int))) (
  rq (0≤i∧i<r1_.2.2.1.length) <|
  rq (0≤i∧i<r1_.2.2.2.1.length) <|
  cond (!(r1_.2.2.2.1.getD i.toNat false)) (
   (Ze9 (r1_.2.2.1.getD i.toNat ([],0))).bind fun r2_=>
   cond r2_ (
    some (.inr (true,i,r1_.2.2.1,r1_.2.2.2.1,0))) (
    rq (i64 (i+(1:Int))) <|
    some (.inl (i+(1:Int))))) (
   rq (i64 (i+(1:Int))) <|
   some (.inl (i+(1:Int))))) (
  some (.inr (true,(-1:Int),r1_.2.2.1,r1_.2.2.2.1,0)))
def Zoz (list_:List D7_) (steps:List Zw):Option (Bool×Int×(List D7_)×(List Bool)×Int):=
 (Zwl list_ steps).bind fun r1_=>
 cond r1_.1 (
  cond (decide ((0:Int)≤r1_.2.1)) (
   some (false,0,[],[],(-1:Int))) (
   loop (ZhS r1_) (0:Int))) (
  cond (decide ((0:Int)≤r1_.2.2.2.2)) (
   some (false,0,[],[],(-1:Int))) (
   none))
def Zg8 (list_:List D7_) (steps:List Zw):Option Bool:=
 (Zoz list_ steps).bind fun r1_=>
 cond r1_.1 (
  some (decide ((0:Int)≤r1_.2.1))) (
  some (decide ((0:Int)≤r1_.2.2.2.2)))
def ZkN (steps:List Zw) (r1_:Bool×(List D7_)):Bool×Int×(List D6_)→Option Bool:=fun (ok,c_1,c_0)=>
 cond ok (
  (Zbi r1_.2).bind fun r10_=>
  rq (r10_.length+[(c_0,c_1)].length≤Zl) <|
  (Zg8 (r10_++[(c_0,c_1)]) steps).bind fun r11_=>
  some r11_) (
  some false)
def ZgK (m:(List Int)×(List D5_)) (coefs:List Int) (cells:List Int) (steps:List Zw):Option Bool:=
 (ZmV m).bind fun r1_=>
 cond (!r1_.1) (
  some false) (
  (ZkW m cells).bind fun r2_=>
  cond (!r2_) (
   some false) (
   (Zee m coefs).bind fun r3_=>
   cond (!r3_) (
    some false) (
    (Zfg coefs cells).bind fun r6_=>
    rq (i64 (r6_ - (1:Int))) <|
    (Zd2 m coefs (r6_ - (1:Int))).bind fun r7_=>
    ZkN steps r1_ (r7_.1,r7_.2.1,r7_.2.2))))
def ZlZ (a0:List Int):Option Bool:=
 cond (decide ((1048576:Int)<(a0.length:Int))) (
  some true) (
  (Zgv a0).bind fun r1_=>
  (ZgP r1_.2.2 r1_.2.1 r1_.1).bind fun r2_=>
  (ZgW r1_.2.2 r1_.2.1 r1_.1).bind fun r3_=>
  cond (r2_.1 != r3_.1) (
   cond (r2_.1==r3_.1) (
    (Zhw r2_.2.1 r3_.2.1).bind fun r12_=>
    cond r12_ (
     (ZeX r2_.2.2 r3_.2.2).bind fun r13_=>
     some r13_) (
     some false)) (
    some false)) (
   (Zhw r2_.2.1 r3_.2.1).bind fun r4_=>
   cond (!r4_) (
    cond (r2_.1==r3_.1) (
     (Zhw r2_.2.1 r3_.2.1).bind fun r10_=>
     cond r10_ (
      (ZeX r2_.2.2 r3_.2.2).bind fun r11_=>
      some r11_) (
      some false)) (
     some false)) (
    (ZeX r2_.2.2 r3_.2.2).bind fun r5_=>
    cond (!r5_) (
     cond (r2_.1==r3_.1) (
      (Zhw r2_.2.1 r3_.2.1).bind fun r8_=>
      cond r8_ (
       (ZeX r2_.2.2 r3_.2.2).bind fun r9_=>
       some r9_) (
       some false)) (
      some false)) (
     cond (r2_.1 != (1:Int)) (
      cond (r2_.1==r3_.1) (
       (Zhw r2_.2.1 r3_.2.1).bind fun r6_=>
       cond r6_ (
        (ZeX r2_.2.2 r3_.2.2).bind fun r7_=>
        some r7_) (
        some false)) (
       some false)) (
      (Zga r1_.2.2 r1_.2.1).bind fun r14_=>
      (ZdT r1_.2.2 r1_.2.1 r2_.2.1).bind fun r15_=>
      (ZdT r1_.2.2 r1_.2.1 r14_.2).bind fun r16_=>
      cond r14_.1 (
       cond r15_.2 (
        cond r16_.2 (
         cond (r15_.1==r16_.1) (
          (ZgK r1_.2.2 r1_.2.1 r2_.2.1 r2_.2.2).bind fun r17_=>
          some r17_) (
          some false)) (
         some false)) (
        some false)) (
       some false))))))
end
end Go.AE.Y
