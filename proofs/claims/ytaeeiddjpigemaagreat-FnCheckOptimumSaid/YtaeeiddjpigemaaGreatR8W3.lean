/-
  Walks: each function keeps the contract that its model gives. No conditions.
-/
import Derived.Test.YtaeeiddjpigemaaGreatR8Tab
import Derived.Test.YtaeeiddjpigemaaGreatR8W2
import Derived.Test.YtaeeiddjpigemaaGreatR8S
namespace Go.AE.Y
open Go Go.AE Go.Proofs
set_option linter.unusedVariables false
set_option maxHeartbeats 2000000
set_option maxRecDepth 100000
noncomputable section
def Zpn:Con:=fun
  |[.c (.imm (.int .i64) p)],[]=>.opt _ (ZjU p) (fun r=>.ret (.c (.int .i64 r)) [])
  |_,_=>.fail
def ZG6:Cfg:={ y:=tys,n:=17,h:=0,tab:=[] }
theorem Zzn:Zn Tryz.prog 197 Zpn:=by
 refine Zq (C:=ZG6) Tryz.f197 Zr fun _ a b k he=>?_
 unfold Zpn at he;split at he;rotate_left;exact he.elim
 rename_i p
 refine Zs he fun he=>?_
 refine Zt (ZkT p) (fun i=>(Zm [(0,.c (.imm y0_ p)),(3,.c (.int .i64 i))],[])) he (Za []) ?_
 rintro i _ he
 refine Zg he (fun he=>?_) fun he=>?_
 ·refine Zh he fun he=>?_
  refine Zg he (fun he=>?_) fun he=>?_
  ·exact ZEJ
  ·exact ZdC
 ·exact Zbf
def ZdN (n_:Nat):Con:=fun
  |[.agg [.own 0 false,.own 1 false,.int .i64 a0_2],.c (.imm (.int .i64) a1)],[(0,.sl 89 (.pair (.sl (.pair (.int .i64) (.int .i64))) (.int .i64)) o0 .shallow),(1,.sl 96 (.pair (.int .i64) (.pair (.int .i64) (.pair (.int .i64) (.pair (.sl (.pair (.int .i64) (.int .i64))) (.int .i64))))) o1 .shallow)]=>.opt _ (Zba n_ a0_2 a1 o0 o1) (fun r=>.ret (.tup [.agg [.own 902 false,.own 903 false,.int .i64 r.2.1],.c (.int .i64 r.1),.c (.own 901 false)]) [(0,.dead),(1,.dead),(900,.rc [.own 902 false,.own 903 false,.int .i64 r.2.1]),(901,.sl 4 .bool r.2.2.1 .shallow),(902,.sl 89 y7_ r.2.2.2.1 .shallow),(903,.sl 96 Zdg r.2.2.2.2 .shallow)])
  |_,_=>.fail
def Zo2:Sched:=.alt 7 (Zy [8,9,10,11] (.alt 12 (Zy [13,14] .done) .stop)) .stop
def ZjJ:Sched:=.alt 6 Zo2 .stop
def Zo3:Sched:=.alt 5 ZjJ .stop
def ZjK:Sched:=.alt 3 ZjJ .stop
def Zo4:Sched:=.alt 3 Zo3 (.alt 5 ZjK .stop)
def Zo5:Sched:=.alt 1 ZjK .stop
def Zo6:Sched:=.alt 0 ZjJ (.alt 6 (.alt 0 Zo2 .stop) .stop)
def Zo7:Sched:=.alt 0 ZjK (.alt 3 Zo6 .stop)
def ZzG (n_:Nat):Cfg:={ y:=tys,n:=112,h:=2,tab:=[(135,ZdN n_),(194,Zjj),(195,Zgf),(196,Zjk),(197,Zpn)],cut:=[9,18,25,28],hand:=[(135,[0]),(194,[0]),(195,[1]),(196,[0])],sched:=[(24,(Zy [2,4] (.alt 0 (.alt 1 Zo4 (.alt 5 Zo5 .stop)) (.alt 1 (.alt 0 Zo4 (.alt 3 (.alt 0 Zo3 (.alt 5 Zo6 .stop)) (.alt 5 Zo7 .stop))) (.alt 5 (.alt 0 Zo5 (.alt 1 Zo7 .stop)) .stop)))))],nils:=[135,196] }
theorem ZOi {P:Prop} (h:P:=by
  exact Zv [(4,[900]),(5,[]),(6,[])] (Zj he :) (Za [(900,4),(901,26),(902,0),(903,1)])):P:=h
theorem ZOj {P:Prop} (h:P:=by
  refine Zi he fun r4_ he=>?_
  exact Zv [(4,[900]),(5,[]),(6,[])] (Zj he :) (Za [(900,10001001),(901,52),(902,52901),(903,52902)])):P:=h
theorem ZOk {P:Prop} (h:P:=by
  refine Zh he fun he=>?_
  refine Zh he fun he=>?_
  refine Zh he fun he=>?_
  exact⟨_,(Zj he :),(Za [(10002003,71)])⟩):P:=h
theorem ZOl {P:Prop} (h:P:=by
  rintro⟨i_23,i_03,i_13⟩ he
  refine Zg he (fun he=>?_) fun he=>?_
  ·exact Zv [(4,[900]),(5,[]),(6,[])] (Zj he :) (Za [(900,10007001),(901,107),(902,10007002),(903,10007003)])
  ·refine Zi he fun r9_ he=>?_
   exact Zv [(4,[900]),(5,[]),(6,[])] (Zj he :) (Za [(900,10007001),(901,111),(902,111901),(903,111902)])):P:=h
theorem ZOm {P:Prop} (h:P:=by
  refine Y4 ?_
  refine⟨r8_,hq3,?_⟩
  refine Y4 ?_
  exact⟨_,he,(Za [(10006000,10004000),(10006001,10004001),(10006002,93901),(10006003,10004002),(10006004,93902),(10006005,93903)])⟩):P:=h
theorem Zx8 {P:Prop} (h:P:=by
  refine Y4 ?_
  refine And.intro hq2 ?_
  exact ZOm):P:=h
theorem ZBv {P:Prop} (h:P:=by
  skip
  refine Y4 ?_
  refine And.intro hq1 ?_
  exact Zx8):P:=h
theorem ZEQ {P:Prop} (h:P:=by
  skip
  refine Y5 ?_ ?_
  ·skip
   refine And.intro hq1 ?_
   refine Y4 ?_
   exact Zx8
  ·exact ZBv):P:=h
theorem ZER {P:Prop} (h:P:=by
  skip
  refine Y4 ?_
  refine Y4 ?_
  refine And.intro hq1 ?_
  exact Zx8):P:=h
theorem Zx9 {P:Prop} (h:P:=by
  refine Y5 ?_ ?_
  ·skip
   exact Zx8
  ·skip
   refine And.intro hq2 ?_
   refine Y4 ?_
   exact ZOm):P:=h
theorem ZOn {P:Prop} (h:P:=by
  refine Zh he fun he=>?_
  refine Zi he fun r2_ he=>?_
  exact ZdC):P:=h
theorem Zvc (n_:Nat) (ih:Zn Tryz.prog 135 (ZdN n_)):Zn Tryz.prog 135 (ZdN (n_+1)):=by
 refine Zq (C:=(ZzG n_)) Tryz.f135 (Zk ih (Zk Zq5 (Zk ZnL (Zk ZsZ (Zk Zzn Zr))))) fun _ a b k he=>?_
 unfold ZdN at he;split at he;rotate_left;exact he.elim
 rename_i a0_2 a1 o0 o1
 have he:Ok (Zbv (Zba n_) a0_2 a1 o0 o1) (fun r=>k (.tup [.agg [.own 902 false,.own 903 false,.int .i64 r.2.1],.c (.int .i64 r.1),.c (.own 901 false)]) [(0,.dead),(1,.dead),(900,.rc [.own 902 false,.own 903 false,.int .i64 r.2.1]),(901,.sl 4 .bool r.2.2.1 .shallow),(902,.sl 89 y7_ r.2.2.2.1 .shallow),(903,.sl 96 Zdg r.2.2.2.2 .shallow)]):=he
 refine⟨rfl,rfl,?_⟩
 refine ZC he (fun he=>?_) fun he=>?_
 ·refine Zg he (fun he=>?_) fun he=>?_
  ·exact ZOi
  ·refine Zh he fun he=>?_
   refine Zh he fun he=>?_
   refine ZK (Zco a0_2 a1 o0 o1 (Zba n_)) (fun i2=>(Zm [(1,.c (.imm y0_ a1)),(2,.c (.ptr 10001000 0)),(4,.c (.ptr 10001001 0)),(7,.c (.own 10001002 false))],[(0,.sl 89 y7_ o0 .shallow),(1,.sl 96 Zdg o1 .shallow),(10001000,.rc [.own 0 false,.own 1 false,.int .i64 (a0_2 - (1:Int))]),(10001001,.rc [.nil,.nil,.int .i64 (0:Int)]),(10001002,.sl 3 y0_ i2 .shallow)])) he ?_ ?_
   ·rintro i2 he
    refine Zi he fun r3_ he=>?_
    refine Zg he (fun he=>?_) fun he=>?_
    ·exact ZOj
    ·refine Zi he fun r5_ he=>?_
     refine Zg he (fun he=>?_) fun he=>?_
     ·refine ZK (ZlJ a0_2 o0 o1) (fun i5=>(Zm [(2,.c (.ptr 10003000 0)),(4,.c (.ptr 10003001 0)),(10,.c (.own 10003002 false))],[(0,.sl 89 y7_ o0 .shallow),(1,.sl 96 Zdg o1 .shallow),(10003000,.rc [.own 0 false,.own 1 false,.int .i64 (a0_2 - (1:Int))]),(10003001,.rc [.nil,.nil,.int .i64 (0:Int)]),(10003002,.sl 4 .bool i5 .shallow)])) he ?_ ?_
      ·rintro i5 he
       exact Zv [(4,[900]),(5,[]),(6,[])] (Zj he :) (Za [(900,10003001),(901,10003002),(902,0),(903,1)])
      ·skip
       refine Zt (ZcQ a0_2 o0 o1 r3_) (fun (i3,i4)=>(Zm [(2,.c (.ptr 10002000 0)),(4,.c (.ptr 10002001 0)),(7,.c (.own 10002002 false)),(10,.c (.own 10002003 false)),(11,.c (.int .i64 i3))],[(0,.sl 89 y7_ o0 .shallow),(1,.sl 96 Zdg o1 .shallow),(10002000,.rc [.own 0 false,.own 1 false,.int .i64 (a0_2 - (1:Int))]),(10002001,.rc [.nil,.nil,.int .i64 (0:Int)]),(10002002,.sl 3 y0_ r3_.2 .shallow),(10002003,.sl 4 .bool i4 .shallow)])) he (Za [(10002000,10001000),(10002001,10001001),(10002002,10001002),(10002003,57)]) ?_
       rintro⟨i3,i4⟩ _ he
       refine Zg he (fun he=>?_) fun he=>?_
       ·exact ZOk
       ·exact⟨_,(Zbn he :),(Za [(10003000,10002000),(10003001,10002001),(10003002,10002003)])⟩
     ·refine ZK (Zhw a1) (fun (i_23,i_03,i_13)=>(Zm [(1,.c (.imm y0_ a1)),(2,.c (.ptr 10007000 0)),(4,.c (.ptr 10007001 0))],[(0,.dead),(1,.dead),(10007000,.rc [.own 10007002 false,.own 10007003 false,.int .i64 i_23]),(10007001,.rc [.nil,.nil,.int .i64 (0:Int)]),(10007002,.sl 89 y7_ i_03 .shallow),(10007003,.sl 96 Zdg i_13 .shallow)])) he ?_ ?_
      ·exact ZOl
      ·skip
       refine Zh he fun he=>?_
       refine Zt (Zej a1 r5_ (Zba n_)) (fun (i6,i_21,i_01,i_11)=>(Zm [(1,.c (.imm y0_ a1)),(2,.c (.ptr 10004000 0)),(4,.c (.ptr 10004001 0)),(77,.c (.own 10004002 false)),(78,.c (.int .i64 ([r5_,(0 - r5_)].length:Int))),(79,.c (.int .i64 i6))],[(0,.dead),(1,.dead),(10004000,.rc [.own 10004003 false,.own 10004004 false,.int .i64 i_21]),(10004001,.rc [.nil,.nil,.int .i64 (0:Int)]),(10004002,.sl 3 y0_ [r5_,(0 - r5_)] .shallow),(10004003,.sl 89 y7_ i_01 .shallow),(10004004,.sl 96 Zdg i_11 .shallow)])) he (Za [(10004000,10001000),(10004001,10001001),(10004002,77),(10004003,0),(10004004,1)]) ?_
       rintro⟨i6,i_21,i_01,i_11⟩ _ he
       refine Zg he (fun he=>?_) fun he=>?_
       ·refine Zh he fun he=>?_
        refine ZK (Zhx i6) (fun (i9,i_22,i10,i_02,i_12)=>(Zm [(1,.c (.imm y0_ a1)),(2,.c (.ptr 10006000 0)),(4,.c (.ptr 10006001 0)),(14,.c (.int .i64 i9)),(15,.c (.own 10006002 false)),(77,.c (.own 10006003 false)),(78,.c (.int .i64 ([r5_,(0 - r5_)].length:Int))),(79,.c (.int .i64 i6))],[(0,.dead),(1,.dead),(10006000,.rc [.own 10006004 false,.own 10006005 false,.int .i64 i_22]),(10006001,.rc [.nil,.nil,.int .i64 (0:Int)]),(10006002,.sl 4 .bool i10 .shallow),(10006003,.sl 3 y0_ [r5_,(0 - r5_)] .shallow),(10006004,.sl 89 y7_ i_02 .shallow),(10006005,.sl 96 Zdg i_12 .shallow)])) he ?_ ?_
        ·rintro⟨i9,i_22,i10,i_02,i_12⟩ he
         refine Zg he (fun he=>?_) fun he=>?_
         ·exact Zv [(4,[900]),(5,[]),(6,[])] (Zj he :) (Za [(900,10006001),(901,10006002),(902,10006004),(903,10006005)])
         ·refine Zh he fun he=>?_
          exact⟨_,(Zj he :),(Za [(10004000,10006000),(10004001,10006001),(10004002,10006003),(10004003,10006004),(10004004,10006005)])⟩
        ·skip
         refine And.intro (by kernel_rfl) ?_
         obtain⟨hq1,he⟩:=ZD he
         obtain⟨hq2,he⟩:=ZD he
         obtain⟨r8_,hq3,he⟩:=ZS he
         refine And.intro ?_ (And.intro ?_ (And.intro ?_ (Y1)))
         ·skip
          refine Y5 ?_ ?_
          ·exact ZEQ
          ·exact ZER
         ·skip
          refine And.intro ?_ (And.intro ?_ (And.intro ?_ (Y1)))
          ·exact ZEQ
          ·skip
           refine And.intro hq1 ?_
           refine Y5 ?_ ?_
           ·skip
            refine Y4 ?_
            exact Zx8
           ·skip
            exact Zx9
          ·skip
           refine Y5 ?_ ?_
           ·exact ZBv
           ·skip
            refine And.intro hq1 ?_
            exact Zx9
         ·skip
          refine Y5 ?_ ?_
          ·exact ZER
          ·skip
           refine Y5 ?_ ?_
           ·exact ZBv
           ·skip
            refine And.intro hq1 ?_
            exact Zx9
       ·exact⟨_,(Zbn he :),(Za [(10007000,10004000),(10007001,10004001),(10007002,10004003),(10007003,10004004)])⟩
   ·skip
    refine Zt (ZdA a0_2 a1 o0 o1 (Zba n_)) (fun (i,i1)=>(Zm [(1,.c (.imm y0_ a1)),(2,.c (.ptr 10000000 0)),(4,.c (.ptr 10000001 0)),(7,.c (.own 10000002 false)),(8,.c (.int .i64 i))],[(0,.sl 89 y7_ o0 .shallow),(1,.sl 96 Zdg o1 .shallow),(10000000,.rc [.own 0 false,.own 1 false,.int .i64 (a0_2 - (1:Int))]),(10000001,.rc [.nil,.nil,.int .i64 (0:Int)]),(10000002,.sl 3 y0_ i1 .shallow)])) he (Za [(10000000,2),(10000001,4),(10000002,31)]) ?_
    rintro⟨i,i1⟩ _ he
    refine Zg he (fun he=>?_) fun he=>?_
    ·exact ZOn
    ·exact⟨_,(Zbn he :),(Za [(10001000,10000000),(10001001,10000001),(10001002,10000002)])⟩
 ·exact ZOi
theorem Zru:∀n_,Zn Tryz.prog 135 (ZdN n_)
  |0=>by
    refine Zq (C:={ y:=tys,n:=112,h:=2,tab:=[] }) Tryz.f135 Zr fun _ a b k he=>?_
    unfold ZdN at he
    split at he
    · obtain⟨x,hx,_⟩:=he
      cases hx
    · exact he.elim
  |n_+1=>Zvc n_ (Zru n_)
def Znw:Con:=fun
  |[.agg [.own 0 false,.nil,.int .i64 a0_2],.c (.imm (.int .i64) a1)],[(0,.sl 89 (.pair (.sl (.pair (.int .i64) (.int .i64))) (.int .i64)) o0 .shallow)]=>.opt _ (ZlI a0_2 a1 o0) (fun r=>.ret (.tup [.agg [.own 902 false,.own 903 false,.int .i64 r.2.1],.c (.int .i64 r.1),.c (.own 901 false)]) [(0,.dead),(900,.rc [.own 902 false,.own 903 false,.int .i64 r.2.1]),(901,.sl 4 .bool r.2.2.1 .shallow),(902,.sl 89 y7_ r.2.2.2.1 .shallow),(903,.sl 96 Zdg r.2.2.2.2 .shallow)])
  |_,_=>.fail
def Zp7:Sched:=.alt 7 (Zy [8,9,10,11] (.alt 12 (Zy [13,14] .done) .stop)) .stop
def Zku:Sched:=.alt 6 Zp7 .stop
def Zp8:Sched:=.alt 5 Zku .stop
def Zkv:Sched:=.alt 3 Zku .stop
def Zp9:Sched:=.alt 3 Zp8 (.alt 5 Zkv .stop)
def Zqa:Sched:=.alt 1 Zkv .stop
def Zqb:Sched:=.alt 0 Zku (.alt 6 (.alt 0 Zp7 .stop) .stop)
def Zqc:Sched:=.alt 0 Zkv (.alt 3 Zqb .stop)
def ZAb:Cfg:={ y:=tys,n:=112,h:=1,tab:=[(135,(ZdN 64)),(194,Zjj),(195,Zgf),(196,Zjk),(197,Zpn)],cut:=[9,18,25,28],hand:=[(135,[0]),(194,[0]),(195,[1]),(196,[0])],sched:=[(24,(Zy [2,4] (.alt 0 (.alt 1 Zp9 (.alt 5 Zqa .stop)) (.alt 1 (.alt 0 Zp9 (.alt 3 (.alt 0 Zp8 (.alt 5 Zqb .stop)) (.alt 5 Zqc .stop))) (.alt 5 (.alt 0 Zqa (.alt 1 Zqc .stop)) .stop)))))],nils:=[135,196] }
theorem ZOo {P:Prop} (h:P:=by
  exact Zv [(4,[900]),(5,[]),(6,[])] (Zj he :) (Za [(900,4),(901,26),(902,0)])):P:=h
theorem ZAF:Zn Tryz.prog 135 Znw:=by
 refine Zq (C:=ZAb) Tryz.f135 (Zk (Zru 64) (Zk Zq5 (Zk ZnL (Zk ZsZ (Zk Zzn Zr))))) fun _ a b k he=>?_
 unfold Znw at he;split at he;rotate_left;exact he.elim
 rename_i a0_2 a1 o0
 refine Zs he fun he=>?_
 refine ZC he (fun he=>?_) fun he=>?_
 ·refine Zg he (fun he=>?_) fun he=>?_
  ·exact ZOo
  ·refine Zh he fun he=>?_
   refine Zh he fun he=>?_
   refine ZK (ZiC a0_2 a1 o0) (fun i2=>(Zm [(1,.c (.imm y0_ a1)),(2,.c (.ptr 10001000 0)),(4,.c (.ptr 10001001 0)),(7,.c (.own 10001002 false))],[(0,.sl 89 y7_ o0 .shallow),(10001000,.rc [.own 0 false,.own 10001003 false,.int .i64 (a0_2 - (1:Int))]),(10001001,.rc [.nil,.nil,.int .i64 (0:Int)]),(10001002,.sl 3 y0_ i2 .shallow),(10001003,.sl 96 Zdg ([]:List Zw) .shallow)])) he ?_ ?_
   ·rintro i2 he
    refine Zi he fun r3_ he=>?_
    refine Zg he (fun he=>?_) fun he=>?_
    ·exact ZOj
    ·refine Zi he fun r5_ he=>?_
     refine Zg he (fun he=>?_) fun he=>?_
     ·refine ZK (Zrw a0_2 o0) (fun i5=>(Zm [(2,.c (.ptr 10003000 0)),(4,.c (.ptr 10003001 0)),(10,.c (.own 10003002 false))],[(0,.sl 89 y7_ o0 .shallow),(10003000,.rc [.own 0 false,.own 10003003 false,.int .i64 (a0_2 - (1:Int))]),(10003001,.rc [.nil,.nil,.int .i64 (0:Int)]),(10003002,.sl 4 .bool i5 .shallow),(10003003,.sl 96 Zdg ([]:List Zw) .shallow)])) he ?_ ?_
      ·rintro i5 he
       exact Zv [(4,[900]),(5,[]),(6,[])] (Zj he :) (Za [(900,10003001),(901,10003002),(902,0),(903,10003003)])
      ·skip
       refine Zt (Zrz a0_2 o0 r3_) (fun (i3,i4)=>(Zm [(2,.c (.ptr 10002000 0)),(4,.c (.ptr 10002001 0)),(7,.c (.own 10002002 false)),(10,.c (.own 10002003 false)),(11,.c (.int .i64 i3))],[(0,.sl 89 y7_ o0 .shallow),(10002000,.rc [.own 0 false,.own 10002004 false,.int .i64 (a0_2 - (1:Int))]),(10002001,.rc [.nil,.nil,.int .i64 (0:Int)]),(10002002,.sl 3 y0_ r3_.2 .shallow),(10002003,.sl 4 .bool i4 .shallow),(10002004,.sl 96 Zdg ([]:List Zw) .shallow)])) he (Za [(10002000,10001000),(10002001,10001001),(10002002,10001002),(10002003,57),(10002004,10001003)]) ?_
       rintro⟨i3,i4⟩ _ he
       refine Zg he (fun he=>?_) fun he=>?_
       ·exact ZOk
       ·exact⟨_,(Zbn he :),(Za [(10003000,10002000),(10003001,10002001),(10003002,10002003),(10003003,10002004)])⟩
     ·refine ZK (Zrx a1) (fun (i_23,i_03,i_13)=>(Zm [(1,.c (.imm y0_ a1)),(2,.c (.ptr 10007000 0)),(4,.c (.ptr 10007001 0))],[(0,.dead),(10007000,.rc [.own 10007002 false,.own 10007003 false,.int .i64 i_23]),(10007001,.rc [.nil,.nil,.int .i64 (0:Int)]),(10007002,.sl 89 y7_ i_03 .shallow),(10007003,.sl 96 Zdg i_13 .shallow)])) he ?_ ?_
      ·exact ZOl
      ·skip
       refine Zh he fun he=>?_
       refine Zt (ZmI a1 r5_) (fun (i6,i_21,i_01,i_11)=>(Zm [(1,.c (.imm y0_ a1)),(2,.c (.ptr 10004000 0)),(4,.c (.ptr 10004001 0)),(77,.c (.own 10004002 false)),(78,.c (.int .i64 ([r5_,(0 - r5_)].length:Int))),(79,.c (.int .i64 i6))],[(0,.dead),(10004000,.rc [.own 10004003 false,.own 10004004 false,.int .i64 i_21]),(10004001,.rc [.nil,.nil,.int .i64 (0:Int)]),(10004002,.sl 3 y0_ [r5_,(0 - r5_)] .shallow),(10004003,.sl 89 y7_ i_01 .shallow),(10004004,.sl 96 Zdg i_11 .shallow)])) he (Za [(10004000,10001000),(10004001,10001001),(10004002,77),(10004003,0),(10004004,10001003)]) ?_
       rintro⟨i6,i_21,i_01,i_11⟩ _ he
       refine Zg he (fun he=>?_) fun he=>?_
       ·refine Zh he fun he=>?_
        refine ZK (Zry i6) (fun (i9,i_22,i10,i_02,i_12)=>(Zm [(1,.c (.imm y0_ a1)),(2,.c (.ptr 10006000 0)),(4,.c (.ptr 10006001 0)),(14,.c (.int .i64 i9)),(15,.c (.own 10006002 false)),(77,.c (.own 10006003 false)),(78,.c (.int .i64 ([r5_,(0 - r5_)].length:Int))),(79,.c (.int .i64 i6))],[(0,.dead),(10006000,.rc [.own 10006004 false,.own 10006005 false,.int .i64 i_22]),(10006001,.rc [.nil,.nil,.int .i64 (0:Int)]),(10006002,.sl 4 .bool i10 .shallow),(10006003,.sl 3 y0_ [r5_,(0 - r5_)] .shallow),(10006004,.sl 89 y7_ i_02 .shallow),(10006005,.sl 96 Zdg i_12 .shallow)])) he ?_ ?_
        ·rintro⟨i9,i_22,i10,i_02,i_12⟩ he
         refine Zg he (fun he=>?_) fun he=>?_
         ·exact Zv [(4,[900]),(5,[]),(6,[])] (Zj he :) (Za [(900,10006001),(901,10006002),(902,10006004),(903,10006005)])
         ·refine Zh he fun he=>?_
          exact⟨_,(Zj he :),(Za [(10004000,10006000),(10004001,10006001),(10004002,10006003),(10004003,10006004),(10004004,10006005)])⟩
        ·skip
         refine And.intro (by kernel_rfl) ?_
         obtain⟨hq1,he⟩:=ZD he
         obtain⟨hq2,he⟩:=ZD he
         obtain⟨r8_,hq3,he⟩:=ZS he
         refine And.intro ?_ (And.intro ?_ (And.intro ?_ (Y1)))
         ·skip
          refine Y5 ?_ ?_
          ·exact ZEQ
          ·exact ZER
         ·skip
          refine And.intro ?_ (And.intro ?_ (And.intro ?_ (Y1)))
          ·exact ZEQ
          ·skip
           refine And.intro hq1 ?_
           refine Y5 ?_ ?_
           ·skip
            refine Y4 ?_
            exact Zx8
           ·skip
            exact Zx9
          ·skip
           refine Y5 ?_ ?_
           ·exact ZBv
           ·skip
            refine And.intro hq1 ?_
            exact Zx9
         ·skip
          refine Y5 ?_ ?_
          ·exact ZER
          ·skip
           refine Y5 ?_ ?_
           ·exact ZBv
           ·skip
            refine And.intro hq1 ?_
            exact Zx9
       ·exact⟨_,(Zbn he :),(Za [(10007000,10004000),(10007001,10004001),(10007002,10004003),(10007003,10004004)])⟩
   ·skip
    refine Zt (ZiD a0_2 a1 o0) (fun (i,i1)=>(Zm [(1,.c (.imm y0_ a1)),(2,.c (.ptr 10000000 0)),(4,.c (.ptr 10000001 0)),(7,.c (.own 10000002 false)),(8,.c (.int .i64 i))],[(0,.sl 89 y7_ o0 .shallow),(10000000,.rc [.own 0 false,.own 10000003 false,.int .i64 (a0_2 - (1:Int))]),(10000001,.rc [.nil,.nil,.int .i64 (0:Int)]),(10000002,.sl 3 y0_ i1 .shallow),(10000003,.sl 96 Zdg ([]:List Zw) .shallow)])) he (Za [(10000000,2),(10000001,4),(10000002,31)]) ?_
    rintro⟨i,i1⟩ _ he
    refine Zg he (fun he=>?_) fun he=>?_
    ·exact ZOn
    ·exact⟨_,(Zbn he :),(Za [(10001000,10000000),(10001001,10000001),(10001002,10000002),(10001003,10000003)])⟩
 ·exact ZOo
def Zpl:Con:=fun
  |[.agg [.imm (.pair (.int .i64) (.int .i64)) c__0,.int .i64 c__1]],[]=>.opt _ (Zpf (c__0,c__1)) (fun r=>.ret (.agg [.own 901 false,.int .i64 r.1]) [(900,.rc [.own 901 false,.int .i64 r.1]),(901,.sl 155 y6_ r.2 .shallow)])
  |_,_=>.fail
def ZuB:Sched:=.alt 6 (.alt 7 .done .stop) .stop
def ZpF:Sched:=.alt 3 ZuB .stop
def ZuC:Sched:=.alt 3 (.alt 5 ZuB .stop) (.alt 5 ZpF .stop)
def ZuD:Sched:=.alt 2 ZpF .stop
def ZuE:Sched:=.alt 0 ZpF .stop
def ZG2:Cfg:={ y:=tys,n:=10,h:=0,tab:=[],sched:=[(1,(Zy [1,4] (.alt 0 (.alt 2 ZuC (.alt 5 ZuD .stop)) (.alt 2 (.alt 0 ZuC (.alt 5 ZuE .stop)) (.alt 5 (.alt 0 ZuD (.alt 2 ZuE .stop)) .stop)))))] }
theorem ZJQ {P:Prop} (h:P:=by
  refine Y4 ?_
  refine Y4 ?_
  exact Zv [(2,[900])] (Zj he :) (Za [(900,2),(901,6)])):P:=h
theorem ZJR {P:Prop} (h:P:=by
  skip
  refine Y4 ?_
  refine Y4 ?_
  refine And.intro hq1 ?_
  exact ZJQ):P:=h
theorem ZOp {P:Prop} (h:P:=by
  skip
  refine Y5 ?_ ?_
  ·skip
   refine Y5 ?_ ?_
   ·skip
    refine And.intro hq1 ?_
    refine Y4 ?_
    exact ZJQ
   ·skip
    refine Y4 ?_
    refine And.intro hq1 ?_
    exact ZJQ
  ·exact ZJR):P:=h
theorem Zzl:Zn Tryz.prog 136 Zpl:=by
 refine Zq (C:=ZG2) Tryz.f136 Zr fun _ a b k he=>?_
 unfold Zpl at he;split at he;rotate_left;exact he.elim
 rename_i c__0 c__1
 refine Zs he fun he=>?_
 refine And.intro (by kernel_rfl) ?_
 obtain⟨hq1,he⟩:=ZD he
 refine And.intro ?_ (And.intro ?_ (And.intro ?_ (Y1)))
 ·exact ZOp
 ·exact ZOp
 ·skip
  refine Y5 ?_ ?_
  ·exact ZJR
  ·exact ZJR
def ZmC:Con:=fun
  |[.c (.imm (.pair (.sl (.pair (.int .i64) (.int .i64))) (.int .i64)) a0),.c (.int .i64 a1)],[]=>.opt _ (Zke a0 a1) (fun r=>.ret (.tup [.c (.int .i64 r.1),.c (.own 900 false),.c (.own 901 false)]) [(900,.sl 4 .bool r.2.1 .shallow),(901,.sl 96 Zdg r.2.2 (.deep true .no))])
  |_,_=>.fail
def ZzF:Cfg:={ y:=tys,n:=65,h:=0,tab:=[(109,Zin),(135,Znw),(136,Zpl)],cut:=[13],hand:=[(135,[0])],deep:=[25,40,41,60],nils:=[135] }
theorem ZJS {P:Prop} (h:P:=by
  exact Zv [(4,[]),(5,[]),(6,[])] (Zj he :) (Za [(900,24),(901,25)])):P:=h
theorem ZzU:Zn Tryz.prog 66 ZmC:=by
 refine Zq (C:=ZzF) Tryz.f66 (Zk Zrt (Zk ZAF (Zk Zzl Zr))) fun _ a b k he=>?_
 unfold ZmC at he;split at he;rotate_left;exact he.elim
 rename_i a0 a1
 refine Zs he fun he=>?_
 refine Zi he fun r1_ he=>?_
 refine ZC he (fun he=>?_) fun he=>?_
 ·refine ZC he (fun he=>?_) fun he=>?_
  ·refine Zg he (fun he=>?_) fun he=>?_
   ·exact ZJS
   ·refine Zh he fun he=>?_
    refine Zi he fun r2_ he=>?_
    refine Zg he (fun he=>?_) fun he=>?_
    ·exact Zv [(4,[]),(5,[]),(6,[])] (Zj he :) (Za [(900,33901),(901,40)])
    ·refine ZK (ZlE r2_) (fun i2=>(Zm [(8,.c (.int .i64 r2_.1)),(10,.c (.own 10001000 false))],[(10001000,.sl 96 Zdg i2 (.deep true .no))])) he ?_ ?_
     ·rintro i2 he
      exact Zv [(4,[]),(5,[]),(6,[])] (Zj he :) (Za [(900,63),(901,10001000)])
     ·skip
      refine Zt (Zei r2_) (fun (i,i1)=>(Zm [(7,.c (.ptr 10000000 0)),(8,.c (.int .i64 r2_.1)),(10,.c (.own 10000001 false)),(11,.c (.int .i64 i))],[(10000000,.rc [.own 10000002 false,.own 10000003 false,.int .i64 r2_.2.1]),(10000001,.sl 96 Zdg i1 (.deep true .no)),(10000002,.sl 89 y7_ r2_.2.2.2.1 .shallow),(10000003,.sl 96 Zdg r2_.2.2.2.2 .shallow)])) he (Za [(10000000,7),(10000001,41),(10000002,33902),(10000003,33903)]) ?_
      rintro⟨i,i1⟩ _ he
      refine Zg he (fun he=>?_) fun he=>?_
      ·refine Zh he fun he=>?_
       refine Zi he fun r4_ he=>?_
       refine Zh he fun he=>?_
       refine Zh he fun he=>?_
       exact⟨_,(Zj he :),(Za [(10000001,61)])⟩
      ·exact⟨_,(Zbn he :),(Za [(10001000,10000001)])⟩
  ·exact ZJS
 ·exact ZJS
def Zmz:Con:=fun
  |[.agg [.imm (.int .i64) m_0,.imm (.pair (.int .i64) (.pair (.sl (.int .i64)) (.pair (.sl (.int .i64)) (.pair (.int .i64) (.sl (.sl (.int .i64))))))) m_1],.c (.imm .bool values)],[]=>.opt _ (Zkc (m_0,m_1) values) (fun r=>.ret (.tup [.c (.own 900 false),.c (.bool r.1)]) [(900,.sl 3 y0_ r.2 .shallow)])
  |_,_=>.fail
def ZzB:Cfg:={ y:=tys,n:=56,h:=0,tab:=[(130,Zfo),(133,Zgg)] }
theorem ZOq {P:Prop} (h:P:=by
  refine Zg he (fun he=>?_) fun he=>?_
  ·exact ZBo
  ·exact ZdC):P:=h
theorem ZzR:Zn Tryz.prog 67 Zmz:=by
 refine Zq (C:=ZzB) Tryz.f67 (Zk Zka (Zk ZkP Zr)) fun _ a b k he=>?_
 unfold Zmz at he;split at he;rotate_left;exact he.elim
 rename_i m_0 m_1 values
 refine Zs he fun he=>?_
 refine Zi he fun r1_ he=>?_
 refine ZC he (fun he=>?_) fun he=>?_
 ·refine Zg he (fun he=>?_) fun he=>?_
  ·exact Zv [(4,[]),(5,[])] (Zj he :) (Za [(900,19)])
  ·refine Zt (Zht (m_0,m_1) values) (fun (i,out)=>(Zm [(1,.c (.imm .bool values)),(2,.c (.ptr 10000000 0)),(6,.c (.own 10000001 false)),(7,.c (.int .i64 i))],[(10000000,.rc [.imm y0_ (m_0,m_1).1,.imm y5_ (m_0,m_1).2]),(10000001,.sl 3 y0_ out .shallow)])) he (Za [(10000000,2),(10000001,20)]) ?_
   rintro⟨i,out⟩ _ he
   refine Zg he (fun he=>?_) fun he=>?_
   ·refine Zt (Zhu (m_0,m_1) values i out) (fun (v1,n1,k_1)=>(Zm [(1,.c (.imm .bool values)),(2,.c (.ptr 10002000 0)),(6,.c (.own 10002001 false)),(7,.c (.int .i64 i)),(8,.c (.int .i64 v1)),(9,.c (.int .i64 n1)),(10,.c (.int .i64 k_1))],[(10002000,.rc [.imm y0_ (m_0,m_1).1,.imm y5_ (m_0,m_1).2]),(10002001,.sl 3 y0_ out .shallow)])) he (Za [(10002000,10000000),(10002001,10000001)]) ?_
    rintro⟨v1,n1,k_1⟩ _ he
    refine Zh he fun he=>?_
    refine Zg he (fun he=>?_) fun he=>?_
    ·refine Zi he fun r3_ he=>?_
     refine Zh he fun he=>?_
     refine Zh he fun he=>?_
     exact ZOq
    ·refine Zg he (fun he=>?_) fun he=>?_
     ·exact Zv [(4,[]),(5,[])] (Zj he :) (Za [(900,50)])
     ·refine Zh he fun he=>?_
      refine Zh he fun he=>?_
      exact⟨_,(Zj he :),(Za [(10000000,10002000),(10000001,54)])⟩
   ·exact ZEN
 ·exact Zv [(4,[]),(5,[])] (Zj he :) (Za [(900,19)])
def ZmB:Con:=fun
  |[.agg [.imm (.int .i64) a0_0,.imm (.pair (.int .i64) (.pair (.sl (.int .i64)) (.pair (.sl (.int .i64)) (.pair (.int .i64) (.sl (.sl (.int .i64))))))) a0_1],.c (.imm (.int .i64) a1),.c (.int .i64 a2)],[]=>.opt _ (Zg6 (a0_0,a0_1) a1 a2) (fun r=>.ret (.tup [.c (.int .i64 r.1),.c (.own 900 false),.c (.own 901 false)]) [(900,.sl 3 y0_ r.2.1 .shallow),(901,.sl 96 Zdg r.2.2 (.deep true .no))])
  |_,_=>.fail
def ZoY:Sched:=.alt 11 (.first 12 .done) .stop
def ZjI:Sched:=.alt 6 (Zy [7,8,9] ZoY) .stop
def ZoZ:Sched:=.alt 6 (Zy [7,8,9] (.alt 10 ZoY .stop)) (.alt 10 ZjI .stop)
def Zo0:Sched:=.alt 4 (.first 5 ZjI) .stop
def Zo1:Sched:=.alt 0 ZjI .stop
def ZzE:Cfg:={ y:=tys,n:=99,h:=0,tab:=[(62,Zjh),(63,ZkD),(64,Zfy),(65,Zn7),(66,ZmC),(67,Zmz)],cut:=[8,9,14],deep:=[45,78],sched:=[(7,(Zy [1,2,3] (.alt 0 (.alt 4 (.first 5 ZoZ) (.alt 10 Zo0 .stop)) (.alt 4 (.first 5 (.alt 0 ZoZ (.alt 10 Zo1 .stop))) (.alt 10 (.alt 0 Zo0 (.alt 4 (.first 5 Zo1) .stop)) .stop)))))],frz:=[49] }
theorem ZBw {P:Prop} (h:P:=by
  exact Zv [(6,[]),(7,[]),(8,[])] (Zj he :) (Za [(900,44),(901,45)])):P:=h
theorem ZOr {P:Prop} (h:P:=by
  refine Y4 ?_
  exact⟨_,he,(Za [(10004000,10000000),(10004001,10000001),(10004002,49),(10004003,13),(10004004,61901)])⟩):P:=h
theorem ZES {P:Prop} (h:P:=by
  refine Y4 ?_
  refine⟨r10_,hq3,?_⟩
  exact ZOr):P:=h
theorem ZOs {P:Prop} (h:P:=by
  refine Y5 ?_ ?_
  ·skip
   refine⟨r10_,hq3,?_⟩
   refine Y4 ?_
   exact ZOr
  ·skip
   exact ZES):P:=h
theorem ZOt {P:Prop} (h:P:=by
  skip
  refine Y4 ?_
  refine⟨r9_,hq1,?_⟩
  refine And.intro hq2 ?_
  exact ZES):P:=h
theorem ZzT:Zn Tryz.prog 13 ZmB:=by
 refine Zq (C:=ZzE) Tryz.f13 (Zk ZsY (Zk ZrP (Zk ZoB (Zk ZxF (Zk ZzU (Zk ZzR Zr)))))) fun _ a b k he=>?_
 unfold ZmB at he;split at he;rotate_left;exact he.elim
 rename_i a0_0 a0_1 a1 a2
 refine Zs he fun he=>?_
 refine Zi he fun r1_ he=>?_
 refine ZC he (fun he=>?_) fun he=>?_
 ·refine Zi he fun r2_ he=>?_
  refine ZC he (fun he=>?_) fun he=>?_
  ·refine ZC he (fun he=>?_) fun he=>?_
   ·refine ZC he (fun he=>?_) fun he=>?_
    ·refine Zg he (fun he=>?_) fun he=>?_
     ·exact ZBw
     ·refine Zt (Zcn (a0_0,a0_1) a1 a2 r1_) (fun i1=>(Zm [(1,.c (.imm y0_ a1)),(2,.c (.int .i64 a2)),(3,.c (.ptr 10000000 0)),(9,.c (.imm y7_ r1_.2)),(11,.c (.own 10000001 false))],[(10000000,.rc [.imm y0_ (a0_0,a0_1).1,.imm y5_ (a0_0,a0_1).2]),(10000001,.sl 3 y0_ i1 .shallow)])) he ((Zh2 [21900]).trans (Za [(10000000,3),(10000001,46)] (l:=[(1,.c (.imm y0_ a1)),(2,.c (.int .i64 a2)),(3,.c (.ptr 10000000 0)),(9,.c (.imm y7_ r1_.2)),(11,.c (.own 10000001 false))]) (st':=[(10000000,.rc [.imm y0_ (a0_0,a0_1).1,.imm y5_ (a0_0,a0_1).2]),(10000001,.sl 3 y0_ ([]:List Int) .shallow)]))) ?_
      rintro i1 _ he
      refine Zh he fun he=>?_
      refine ZK (ZcP (a0_0,a0_1) a2 i1) (fun i2=>(Zm [(1,.c (.imm y0_ a1)),(2,.c (.int .i64 a2)),(3,.c (.ptr 10005000 0)),(9,.c (.imm y7_ r1_.2)),(11,.c (.own 10005001 false)),(12,.c (.own 10005002 false))],[(10005000,.rc [.imm y0_ (a0_0,a0_1).1,.imm y5_ (a0_0,a0_1).2]),(10005001,.sl 3 y0_ i1 .shallow),(10005002,.sl 89 y7_ i2 .shallow)])) he ?_ ?_
      ·rintro i2 he
       refine Zi he fun r11_ he=>?_
       refine Zg he (fun he=>?_) fun he=>?_
       ·exact Zv [(6,[]),(7,[]),(8,[])] (Zj he :) (Za [(900,10005001),(901,78)])
       ·refine ZK (Zeh (a0_0,a0_1) i1 r11_) (fun _=>(Zm [(1,.c (.imm y0_ a1)),(2,.c (.int .i64 a2)),(3,.c (.ptr 10006000 0)),(9,.c (.imm y7_ r1_.2)),(11,.c (.own 10006001 false)),(15,.c (.int .i64 r11_.1)),(16,.c (.own 10006002 false)),(17,.c (.own 10006003 false))],[(10006000,.rc [.imm y0_ (a0_0,a0_1).1,.imm y5_ (a0_0,a0_1).2]),(10006001,.sl 3 y0_ i1 .shallow),(10006002,.sl 4 .bool r11_.2.1 .shallow),(10006003,.sl 96 Zdg r11_.2.2 (.deep true .no))])) he ?_ ?_
        ·rintro⟨⟩ he
         refine Zg he (fun he=>?_) fun he=>?_
         ·exact Zv [(6,[]),(7,[]),(8,[])] (Zj he :) (Za [(900,10006001),(901,10006003)])
         ·refine Zi he fun r12_ he=>?_
          exact⟨_,(Zj he :),(Za [(10000000,10006000),(10000001,97900)])⟩
        ·skip
         refine Zg he (fun he=>?_) fun he=>?_
         ·refine Zg he (fun he=>?_) fun he=>?_
          ·exact Zv [(6,[]),(7,[]),(8,[])] (Zj he :) (Za [(900,10005001),(901,71901)])
          ·exact⟨_,he,(Za [(10006000,10005000),(10006001,10005001),(10006002,71900),(10006003,71901)])⟩
         ·exact⟨_,he,(Za [(10006000,10005000),(10006001,10005001),(10006002,71900),(10006003,71901)])⟩
      ·skip
       refine Zg he (fun he=>?_) fun he=>?_
       ·refine ZK (ZlD (a0_0,a0_1) a2 r1_ i1) (fun (i_11,i_01)=>(Zm [(1,.c (.imm y0_ a1)),(2,.c (.int .i64 a2)),(3,.c (.ptr 10004000 0)),(9,.c (.imm y7_ r1_.2)),(11,.c (.own 10004001 false)),(12,.c (.own 10004002 false)),(13,.c (.ptr 10004003 0))],[(10004000,.rc [.imm y0_ (a0_0,a0_1).1,.imm y5_ (a0_0,a0_1).2]),(10004001,.sl 3 y0_ i1 .shallow),(10004002,.sl 89 y7_ (([]:List D7_)++r1_.2) .shallow),(10004003,.rc [.own 10004004 false,.int .i64 i_11]),(10004004,.sl 155 y6_ i_01 .shallow)])) he ?_ ?_
        ·rintro⟨i_11,i_01⟩ he
         refine Zh he fun he=>?_
         exact⟨_,he,(Za [(10005000,10004000),(10005001,10004001),(10005002,66)])⟩
        ·skip
         refine And.intro (by kernel_rfl) ?_
         obtain⟨r9_,hq1,he⟩:=ZS he
         obtain⟨hq2,he⟩:=ZD he
         obtain⟨r10_,hq3,he⟩:=ZS he
         refine And.intro ?_ (And.intro ?_ (And.intro ?_ (Y1)))
         ·skip
          refine Y5 ?_ ?_
          ·skip
           refine⟨r9_,hq1,?_⟩
           refine And.intro hq2 ?_
           exact ZOs
          ·exact ZOt
         ·skip
          refine⟨r9_,hq1,?_⟩
          refine And.intro hq2 ?_
          refine Y5 ?_ ?_
          ·skip
           exact ZOs
          ·skip
           refine Y4 ?_
           exact ZES
         ·skip
          refine Y5 ?_ ?_
          ·exact ZOt
          ·skip
           refine⟨r9_,hq1,?_⟩
           refine And.intro hq2 ?_
           refine Y4 ?_
           exact ZES
       ·exact⟨_,he,(Za [(10005000,10000000),(10005001,10000001),(10005002,49)])⟩
    ·exact ZBw
   ·exact ZBw
  ·exact ZBw
 ·exact ZBw
def ZnA:Con:=fun
  |[.c (.ptr 0 0),.agg [.own 1 false,.own 2 false]],[(0,.rc [.imm (.int .u8) r__0,.int .i64 r__1]),(1,.sl 3 (.int .i64) o1 .shallow),(2,.sl 145 (.pair (.int .i64) (.pair (.sl (.int .i64)) (.pair (.sl (.int .i64)) (.pair (.int .i64) (.sl (.sl (.int .i64))))))) o2 (.deep true .no))]=>.opt _ (ZlV (r__0,r__1) o1 o2) (fun r=>.ret (.c (.own 900 false)) [(0,.rc [.imm (.int .u8) r.1.1,.int .i64 r.1.2]),(1,.sl 3 y0_ o1 .shallow),(2,.sl 145 y5_ o2 (.deep true .no)),(900,.sl 3 y0_ r.2 .shallow)])
  |_,_=>.fail
def ZAf:Cfg:={ y:=tys,n:=39,h:=3,tab:=[(54,ZeH),(87,Zc0)],cut:=[6] }
theorem ZAJ:Zn Tryz.prog 53 ZnA:=by
 refine Zq (C:=ZAf) Tryz.f53 (Zk Zh1 (Zk Zeo Zr)) fun _ a b k he=>?_
 unfold ZnA at he;split at he;rotate_left;exact he.elim
 rename_i r__0 r__1 o1 o2
 refine Zs he fun he=>?_
 refine ZK (ZmO) (fun (r_2,out1)=>(Zm [(0,.c (.ptr 0 0)),(5,.c (.own 10001000 false))],[(0,.rc [.imm (.int .u8) r_2.1,.int .i64 r_2.2]),(1,.sl 3 y0_ o1 .shallow),(2,.sl 145 y5_ o2 (.deep true .no)),(10001000,.sl 3 y0_ out1 .shallow)])) he ?_ ?_
 ·rintro⟨r_2,out1⟩ he
  refine Zi he fun r3_ he=>?_
  refine Zg he (fun he=>?_) fun he=>?_
  ·refine Zg he (fun he=>?_) fun he=>?_
   ·refine Zi he fun r4_ he=>?_
    refine Zh he fun he=>?_
    exact Zv [(4,[])] (Zj he :) (Za [(900,10001000)])
   ·exact Zv [(4,[])] (Zj he :) (Za [(900,10001000)])
  ·refine Zg he (fun he=>?_) fun he=>?_
   ·refine Zh he fun he=>?_
    exact Zv [(4,[])] (Zj he :) (Za [(900,37)])
   ·exact Zv [(4,[])] (Zj he :) (Za [(900,10001000)])
 ·skip
  refine Zt (ZiK o1) (fun (i,r_1,out)=>(Zm [(0,.c (.ptr 0 0)),(3,.c (.ptr 10000000 0)),(5,.c (.own 10000001 false)),(6,.c (.int .i64 i))],[(0,.rc [.imm (.int .u8) r_1.1,.int .i64 r_1.2]),(1,.sl 3 y0_ o1 .shallow),(2,.sl 145 y5_ o2 (.deep true .no)),(10000000,.rc [.own 1 false,.own 2 false]),(10000001,.sl 3 y0_ out .shallow)])) he (Za [(10000000,3),(10000001,7)]) ?_
  rintro⟨i,r_1,out⟩ _ he
  refine Zg he (fun he=>?_) fun he=>?_
  ·refine Zi he fun r2_ he=>?_
   refine Zh he fun he=>?_
   refine Zh he fun he=>?_
   exact⟨_,(Zj he :),(Za [(10000001,20)])⟩
  ·exact⟨_,(Zbn he :),(Za [(10001000,10000001)])⟩
def Zi0:Con:=fun
  |[.c (.ptr 0 0),.agg [.own 1 false,.own 2 false]],[(0,.rc [.imm (.int .u8) r__0,.int .i64 r__1]),(1,.sl 3 (.int .i64) o1 .shallow),(2,.sl 145 (.pair (.int .i64) (.pair (.sl (.int .i64)) (.pair (.sl (.int .i64)) (.pair (.int .i64) (.sl (.sl (.int .i64))))))) o2 (.deep true .no))]=>.opt _ (ZgK (r__0,r__1) o1 o2) (fun r=>.ret (.c (.own 900 false)) [(0,.rc [.imm (.int .u8) r.1.1,.int .i64 r.1.2]),(1,.sl 3 y0_ o1 .shallow),(2,.sl 145 y5_ o2 (.deep true .no)),(900,.sl 3 y0_ r.2 .shallow)])
  |_,_=>.fail
def ZvO:Cfg:={ y:=tys,n:=52,h:=3,tab:=[(54,ZeH),(87,Zc0)],cut:=[8,9],wrp:=[21] }
theorem ZJT {P:Prop} (h:P:=by
  exact⟨_,he,(Za [(10002000,10000000),(10002001,10000001)])⟩):P:=h
theorem Zv0:Zn Tryz.prog 88 Zi0:=by
 refine Zq (C:=ZvO) Tryz.f88 (Zk Zh1 (Zk Zeo Zr)) fun _ a b k he=>?_
 unfold Zi0 at he;split at he;rotate_left;exact he.elim
 rename_i r__0 r__1 o1 o2
 refine Zs he fun he=>?_
 refine ZK (Zif) (fun (r_2,out1)=>(Zm [(0,.c (.ptr 0 0)),(5,.c (.own 10003000 false))],[(0,.rc [.imm (.int .u8) r_2.1,.int .i64 r_2.2]),(1,.sl 3 y0_ o1 .shallow),(2,.sl 145 y5_ o2 (.deep true .no)),(10003000,.sl 3 y0_ out1 .shallow)])) he ?_ ?_
 ·rintro⟨r_2,out1⟩ he
  refine Zi he fun r3_ he=>?_
  refine Zg he (fun he=>?_) fun he=>?_
  ·refine Zh he fun he=>?_
   exact Zv [(4,[])] (Zj he :) (Za [(900,40)])
  ·refine Zg he (fun he=>?_) fun he=>?_
   ·refine Zg he (fun he=>?_) fun he=>?_
    ·refine Zi he fun r4_ he=>?_
     refine Zh he fun he=>?_
     exact Zv [(4,[])] (Zj he :) (Za [(900,10003000)])
    ·exact Zv [(4,[])] (Zj he :) (Za [(900,10003000)])
   ·exact Zv [(4,[])] (Zj he :) (Za [(900,10003000)])
 ·skip
  refine Zt (Zfl o1) (fun (i,r_1,out)=>(Zm [(0,.c (.ptr 0 0)),(3,.c (.ptr 10000000 0)),(5,.c (.own 10000001 false)),(6,.c (.int .i64 i))],[(0,.rc [.imm (.int .u8) r_1.1,.int .i64 r_1.2]),(1,.sl 3 y0_ o1 .shallow),(2,.sl 145 y5_ o2 (.deep true .no)),(10000000,.rc [.own 1 false,.own 2 false]),(10000001,.sl 3 y0_ out .shallow)])) he (Za [(10000000,3),(10000001,8)]) ?_
  rintro⟨i,r_1,out⟩ _ he
  refine Zg he (fun he=>?_) fun he=>?_
  ·refine Zh he fun he=>?_
   refine ZK (ZbI i r_1 out) (fun n1=>(Zm [(0,.c (.ptr 0 0)),(3,.c (.ptr 10002000 0)),(5,.c (.own 10002001 false)),(6,.c (.int .i64 i)),(7,.c (.int .i64 n1))],[(0,.rc [.imm (.int .u8) r_1.1,.int .i64 r_1.2]),(1,.sl 3 y0_ o1 .shallow),(2,.sl 145 y5_ o2 (.deep true .no)),(10002000,.rc [.own 1 false,.own 2 false]),(10002001,.sl 3 y0_ out .shallow)])) he ?_ ?_
   ·rintro n1 he
    refine Zi he fun r2_ he=>?_
    refine Zh he fun he=>?_
    refine Zh he fun he=>?_
    exact⟨_,(Zj he :),(Za [(10000000,10002000),(10000001,33)])⟩
   ·skip
    refine ZC he (fun he=>?_) fun he=>?_
    ·refine Zg he (fun he=>?_) fun he=>?_
     ·exact ZJT
     ·exact ZJT
    ·exact ZJT
  ·exact⟨_,(Zbn he :),(Za [(10003000,10000001)])⟩
def ZiX:Con:=fun
  |[.c (.imm (.int .u8) code)],[]=>.opt _ (ZgH code) (fun r=>.ret (.tup [.agg [.own 903 false,.own 904 false],.c (.own 901 false),.c (.own 902 false),.c (.imm Zdg r.1)]) [(900,.rc [.own 903 false,.own 904 false]),(901,.sl 3 y0_ r.2.1 .shallow),(902,.sl 3 y0_ r.2.2.1 .shallow),(903,.sl 3 y0_ r.2.2.2.1 .shallow),(904,.sl 145 y5_ r.2.2.2.2 (.deep true .no))])
  |_,_=>.fail
def ZvL:Cfg:={ y:=tys,n:=51,h:=0,tab:=[(13,ZmB),(50,ZrE),(51,ZqL),(52,ZrI),(53,ZnA),(87,Zc0),(88,Zi0)],cut:=[7,9],hand:=[(53,[1]),(88,[1])],frz:=[46] }
theorem ZvX:Zn Tryz.prog 28 ZiX:=by
 refine Zq (C:=ZvL) Tryz.f28 (Zk ZzT (Zk ZFn (Zk ZDZ (Zk ZFr (Zk ZAJ (Zk Zeo (Zk Zv0 Zr))))))) fun _ a b k he=>?_
 unfold ZiX at he;split at he;rotate_left;exact he.elim
 rename_i code
 refine Zs he fun he=>?_
 refine Zi he fun r1_ he=>?_
 refine Zi he fun r2_ he=>?_
 refine Zi he fun r3_ he=>?_
 refine Zi he fun r4_ he=>?_
 refine Zi he fun r5_ he=>?_
 refine ZK (Zea r3_ r4_ r5_) (fun (r_,cells)=>(Zm [(2,.c (.ptr 10000000 0)),(6,.c (.ptr 10000001 0)),(7,.c (.ptr 10000002 0)),(8,.c (.own 10000003 false)),(10,.c (.own 10000004 false)),(11,.c (.own 10000005 false))],[(10000000,.rc [.nil,.nil]),(10000001,.rc [.imm (.int .u8) r_.1,.int .i64 r_.2]),(10000002,.rc [.own 10000006 false,.own 10000007 false]),(10000003,.sl 3 y0_ r4_.2 .shallow),(10000004,.sl 3 y0_ cells .shallow),(10000005,.sl 96 Zdg r5_.2.2 (.deep true .no)),(10000006,.sl 3 y0_ r3_.2.1 .shallow),(10000007,.sl 145 y5_ r3_.2.2 (.deep true .no))])) he ?_ ?_
 ·rintro⟨r_,cells⟩ he
  refine ZK (Zeb r3_ r4_ cells) (fun steps=>(Zm [(2,.c (.ptr 10001000 0)),(7,.c (.ptr 10001001 0)),(8,.c (.own 10001002 false)),(10,.c (.own 10001003 false)),(11,.c (.imm Zdg steps))],[(10001000,.rc [.nil,.nil]),(10001001,.rc [.own 10001004 false,.own 10001005 false]),(10001002,.sl 3 y0_ r4_.2 .shallow),(10001003,.sl 3 y0_ cells .shallow),(10001004,.sl 3 y0_ r3_.2.1 .shallow),(10001005,.sl 145 y5_ r3_.2.2 (.deep true .no))])) he ?_ ?_
  ·rintro steps he
   exact Zv [(2,[900]),(3,[]),(4,[]),(5,[])] (Zj he :) (Za [(900,10001000),(901,10001002),(902,10001003),(903,10001004),(904,10001005)])
  ·skip
   refine Zg he (fun he=>?_) fun he=>?_
   ·refine Zi he fun r8_ he=>?_
    refine Zg he (fun he=>?_) fun he=>?_
    ·refine Zh he fun he=>?_
     refine Zh he fun he=>?_
     exact⟨_,he,(Za [(10001000,10000000),(10001001,10000002),(10001002,10000003),(10001003,10000004),(10001004,10000006),(10001005,10000007)])⟩
    ·exact⟨_,he,((Zh2 [10000005]).trans (Za [(10001000,10000000),(10001001,10000002),(10001002,10000003),(10001003,10000004),(10001004,10000006),(10001005,10000007)] (l:=[(2,.c (.ptr 10001000 0)),(7,.c (.ptr 10001001 0)),(8,.c (.own 10001002 false)),(10,.c (.own 10001003 false)),(11,.c (.imm Zdg r5_.2.2))]) (st':=[(10001000,.rc [.nil,.nil]),(10001001,.rc [.own 10001004 false,.own 10001005 false]),(10001002,.sl 3 y0_ r4_.2 .shallow),(10001003,.sl 3 y0_ cells .shallow),(10001004,.sl 3 y0_ r3_.2.1 .shallow),(10001005,.sl 145 y5_ r3_.2.2 (.deep true .no))])))⟩
   ·exact⟨_,he,((Zh2 [10000005]).trans (Za [(10001000,10000000),(10001001,10000002),(10001002,10000003),(10001003,10000004),(10001004,10000006),(10001005,10000007)] (l:=[(2,.c (.ptr 10001000 0)),(7,.c (.ptr 10001001 0)),(8,.c (.own 10001002 false)),(10,.c (.own 10001003 false)),(11,.c (.imm Zdg r5_.2.2))]) (st':=[(10001000,.rc [.nil,.nil]),(10001001,.rc [.own 10001004 false,.own 10001005 false]),(10001002,.sl 3 y0_ r4_.2 .shallow),(10001003,.sl 3 y0_ cells .shallow),(10001004,.sl 3 y0_ r3_.2.1 .shallow),(10001005,.sl 145 y5_ r3_.2.2 (.deep true .no))])))⟩
 ·skip
  refine Zi he fun r6_ he=>?_
  refine Zg he (fun he=>?_) fun he=>?_
  ·refine Zi he fun r7_ he=>?_
   exact⟨_,he,(Za [(10000000,2),(10000001,14900),(10000002,7),(10000003,21900),(10000004,34900),(10000005,25901),(10000006,18901),(10000007,18902)])⟩
  ·exact⟨_,he,(Za [(10000000,2),(10000001,14900),(10000002,7),(10000003,21900),(10000004,25900),(10000005,25901),(10000006,18901),(10000007,18902)])⟩
def Zb9:Con:=fun
  |[.c (.int .i64 n),.c (.int .i64 low),.c (.int .i64 high)],[]=>.opt _ (ZbB n low high) (fun r=>.ret (.c (.bool r)) [])
  |_,_=>.fail
def ZG1:Cfg:={ y:=tys,n:=15,h:=0,tab:=[] }
theorem ZcH:Zn Tryz.prog 127 Zb9:=by
 refine Zq (C:=ZG1) Tryz.f127 Zr fun _ a b k he=>?_
 unfold Zb9 at he;split at he;rotate_left;exact he.elim
 rename_i n low high
 refine Zs he fun he=>?_
 refine Zg he (fun he=>?_) fun he=>?_
 ·exact Zbf
 ·exact Zbf
def Zns:Con:=fun
  |[.c (.imm (.int .i64) s_),.c (.int .i64 v)],[]=>.opt _ (Zlz s_ v) (fun r=>.ret (.c (.int .i64 r)) [])
  |_,_=>.fail
def Zz6:Cfg:={ y:=tys,n:=19,h:=0,tab:=[] }
theorem ZAD:Zn Tryz.prog 237 Zns:=by
 refine Zq (C:=Zz6) Tryz.f237 Zr fun _ a b k he=>?_
 unfold Zns at he;split at he;rotate_left;exact he.elim
 rename_i s_ v
 refine Zs he fun he=>?_
 refine Zt (ZcY s_ v) (fun i=>(Zm [(0,.c (.imm y0_ s_)),(1,.c (.int .i64 v)),(7,.c (.int .i64 (s_.length:Int))),(8,.c (.int .i64 i))],[])) he (Za []) ?_
 rintro i _ he
 refine Zg he (fun he=>?_) fun he=>?_
 ·refine Zh he fun he=>?_
  exact ZEM
 ·exact Zbf
def ZeN:Con:=fun
  |[.c (.imm (.int .i64) s_),.c (.int .i64 v)],[]=>.opt _ (Zcz s_ v) (fun r=>.ret (.c (.bool r)) [])
  |_,_=>.fail
def Zxk:Cfg:={ y:=tys,n:=9,h:=0,tab:=[(237,Zns)] }
theorem ZkL:Zn Tryz.prog 178 ZeN:=by
 refine Zq (C:=Zxk) Tryz.f178 (Zk ZAD Zr) fun _ a b k he=>?_
 unfold ZeN at he;split at he;rotate_left;exact he.elim
 rename_i s_ v
 refine Zs he fun he=>?_
 refine Zi he fun r1_ he=>?_
 exact Zbf
def Znp:Con:=fun
  |[.c (.int .i64 n)],[]=>.opt _ (ZpQ n) (fun r=>.ret (.c (.bool r)) [])
  |_,_=>.fail
def Zz2:Cfg:={ y:=tys,n:=10,h:=0,tab:=[(127,Zb9)] }
theorem ZJU {P:Prop} (h:P:=by
  refine Zi he fun r1_ he=>?_
  exact Zbf):P:=h
theorem ZAz:Zn Tryz.prog 199 Znp:=by
 refine Zq (C:=Zz2) Tryz.f199 (Zk ZcH Zr) fun _ a b k he=>?_
 unfold Znp at he;split at he;rotate_left;exact he.elim
 rename_i n
 refine Zs he fun he=>?_
 refine ZC he (fun he=>?_) fun he=>?_
 ·exact ZJU
 ·exact Zbf
def Zdt:Con:=fun
  |[.c (.imm (.int .i64) s_),.c (.fn 199 [])],[]=>.opt _ (ZdQ s_) (fun r=>.ret (.c (.int .i64 r)) [])
  |_,_=>.fail
def Zk9:Cfg:={ y:=tys,n:=19,h:=0,tab:=[(199,Znp)] }
theorem Zls:Zn Tryz.prog 186 Zdt:=by
 refine Zq (C:=Zk9) Tryz.f186 (Zk ZAz Zr) fun _ a b k he=>?_
 unfold Zdt at he;split at he;rotate_left;exact he.elim
 rename_i s_
 refine Zs he fun he=>?_
 refine Zt (ZbA s_) (fun i=>(Zm [(0,.c (.imm y0_ s_)),(1,.c (.fn 199 [])),(7,.c (.int .i64 (s_.length:Int))),(8,.c (.int .i64 i))],[])) he (Za []) ?_
 exact ZBu
def ZcU:Con:=fun
  |[.c (.imm (.int .i64) s_),.c (.fn 199 [])],[]=>.opt _ (Zcc s_) (fun r=>.ret (.c (.bool r)) [])
  |_,_=>.fail
def ZjY:Cfg:={ y:=tys,n:=9,h:=0,tab:=[(186,Zdt)] }
theorem Zj0:Zn Tryz.prog 125 ZcU:=by
 refine Zq (C:=ZjY) Tryz.f125 (Zk Zls Zr) fun _ a b k he=>?_
 unfold ZcU at he;split at he;rotate_left;exact he.elim
 rename_i s_
 refine Zs he fun he=>?_
 refine Zi he fun r1_ he=>?_
 exact Zbf
def Zle:Con:=fun
  |[.c (.int .i64 n)],[]=>.opt _ (ZnK n) (fun r=>.ret (.c (.bool r)) [])
  |_,_=>.fail
def Zye:Cfg:={ y:=tys,n:=6,h:=0,tab:=[(127,Zb9)] }
theorem ZyE:Zn Tryz.prog 202 Zle:=by
 refine Zq (C:=Zye) Tryz.f202 (Zk ZcH Zr) fun _ a b k he=>?_
 unfold Zle at he;split at he;rotate_left;exact he.elim
 rename_i n
 refine Zs he fun he=>?_
 refine Zi he fun r1_ he=>?_
 exact Zbf
def Zc5:Con:=fun
  |[.c (.imm (.int .i64) s_),.c (.fn 202 [])],[]=>.opt _ (Zdw s_) (fun r=>.ret (.c (.int .i64 r)) [])
  |_,_=>.fail
def Zkn:Cfg:={ y:=tys,n:=19,h:=0,tab:=[(202,Zle)] }
theorem ZkN:Zn Tryz.prog 186 Zc5:=by
 refine Zq (C:=Zkn) Tryz.f186 (Zk ZyE Zr) fun _ a b k he=>?_
 unfold Zc5 at he;split at he;rotate_left;exact he.elim
 rename_i s_
 refine Zs he fun he=>?_
 refine Zt (Zbp s_) (fun i=>(Zm [(0,.c (.imm y0_ s_)),(1,.c (.fn 202 [])),(7,.c (.int .i64 (s_.length:Int))),(8,.c (.int .i64 i))],[])) he (Za []) ?_
 exact ZBu
def ZcL:Con:=fun
  |[.c (.imm (.int .i64) s_),.c (.fn 202 [])],[]=>.opt _ (Zb4 s_) (fun r=>.ret (.c (.bool r)) [])
  |_,_=>.fail
def Zjc:Cfg:={ y:=tys,n:=9,h:=0,tab:=[(186,Zc5)] }
theorem Zjt:Zn Tryz.prog 125 ZcL:=by
 refine Zq (C:=Zjc) Tryz.f125 (Zk ZkN Zr) fun _ a b k he=>?_
 unfold ZcL at he;split at he;rotate_left;exact he.elim
 rename_i s_
 refine Zs he fun he=>?_
 refine Zi he fun r1_ he=>?_
 exact Zbf
def Znq:Con:=fun
  |[.c (.imm (.int .i64) row),.c (.ptr 0 0)],[(0,.rc [.int .i64 o0_0,.imm (.int .i64) o0_1,.imm (.int .i64) o0_2,.int .i64 o0_3,.imm (.sl (.int .i64)) o0_4])]=>.opt _ (ZpR row (o0_0,(o0_1,(o0_2,(o0_3,o0_4))))) (fun r=>.ret (.c (.bool r)) [(0,.rc [.int .i64 o0_0,.imm y0_ o0_1,.imm y0_ o0_2,.int .i64 o0_3,.imm (.sl y0_) o0_4])])
  |_,_=>.fail
def Zz3:Cfg:={ y:=tys,n:=14,h:=1,tab:=[(125,ZcL)] }
theorem Zvz {P:Prop} (h:P:=by
  exact Zv [(3,[])] (Zj he :) (Za [])):P:=h
theorem ZQg {P:Prop} (h:P:=by
  refine Zi he fun r1_ he=>?_
  exact Zvz):P:=h
theorem ZAA:Zn Tryz.prog 201 Znq:=by
 refine Zq (C:=Zz3) Tryz.f201 (Zk Zjt Zr) fun _ a b k he=>?_
 unfold Znq at he;split at he;rotate_left;exact he.elim
 rename_i row o0_0 o0_1 o0_2 o0_3 o0_4
 refine Zs he fun he=>?_
 refine ZC he (fun he=>?_) fun he=>?_
 ·exact ZQg
 ·exact Zvz
end
end Go.AE.Y
