/-
  Walks: each function keeps the contract that its model gives. No conditions.
-/
import Derived.Test.YtaeeiddjpigemaaGreatR8Tab
import Derived.Test.YtaeeiddjpigemaaGreatR8W6
import Derived.Test.YtaeeiddjpigemaaGreatR8S
namespace Go.AE.Y
open Go Go.AE Go.Proofs
set_option linter.unusedVariables false
set_option maxHeartbeats 2000000
set_option maxRecDepth 100000
noncomputable section
def Zn1:Con:=fun
  |[.c (.imm (.pair (.int .i64) (.pair (.int .i64) (.pair (.int .i64) (.pair (.sl (.pair (.int .i64) (.int .i64))) (.int .i64))))) a),.c (.imm (.pair (.int .i64) (.pair (.int .i64) (.pair (.int .i64) (.pair (.sl (.pair (.int .i64) (.int .i64))) (.int .i64))))) b)],[]=>.opt _ (Zfz a b) (fun r=>.ret (.c (.bool r)) [])
  |_,_=>.fail
def Zzq:Cfg:={ y:=tys,n:=8,h:=0,tab:=[(68,ZcE)] }
theorem ZzH:Zn Tryz.prog 15 Zn1:=by
 refine Zp (C:=Zzq) Tryz.f15 (Zk Zin Zq) fun _ a b k he=>?_
 unfold Zn1 at he;split at he;rotate_left;exact he.elim
 rename_i a b
 refine Zs he fun he=>?_
 refine Zi he fun r1_ he=>?_
 exact Z5
def ZpN:Con:=fun
  |[.agg [.int .i64 r__0,.imm (.int .i64) r__1,.imm (.int .i64) r__2,.int .i64 r__3,.imm (.sl (.int .i64)) r__4],.c (.imm (.int .i64) cells)],[]=>.opt _ (Zpb (r__0,(r__1,(r__2,(r__3,r__4)))) cells) (fun r=>.ret (.c (.bool r)) [])
  |_,_=>.fail
def ZBE:Cfg:={ y:=tys,n:=26,h:=0,tab:=[(184,Zjf)],cut:=[7] }
theorem ZB3:Zn Tryz.prog 142 ZpN:=by
 refine Zp (C:=ZBE) Tryz.f142 (Zk ZrK Zq) fun _ a b k he=>?_
 unfold ZpN at he;split at he;rotate_left;exact he.elim
 rename_i r__0 r__1 r__2 r__3 r__4 cells
 refine Zs he fun he=>?_
 refine ZL (Zpc (r__0,(r__1,(r__2,(r__3,r__4))))) (fun vals1=>(Zm [(2,.c (.ptr 10001000 0)),(5,.c (.own 10001001 false))],[(10001000,.rc [.int .i64 (r__0,(r__1,(r__2,(r__3,r__4)))).1,.imm y0_ (r__0,(r__1,(r__2,(r__3,r__4)))).2.1,.imm y0_ (r__0,(r__1,(r__2,(r__3,r__4)))).2.2.1,.int .i64 (r__0,(r__1,(r__2,(r__3,r__4)))).2.2.2.1,.imm (.sl y0_) (r__0,(r__1,(r__2,(r__3,r__4)))).2.2.2.2]),(10001001,.sl 3 y0_ vals1 .shallow)])) he ?_ ?_
 ·rintro vals1 he
  exact ZBw
 ·skip
  refine Zo (ZlH (r__0,(r__1,(r__2,(r__3,r__4)))) cells) (fun (i,vals)=>(Zm [(1,.c (.imm y0_ cells)),(2,.c (.ptr 10000000 0)),(5,.c (.own 10000001 false)),(9,.c (.imm y0_ (r__0,(r__1,(r__2,(r__3,r__4)))).2.1)),(10,.c (.int .i64 ((r__0,(r__1,(r__2,(r__3,r__4)))).2.1.length:Int))),(11,.c (.int .i64 i))],[(10000000,.rc [.int .i64 (r__0,(r__1,(r__2,(r__3,r__4)))).1,.imm y0_ (r__0,(r__1,(r__2,(r__3,r__4)))).2.1,.imm y0_ (r__0,(r__1,(r__2,(r__3,r__4)))).2.2.1,.int .i64 (r__0,(r__1,(r__2,(r__3,r__4)))).2.2.2.1,.imm (.sl y0_) (r__0,(r__1,(r__2,(r__3,r__4)))).2.2.2.2]),(10000001,.sl 3 y0_ vals .shallow)])) he (Za [(10000000,2)]) ?_
  rintro⟨i,vals⟩ _ he
  refine Zh he (fun he=>?_) fun he=>?_
  ·refine Zg he fun he=>?_
   refine Zg he fun he=>?_
   refine Zg he fun he=>?_
   refine Zg he fun he=>?_
   exact⟨_,(Zj he :),(Za [(10000001,21)])⟩
  ·exact⟨_,(Zbh he :),(Za [(10001000,10000000),(10001001,10000001)])⟩
def ZjD:Con:=fun
  |[.agg [.int .i64 r__0,.imm (.int .i64) r__1,.imm (.int .i64) r__2,.int .i64 r__3,.imm (.sl (.int .i64)) r__4],.c (.ptr 0 0)],[(0,.rc [.imm (.int .i64) o0])]=>.opt _ (Zlr (r__0,(r__1,(r__2,(r__3,r__4)))) o0) (fun r=>.ret (.c (.bool r)) [(0,.rc [.imm y0_ o0])])
  |_,_=>.fail
def Zup:Cfg:={ y:=tys,n:=8,h:=1,tab:=[(142,ZpN)] }
theorem Zuz:Zn Tryz.prog 141 ZjD:=by
 refine Zp (C:=Zup) Tryz.f141 (Zk ZB3 Zq) fun _ a b k he=>?_
 unfold ZjD at he;split at he;rotate_left;exact he.elim
 rename_i r__0 r__1 r__2 r__3 r__4 o0
 refine Zs he fun he=>?_
 refine Zi he fun r1_ he=>?_
 exact Zte
def Zcq:Con:=fun
  |[.c (.imm (.pair (.int .i64) (.pair (.sl (.int .i64)) (.pair (.sl (.int .i64)) (.pair (.int .i64) (.sl (.sl (.int .i64))))))) s_),.c (.fn 141 [0])],[(0,.rc [.imm (.int .i64) o0])]=>.opt _ (Zcx s_ o0) (fun r=>.ret (.c (.int .i64 r)) [(0,.rc [.imm y0_ o0])])
  |_,_=>.fail
def Zhc:Cfg:={ y:=tys,n:=19,h:=1,tab:=[(141,ZjD)] }
theorem Zhf:Zn Tryz.prog 198 Zcq:=by
 refine Zp (C:=Zhc) Tryz.f198 (Zk Zuz Zq) fun _ a b k he=>?_
 unfold Zcq at he;split at he;rotate_left;exact he.elim
 rename_i s_ o0
 refine Zs he fun he=>?_
 refine Zo (Z4 s_ o0) (fun i=>(Zm [(0,.c (.imm y5_ s_)),(1,.c (.fn 141 [0])),(7,.c (.int .i64 (s_.length:Int))),(8,.c (.int .i64 i))],[(0,.rc [.imm y0_ o0])])) he (Za []) ?_
 rintro i _ he
 exact Zyn
def Zb8:Con:=fun
  |[.c (.imm (.pair (.int .i64) (.pair (.sl (.int .i64)) (.pair (.sl (.int .i64)) (.pair (.int .i64) (.sl (.sl (.int .i64))))))) s_),.c (.fn 141 [0])],[(0,.rc [.imm (.int .i64) o0])]=>.opt _ (Zcl s_ o0) (fun r=>.ret (.c (.bool r)) [(0,.rc [.imm y0_ o0])])
  |_,_=>.fail
def Zgk:Cfg:={ y:=tys,n:=9,h:=1,tab:=[(198,Zcq)] }
theorem Zgr:Zn Tryz.prog 138 Zb8:=by
 refine Zp (C:=Zgk) Tryz.f138 (Zk Zhf Zq) fun _ a b k he=>?_
 unfold Zb8 at he;split at he;rotate_left;exact he.elim
 rename_i s_ o0
 refine Zs he fun he=>?_
 refine Zi he fun r1_ he=>?_
 exact Zbg
def Zlh:Con:=fun
  |[.agg [.imm (.int .i64) m_0,.imm (.pair (.int .i64) (.pair (.sl (.int .i64)) (.pair (.sl (.int .i64)) (.pair (.int .i64) (.sl (.sl (.int .i64))))))) m_1],.c (.imm (.int .i64) cells)],[]=>.opt _ (Zji (m_0,m_1) cells) (fun r=>.ret (.c (.bool r)) [])
  |_,_=>.fail
def Zwq:Cfg:={ y:=tys,n:=10,h:=0,tab:=[(138,Zb8)] }
theorem ZwG:Zn Tryz.prog 74 Zlh:=by
 refine Zp (C:=Zwq) Tryz.f74 (Zk Zgr Zq) fun _ a b k he=>?_
 unfold Zlh at he;split at he;rotate_left;exact he.elim
 rename_i m_0 m_1 cells
 refine Zs he fun he=>?_
 refine Zi he fun r1_ he=>?_
 exact Zbg
def Zhi:Con:=fun
  |[.c (.own 2 false),.c (.ptr 0 0),.c (.ptr 1 0)],[(0,.rc [.imm (.int .i64) o0_0,.imm (.pair (.int .i64) (.pair (.sl (.int .i64)) (.pair (.sl (.int .i64)) (.pair (.int .i64) (.sl (.sl (.int .i64))))))) o0_1]),(1,.rc [.int .i64 o1]),(2,.sl 3 (.int .i64) cells .shallow)]=>.opt _ (ZfJ (o0_0,o0_1) o1 cells) (fun r=>.ret (.c (.bool r.1)) [(0,.rc [.imm y0_ o0_0,.imm y5_ o0_1]),(1,.rc [.int .i64 r.2]),(2,.sl 3 y0_ cells .shallow)])
  |_,_=>.fail
def Zsk:Cfg:={ y:=tys,n:=10,h:=3,tab:=[(74,Zlh)] }
theorem ZsQ:Zn Tryz.prog 122 Zhi:=by
 refine Zp (C:=Zsk) Tryz.f122 (Zk ZwG Zq) fun _ a b k he=>?_
 unfold Zhi at he;split at he;rotate_left;exact he.elim
 rename_i o0_0 o0_1 o1 cells
 refine Zs he fun he=>?_
 refine Zi he fun r1_ he=>?_
 refine Zh he (fun he=>?_) fun he=>?_
 ·exact ZEa
 ·exact Zbg
def ZeP:Con:=fun
  |[.c (.imm (.int .i64) sizes),.c (.imm (.int .i64) from_),.c (.fn 122 [0,1])],[(0,.rc [.imm (.int .i64) o0_0,.imm (.pair (.int .i64) (.pair (.sl (.int .i64)) (.pair (.sl (.int .i64)) (.pair (.int .i64) (.sl (.sl (.int .i64))))))) o0_1]),(1,.rc [.int .i64 o1])]=>.opt _ (Zd8 sizes from_ (o0_0,o0_1) o1) (fun r=>.ret (.tup []) [(0,.rc [.imm y0_ o0_0,.imm y5_ o0_1]),(1,.rc [.int .i64 r])])
  |_,_=>.fail
def ZoQ:Cfg:={ y:=tys,n:=42,h:=2,tab:=[(75,Zdm),(122,Zhi)],cut:=[6],hand:=[(122,[0])] }
theorem ZHV {P:Prop} (h:P:=by
  exact Zv [] (Zj he :) (Za [] (l:=[]) (st':=[(0,.rc [.imm y0_ o0_0,.imm y5_ o0_1]),(1,.rc [.int .i64 r3_.2])]))):P:=h
theorem Zph:Zn Tryz.prog 72 ZeP:=by
 refine Zp (C:=ZoQ) Tryz.f72 (Zk ZeI (Zk ZsQ Zq)) fun _ a b k he=>?_
 unfold ZeP at he;split at he;rotate_left;exact he.elim
 rename_i sizes from_ o0_0 o0_1 o1
 refine Zs he fun he=>?_
 refine Zi he fun r1_ he=>?_
 refine Zo (ZdI sizes (o0_0,o0_1)) (fun (cap,cells2)=>(Zm [(0,.c (.imm y0_ sizes)),(2,.c (.fn 122 [0,1])),(6,.c (.own 10000000 false))],[(0,.rc [.imm y0_ (o0_0,o0_1).1,.imm y5_ (o0_0,o0_1).2]),(1,.rc [.int .i64 cap]),(10000000,.sl 3 y0_ cells2 .shallow)])) he (Za [(10000000,10900)]) ?_
 rintro⟨cap,cells2⟩ _ he
 refine Zi he fun r3_ he=>?_
 refine Zh he (fun he=>?_) fun he=>?_
 ·refine Zg he fun he=>?_
  refine ZL (ZdH r3_) (fun (i3,cells4)=>(Zm [(0,.c (.imm y0_ sizes)),(2,.c (.fn 122 [0,1])),(6,.c (.own 10004000 false)),(7,.c (.int .i64 i3))],[(0,.rc [.imm y0_ (o0_0,o0_1).1,.imm y5_ (o0_0,o0_1).2]),(1,.rc [.int .i64 r3_.2]),(10004000,.sl 3 y0_ cells4 .shallow)])) he ?_ ?_
  ·rintro⟨i3,cells4⟩ he
   refine Zh he (fun he=>?_) fun he=>?_
   ·exact ZHV
   ·refine Zg he fun he=>?_
    refine Zg he fun he=>?_
    refine Zg he fun he=>?_
    exact⟨_,(Zj he :),(Za [(10000000,10004000)])⟩
  ·skip
   refine Zo (ZeN sizes r3_) (fun (i2,cells3)=>(Zm [(0,.c (.imm y0_ sizes)),(2,.c (.fn 122 [0,1])),(6,.c (.own 10003000 false)),(7,.c (.int .i64 i2))],[(0,.rc [.imm y0_ (o0_0,o0_1).1,.imm y5_ (o0_0,o0_1).2]),(1,.rc [.int .i64 r3_.2]),(10003000,.sl 3 y0_ cells3 .shallow)])) he (Za [(10003000,10000000)]) ?_
   rintro⟨i2,cells3⟩ _ he
   refine And.intro (by kernel_rfl) ?_
   refine Zh he (fun he=>?_) fun he=>?_
   ·refine Zg he fun he=>?_
    refine Zg he fun he=>?_
    refine Zh he (fun he=>?_) fun he=>?_
    ·exact ZyQ
    ·exact⟨_,(Zbh he :),(Za [(10004000,10003000)])⟩
   ·exact⟨_,(Zbh he :),(Za [(10004000,10003000)])⟩
 ·exact ZHV
def Zm6:Con:=fun
  |[.agg [.imm (.int .i64) m_0,.imm (.pair (.int .i64) (.pair (.sl (.int .i64)) (.pair (.sl (.int .i64)) (.pair (.int .i64) (.sl (.sl (.int .i64))))))) m_1]],[]=>.opt _ (ZiF (m_0,m_1)) (fun r=>.ret (.c (.int .i64 r)) [])
  |_,_=>.fail
def Zka:Sched:=.alt 7 .done .stop
def ZoL:Sched:=.alt 6 Zka .stop
def Zkb:Sched:=.alt 5 Zka .stop
def ZoM:Sched:=.alt 5 ZoL (.alt 6 Zkb .stop)
def ZoN:Sched:=.alt 3 (.first 4 Zkb) .stop
def ZoO:Sched:=.alt 1 Zka .stop
def ZoP:Sched:=.alt 1 Zkb (.alt 5 ZoO .stop)
def ZyT:Cfg:={ y:=tys,n:=16,h:=0,tab:=[(71,Ze7),(72,ZeP)],cut:=[5],sched:=[(4,(ZF [0,2] (.alt 1 (.alt 3 (.first 4 ZoM) (.alt 6 ZoN .stop)) (.alt 3 (.first 4 (.alt 1 ZoM (.alt 5 (.alt 1 ZoL (.alt 6 ZoO .stop)) (.alt 6 ZoP .stop)))) (.alt 6 (.alt 1 ZoN (.alt 3 (.first 4 ZoP) .stop)) .stop)))))] }
theorem ZuY {P:Prop} (h:P:=by
  refine Y4 ?_
  refine⟨r3_,hq2,?_⟩
  exact⟨_,he,(Za [(10000000,3)])⟩):P:=h
theorem ZCC {P:Prop} (h:P:=by
  skip
  refine And.intro hq1 ?_
  refine Y4 ?_
  exact ZuY):P:=h
theorem ZCD {P:Prop} (h:P:=by
  skip
  refine Y4 ?_
  refine And.intro hq1 ?_
  exact ZuY):P:=h
theorem ZHW {P:Prop} (h:P:=by
  skip
  refine Y5 ?_ ?_
  ·exact ZCC
  ·exact ZCD):P:=h
theorem ZHX {P:Prop} (h:P:=by
  skip
  refine Y4 ?_
  refine Y4 ?_
  refine And.intro hq1 ?_
  exact ZuY):P:=h
theorem Zy2:Zn Tryz.prog 49 Zm6:=by
 refine Zp (C:=ZyT) Tryz.f49 (Zk Zjk (Zk Zph Zq)) fun _ a b k he=>?_
 unfold Zm6 at he;split at he;rotate_left;exact he.elim
 rename_i m_0 m_1
 refine Zs he fun he=>?_
 refine Zi he fun r1_ he=>?_
 refine Zh he (fun he=>?_) fun he=>?_
 ·exact ZN
 ·refine ZL (Zq0) (fun count=>(Zm [(3,.c (.ptr 10000000 0))],[(10000000,.rc [.int .i64 count])])) he ?_ ?_
  ·rintro count he
   exact ZN
  ·skip
   refine And.intro (by kernel_rfl) ?_
   obtain⟨hq1,he⟩:=ZO he
   obtain⟨r3_,hq2,he⟩:=Z6 he
   refine And.intro ?_ (And.intro ?_ (And.intro ?_ (Y1)))
   ·skip
    refine Y5 ?_ ?_
    ·exact ZHW
    ·exact ZHX
   ·skip
    refine And.intro ?_ (And.intro ?_ (And.intro ?_ (Y1)))
    ·exact ZHW
    ·skip
     refine And.intro hq1 ?_
     refine Y5 ?_ ?_
     ·skip
      refine Y4 ?_
      exact ZuY
     ·skip
      refine Y4 ?_
      exact ZuY
    ·skip
     refine Y5 ?_ ?_
     ·exact ZCD
     ·exact ZCC
   ·skip
    refine Y5 ?_ ?_
    ·exact ZHX
    ·skip
     refine Y5 ?_ ?_
     ·exact ZCD
     ·exact ZCC
def ZnH:Con:=fun
  |[.c (.int .i64 kind)],[]=>.opt _ (Zny kind) (fun r=>.ret (.tup [.c (.int .i64 r.1),.c (.bool r.2)]) [])
  |_,_=>.fail
def ZDs:Cfg:={ y:=tys,n:=17,h:=0,tab:=[] }
theorem Zwg:Zn Tryz.prog 155 ZnH:=by
 refine Zp (C:=ZDs) Tryz.f155 Zq fun _ a b k he=>?_
 unfold ZnH at he;split at he;rotate_left;exact he.elim
 rename_i kind
 refine Zs he fun he=>?_
 refine Zh he (fun he=>?_) fun he=>?_
 ·exact Z5
 ·refine Zh he (fun he=>?_) fun he=>?_
  ·exact Z5
  ·refine Zh he (fun he=>?_) fun he=>?_
   ·exact Z5
   ·refine Zh he (fun he=>?_) fun he=>?_
    ·exact Z5
    ·refine Zh he (fun he=>?_) fun he=>?_
     ·exact Z5
     ·refine Zh he (fun he=>?_) fun he=>?_
      ·exact Z5
      ·refine Zh he (fun he=>?_) fun he=>?_
       ·exact Z5
       ·exact ZKz
def Zl3:Con:=fun
  |[.agg [.int .i64 s__0,.int .i64 s__1,.int .i64 s__2,.imm (.pair (.int .i64) (.int .i64)) s__3,.int .i64 s__4]],[]=>.opt _ (Zkt (s__0,(s__1,(s__2,(s__3,s__4))))) (fun r=>.ret (.c (.bool r)) [])
  |_,_=>.fail
def ZwT:Cfg:={ y:=tys,n:=50,h:=0,tab:=[(70,Zf6),(155,ZnH)] }
theorem Zxs:Zn Tryz.prog 259 Zl3:=by
 refine Zp (C:=ZwT) Tryz.f259 (Zk ZoC (Zk Zwg Zq)) fun _ a b k he=>?_
 unfold Zl3 at he;split at he;rotate_left;exact he.elim
 rename_i s__0 s__1 s__2 s__3 s__4
 refine Zs he fun he=>?_
 refine Zi he fun r1_ he=>?_
 refine Zh he (fun he=>?_) fun he=>?_
 ·refine ZI he (fun he=>?_) fun he=>?_
  ·refine ZI he (fun he=>?_) fun he=>?_
   ·refine Zh he (fun he=>?_) fun he=>?_
    ·refine ZI he (fun he=>?_) fun he=>?_
     ·refine ZI he (fun he=>?_) fun he=>?_
      ·refine Zh he (fun he=>?_) fun he=>?_
       ·refine ZI he (fun he=>?_) fun he=>?_
        ·refine Zi he fun r2_ he=>?_
         exact ZN
        ·exact ZN
       ·exact ZN
      ·refine ZI he (fun he=>?_) fun he=>?_
       ·refine Zi he fun r3_ he=>?_
        exact ZN
       ·exact ZN
     ·refine ZI he (fun he=>?_) fun he=>?_
      ·refine Zi he fun r4_ he=>?_
       exact ZN
      ·exact ZN
    ·exact ZN
   ·refine ZI he (fun he=>?_) fun he=>?_
    ·refine ZI he (fun he=>?_) fun he=>?_
     ·refine Zh he (fun he=>?_) fun he=>?_
      ·refine ZI he (fun he=>?_) fun he=>?_
       ·refine Zi he fun r5_ he=>?_
        exact ZN
       ·exact ZN
      ·exact ZN
     ·refine ZI he (fun he=>?_) fun he=>?_
      ·refine Zi he fun r6_ he=>?_
       exact ZN
      ·exact ZN
    ·refine ZI he (fun he=>?_) fun he=>?_
     ·refine Zi he fun r7_ he=>?_
      exact ZN
     ·exact ZN
  ·refine ZI he (fun he=>?_) fun he=>?_
   ·refine ZI he (fun he=>?_) fun he=>?_
    ·refine Zh he (fun he=>?_) fun he=>?_
     ·refine ZI he (fun he=>?_) fun he=>?_
      ·refine Zi he fun r8_ he=>?_
       exact ZN
      ·exact ZN
     ·exact ZN
    ·refine ZI he (fun he=>?_) fun he=>?_
     ·refine Zi he fun r9_ he=>?_
      exact ZN
     ·exact ZN
   ·refine ZI he (fun he=>?_) fun he=>?_
    ·refine Zi he fun r10_ he=>?_
     exact ZN
    ·exact ZN
 ·exact ZN
def Zih:Con:=fun
  |[.c (.ptr 0 0),.c (.int .i64 i)],[(0,.rc [.own 1 false,.own 2 false]),(1,.sl 89 (.pair (.sl (.pair (.int .i64) (.int .i64))) (.int .i64)) o1 .shallow),(2,.sl 4 .bool o2 .shallow)]=>.opt _ (ZdV i o1 o2) (fun r=>.ret (.c (.bool r)) [(0,.rc [.own 1 false,.own 2 false]),(1,.sl 89 y7_ o1 .shallow),(2,.sl 4 .bool o2 .shallow)])
  |_,_=>.fail
def Ztn:Cfg:={ y:=tys,n:=23,h:=3,tab:=[(127,Zb7)] }
theorem ZL7 {P:Prop} (h:P:=by
  refine Zi he fun r1_ he=>?_
  refine Zh he (fun he=>?_) fun he=>?_
  ·exact ZEa
  ·exact Zbg):P:=h
theorem Ztw:Zn Tryz.prog 260 Zih:=by
 refine Zp (C:=Ztn) Tryz.f260 (Zk ZcF Zq) fun _ a b k he=>?_
 unfold Zih at he;split at he;rotate_left;exact he.elim
 rename_i i o1 o2
 refine Zs he fun he=>?_
 refine Zg he fun he=>?_
 exact ZL7
def Zii:Con:=fun
  |[.c (.nil),.c (.int .i64 n)],[]=>.opt _ (Zge n) (fun r=>.ret (.c (.own 900 false)) [(900,.sl 155 y6_ r .shallow)])
  |_,_=>.fail
def Zto:Cfg:={ y:=tys,n:=27,h:=0,tab:=[] }
theorem Ztx:Zn Tryz.prog 304 Zii:=by
 refine Zp (C:=Zto) Tryz.f304 Zq fun _ a b k he=>?_
 unfold Zii at he;split at he;rotate_left;exact he.elim
 rename_i n
 refine Zs he fun he=>?_
 refine Zh he (fun he=>?_) fun he=>?_
 ·exact(ZCe he).elim
 ·refine Zg he fun he=>?_
  refine Zg he fun he=>?_
  refine Zh he (fun he=>?_) fun he=>?_
  ·refine Zg he fun he=>?_
   refine Zg he fun he=>?_
   refine Zg he fun he=>?_
   exact Zv [(4,[])] (Zj he :) (Za [(900,25)])
  ·exact Zbg
def ZgO:Con:=fun
  |[.c (.imm (.sl (.pair (.int .i64) (.int .i64))) slices)],[]=>.opt _ (Zfi slices) (fun r=>.ret (.c (.own 900 false)) [(900,.sl 155 y6_ r .shallow)])
  |_,_=>.fail
def ZrR:Cfg:={ y:=tys,n:=36,h:=0,tab:=[(304,Zii)],hand:=[(304,[0])],nils:=[304] }
theorem Zr2:Zn Tryz.prog 290 ZgO:=by
 refine Zp (C:=ZrR) Tryz.f290 (Zk Ztx Zq) fun _ a b k he=>?_
 unfold ZgO at he;split at he;rotate_left;exact he.elim
 rename_i slices
 refine Zs he fun he=>?_
 refine Zo (ZbK slices) (fun (size,i)=>(Zm [(0,.c (.imm (.sl y6_) slices)),(3,.c (.int .i64 size)),(9,.c (.imm (.sl y6_) slices)),(10,.c (.int .i64 (slices.length:Int))),(11,.c (.int .i64 i))],[])) he (Za []) ?_
 rintro⟨size,i⟩ _ he
 refine Zh he (fun he=>?_) fun he=>?_
 ·refine Zg he fun he=>?_
  refine Zg he fun he=>?_
  refine Zh he (fun he=>?_) fun he=>?_
  ·exact(ZCe he).elim
  ·exact Zdy
 ·refine Zi he fun r1_ he=>?_
  refine Zo (ZbL slices) (fun (i1,newslice)=>(Zm [(6,.c (.own 10001000 false)),(25,.c (.imm (.sl y6_) slices)),(26,.c (.int .i64 (slices.length:Int))),(27,.c (.int .i64 i1))],[(10001000,.sl 155 y6_ newslice .shallow)])) he (Za [(10001000,25900)]) ?_
  rintro⟨i1,newslice⟩ _ he
  refine Zh he (fun he=>?_) fun he=>?_
  ·refine Zg he fun he=>?_
   refine Zg he fun he=>?_
   refine Zg he fun he=>?_
   exact⟨_,(Zj he :),(Za [(10001000,33)])⟩
  ·exact Zv [(2,[])] (Zj he :) (Za [(900,10001000)])
def ZjC:Con:=fun
  |[.agg [.imm (.pair (.int .i64) (.int .i64)) a_0,.int .i64 a_1],.agg [.imm (.pair (.int .i64) (.int .i64)) b_0,.int .i64 b_1]],[]=>.opt _ (ZhM (a_0,a_1) (b_0,b_1)) (fun r=>.ret (.tup [.agg [.own 901 false,.int .i64 r.2.1],.c (.bool r.1)]) [(900,.rc [.own 901 false,.int .i64 r.2.1]),(901,.sl 155 y6_ r.2.2 .shallow)])
  |_,_=>.fail
def Zum:Cfg:={ y:=tys,n:=29,h:=0,tab:=[(129,Zk5),(223,Z9),(290,ZgO)],cut:=[1],sched:=[(3,(ZF [0,1,2,3,6,7,8,9,10] (.alt 4 (.alt 5 (.alt 11 (ZF [12,13] (.alt 14 (.first 15 .done) .stop)) .stop) .stop) .stop)))] }
theorem ZHY {P:Prop} (h:P:=by
  exact Zv [(4,[900]),(5,[])] (Zj he :) (Za [(900,10000000)])):P:=h
theorem Zuy:Zn Tryz.prog 261 ZjC:=by
 refine Zp (C:=Zum) Tryz.f261 (Zk Zrw (Zk ZbD (Zk Zr2 Zq))) fun _ a b k he=>?_
 unfold ZjC at he;split at he;rotate_left;exact he.elim
 rename_i a_0 a_1 b_0 b_1
 refine Zs he fun he=>?_
 refine ZL (Zi0 (a_0,a_1) (b_0,b_1)) (fun _=>(Zm [(2,.c (.iptr y7_ (a_0,a_1) 0)),(3,.c (.iptr y7_ (b_0,b_1) 0)),(4,.c (.ptr 10000000 0))],[(10000000,.rc [.nil,.int .i64 (0:Int)])])) he ?_ ?_
 ·rintro⟨⟩ he
  refine Zi he fun r1_ he=>?_
  refine ZI he (fun he=>?_) fun he=>?_
  ·refine Zi he fun r2_ he=>?_
   refine Zh he (fun he=>?_) fun he=>?_
   ·exact ZHY
   ·refine And.intro (by kernel_rfl) ?_
    refine Zg he fun he=>?_
    refine Y4 ?_
    refine Y4 ?_
    refine Zi he fun r5_ he=>?_
    refine Y4 ?_
    refine Zi he fun r6_ he=>?_
    refine Y4 ?_
    exact Zv [(4,[900]),(5,[])] (Zj he :) (Za [(900,10000000),(901,27901)])
  ·exact ZHY
 ·skip
  exact⟨_,he,(Zdp [(10000000,4)] rfl rfl ⟨⟨rfl,rfl,Y1⟩,Y1⟩ ⟨.inr ⟨2,rfl,⟨rfl,by repeat (first|exact trivial|refine And.intro trivial ?_)⟩,rfl⟩,.inr ⟨3,rfl,⟨rfl,by repeat (first|exact trivial|refine And.intro trivial ?_)⟩,rfl⟩,⟨Y2,rfl⟩,Y1⟩)⟩
def ZfU:Con:=fun
  |[.c (.int .i64 n),.c (.ptr 0 0)],[(0,.rc [.int .i64 o0])]=>.opt _ (Zcj n o0) (fun r=>.ret (.c (.int .i64 r)) [(0,.rc [.int .i64 o0])])
  |_,_=>.fail
def Zqt:Cfg:={ y:=tys,n:=7,h:=1,tab:=[] }
theorem Zq3:Zn Tryz.prog 292 ZfU:=by
 refine Zp (C:=Zqt) Tryz.f292 Zq fun _ a b k he=>?_
 unfold ZfU at he;split at he;rotate_left;exact he.elim
 rename_i n o0
 refine Zs he fun he=>?_
 refine Zg he fun he=>?_
 exact Zte
def Zfe:Con:=fun
  |[.agg [.imm (.pair (.int .i64) (.int .i64)) c__0,.int .i64 c__1]],[]=>.opt _ (Zc8 (c__0,c__1)) (fun r=>.ret (.tup [.agg [.imm y6_ r.2.1,.int .i64 r.2.2],.c (.bool r.1)]) [(900,.rc [.imm y6_ r.2.1,.int .i64 r.2.2])])
  |_,_=>.fail
def Ztj:Cfg:={ y:=tys,n:=9,h:=0,tab:=[(223,Z9)] }
theorem Zm1:Zn Tryz.prog 187 Zfe:=by
 refine Zp (C:=Ztj) Tryz.f187 (Zk ZbD Zq) fun _ a b k he=>?_
 unfold Zfe at he;split at he;rotate_left;exact he.elim
 rename_i c__0 c__1
 refine Zs he fun he=>?_
 refine Zi he fun r1_ he=>?_
 refine Zh he (fun he=>?_) fun he=>?_
 ·exact Zv [(2,[900]),(3,[])] (Zj he :) (Zdp [(900,2)] rfl rfl ⟨⟨.inr (.inl Y2),rfl,Y1⟩,Y1⟩ ⟨⟨Y2,rfl⟩,.inr rfl,Y1⟩)
 ·exact Ztf
def Zb6:Con:=fun
  |[.agg [.imm (.pair (.int .i64) (.int .i64)) c__0,.int .i64 c__1],.c (.fn 292 [0])],[(0,.rc [.int .i64 o0])]=>.opt _ (Zbz (c__0,c__1) o0) (fun r=>.ret (.tup [.agg [.imm y6_ r.2.1,.int .i64 r.2.2],.c (.bool r.1)]) [(0,.rc [.int .i64 o0]),(900,.rc [.imm y6_ r.2.1,.int .i64 r.2.2])])
  |_,_=>.fail
def Zdd:Sched:=ZF [11,12] (.alt 13 .done .stop)
def Zde:Sched:=.alt 10 Zdd .stop
def Zdf:Sched:=.alt 9 Zde .stop
def Zgj:Cfg:={ y:=tys,n:=39,h:=1,tab:=[(160,ZeD),(187,Zfe),(292,ZfU)],cut:=[8],good:=[187],sched:=[(6,(ZF [0,2,3,4,6] (.alt 1 (.alt 5 (ZF [7,8] Zdf) .stop) (.alt 5 (ZF [7,8] (.alt 1 Zdf (.alt 9 (.alt 1 Zde (.alt 10 (.alt 1 Zdd .stop) .stop)) .stop))) .stop))))] }
theorem ZHZ {P:Prop} (h:P:=by
  rintro out_01 he
  refine Zi he fun r6_ he=>?_
  exact Zv [(4,[900]),(5,[])] (Zj he :) (Za [(900,10001000)])):P:=h
theorem ZCE {P:Prop} (h:P:=by
  refine Y4 ?_
  refine⟨r5_,hq2,?_⟩
  refine And.intro hq1 ?_
  exact ZnE):P:=h
theorem ZH0 {P:Prop} (h:P:=by
  rintro⟨i,out_0⟩ _ he
  refine Zh he (fun he=>?_) fun he=>?_
  ·refine And.intro (by kernel_rfl) ?_
   obtain⟨hq1,he⟩:=ZO he
   obtain⟨r5_,hq2,he⟩:=Z6 he
   obtain⟨hq3,he⟩:=ZO he
   refine Y5 ?_ ?_
   ·skip
    refine Y4 ?_
    refine And.intro hq1 ?_
    refine Y4 ?_
    exact ZCE
   ·skip
    refine And.intro hq1 ?_
    refine Y5 ?_ ?_
    ·skip
     refine Y4 ?_
     exact ZCE
    ·skip
     refine Y5 ?_ ?_
     ·skip
      exact ZCE
     ·skip
      refine⟨r5_,hq2,?_⟩
      refine Y4 ?_
      refine And.intro hq1 ?_
      exact ZnE
  ·exact⟨_,(Zbh he :),(Za [(10001000,10000000),(10001001,10000001),(10001002,10000002)])⟩):P:=h
theorem Zgq:Zn Tryz.prog 291 Zb6:=by
 refine Zp (C:=Zgj) Tryz.f291 (Zk ZjJ (Zk Zm1 (Zk Zq3 Zq))) fun _ a b k he=>?_
 unfold Zb6 at he;split at he;rotate_left;exact he.elim
 rename_i c__0 c__1 o0
 refine Zs he fun he=>?_
 refine Zi he fun r1_ he=>?_
 refine Zi he fun r2_ he=>?_
 refine ZL (Zb1 r2_) (fun out_01=>(Zm [(4,.c (.ptr 10001000 0)),(6,.c (.ptr 10001001 0))],[(0,.rc [.int .i64 o0]),(10001000,.rc [.nil,.int .i64 (0:Int)]),(10001001,.rc [.own 10001002 false,.int .i64 r2_]),(10001002,.sl 155 y6_ out_01 .shallow)])) he ?_ ?_
 ·exact ZHZ
 ·skip
  refine Zo (Zbk o0 r1_ r2_) (fun (i,out_0)=>(Zm [(1,.c (.fn 292 [0])),(4,.c (.ptr 10000000 0)),(6,.c (.ptr 10000001 0)),(17,.c (.int .i64 (r1_.2.length:Int))),(18,.c (.int .i64 i))],[(0,.rc [.int .i64 o0]),(10000000,.rc [.nil,.int .i64 (0:Int)]),(10000001,.rc [.own 10000002 false,.int .i64 r2_]),(10000002,.sl 155 y6_ out_0 .shallow)])) he (Za [(10000000,4),(10000001,6),(10000002,10901)]) ?_
  exact ZH0
def ZgM:Con:=fun
  |[.agg [.imm (.pair (.int .i64) (.int .i64)) c__0,.int .i64 c__1],.c (.int .i64 k_)],[]=>.opt _ (Zff (c__0,c__1) k_) (fun r=>.ret (.tup [.agg [.imm y6_ r.2.1,.int .i64 r.2.2],.c (.bool r.1)]) [(900,.rc [.imm y6_ r.2.1,.int .i64 r.2.2])])
  |_,_=>.fail
def ZrP:Cfg:={ y:=tys,n:=20,h:=0,tab:=[(127,Zb7),(223,Z9),(291,Zb6)] }
theorem ZyK {P:Prop} (h:P:=by
  exact Zv [(4,[900]),(5,[])] (Zj he :) (Zdp [(900,4)] rfl rfl ⟨⟨.inr (.inl Y2),rfl,Y1⟩,Y1⟩ ⟨⟨Y2,rfl⟩,.inr rfl,Y1⟩)):P:=h
theorem ZyL {P:Prop} (h:P:=by
  exact Zv [(4,[900]),(5,[])] (Zj he :) (Za [(900,4)])):P:=h
theorem Zr0:Zn Tryz.prog 262 ZgM:=by
 refine Zp (C:=ZrP) Tryz.f262 (Zk ZcF (Zk ZbD (Zk Zgq Zq))) fun _ a b k he=>?_
 unfold ZgM at he;split at he;rotate_left;exact he.elim
 rename_i c__0 c__1 k_
 refine Zs he fun he=>?_
 refine Zi he fun r1_ he=>?_
 refine ZI he (fun he=>?_) fun he=>?_
 ·refine Zi he fun r2_ he=>?_
  refine Zh he (fun he=>?_) fun he=>?_
  ·exact ZyK
  ·refine Zi he fun r3_ he=>?_
   exact ZyL
 ·exact ZyK
def ZgL:Con:=fun
  |[.c (.int .i64 n),.c (.ptr 0 0)],[(0,.rc [.int .i64 o0])]=>.opt _ (Zef n o0) (fun r=>.ret (.c (.int .i64 r)) [(0,.rc [.int .i64 o0])])
  |_,_=>.fail
def ZrO:Cfg:={ y:=tys,n:=10,h:=1,tab:=[] }
theorem ZrZ:Zn Tryz.prog 293 ZgL:=by
 refine Zp (C:=ZrO) Tryz.f293 Zq fun _ a b k he=>?_
 unfold ZgL at he;split at he;rotate_left;exact he.elim
 rename_i n o0
 refine Zs he fun he=>?_
 refine Zg he fun he=>?_
 refine Zg he fun he=>?_
 refine Zg he fun he=>?_
 exact Zte
end
end Go.AE.Y
