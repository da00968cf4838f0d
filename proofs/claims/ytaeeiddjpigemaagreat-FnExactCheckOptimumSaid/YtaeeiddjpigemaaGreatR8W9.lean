/-
  Walks: each function keeps the contract that its model gives. No conditions.
-/
import Derived.Test.YtaeeiddjpigemaaGreatR8Tab
import Derived.Test.YtaeeiddjpigemaaGreatR8W8
import Derived.Test.YtaeeiddjpigemaaGreatR8S
namespace Go.AE.Y
open Go Go.AE Go.Proofs
set_option linter.unusedVariables false
set_option maxHeartbeats 2000000
set_option maxRecDepth 100000
noncomputable section
def Znx:Con:=fun
  |[.c (.int .i64 l),.c (.imm (.int .i64) p)],[]=>.opt _ (ZnN l p) (fun r=>.ret (.c (.int .i64 r)) [])
  |_,_=>.fail
def ZDW:Cfg:={ y:=tys,n:=19,h:=0,tab:=[] }
theorem ZwW:Zl Tryz.prog 258 Znx:=by
 refine Zn (C:=ZDW) Tryz.f258 Zo fun _ a b k he=>?_
 unfold Znx at he;split at he;rotate_left;exact he.elim
 rename_i l p
 refine Zq he fun he=>?_
 refine Zf he (fun he=>?_) fun he=>?_
 ·exact ZJO
 ·exact ZAw
def Zd5:Con:=fun
  |[.agg [.imm (.pair (.int .i64) (.int .i64)) c__0,.int .i64 c__1],.c (.imm (.int .i64) p)],[]=>.opt _ (ZdB (c__0,c__1) p) (fun r=>.ret (.c (.int .i64 r)) [])
  |_,_=>.fail
def Zsn:Cfg:={ y:=tys,n:=29,h:=0,tab:=[(258,Znx)] }
theorem ZlO:Zl Tryz.prog 233 Zd5:=by
 refine Zn (C:=Zsn) Tryz.f233 (Zj ZwW Zo) fun _ a b k he=>?_
 unfold Zd5 at he;split at he;rotate_left;exact he.elim
 rename_i c__0 c__1 p
 refine Zq he fun he=>?_
 refine Zi he fun he=>?_
 refine Zr (ZdQ (c__0,c__1) p) (fun (out,i)=>(Zm [(1,.c (.imm y0_ p)),(5,.c (.int .i64 out)),(12,.c (.imm y5_ (c__0,c__1).1)),(13,.c (.int .i64 ((c__0,c__1).1.length:Int))),(14,.c (.int .i64 i))],[])) he (Za []) ?_
 rintro⟨out,i⟩ _ he
 refine Zf he (fun he=>?_) fun he=>?_
 ·refine Zi he fun he=>?_
  refine Zh he fun r1_ he=>?_
  refine Zf he (fun he=>?_) fun he=>?_
  ·exact Zx7
  ·exact Zdh
 ·exact Z6
def Zfu:Con:=fun
  |[.agg [.imm (.pair (.int .i64) (.int .i64)) c__0,.int .i64 c__1],.c (.imm (.int .i64) p)],[]=>.opt _ (ZcH (c__0,c__1) p) (fun r=>.ret (.c (.own 900 false)) [(900,.sl 3 y0_ r .shallow)])
  |_,_=>.fail
def ZqJ:Cfg:={ y:=tys,n:=37,h:=0,tab:=[(233,Zd5),(258,Znx)] }
theorem ZqX:Zl Tryz.prog 234 Zfu:=by
 refine Zn (C:=ZqJ) Tryz.f234 (Zj ZlO (Zj ZwW Zo)) fun _ a b k he=>?_
 unfold Zfu at he;split at he;rotate_left;exact he.elim
 rename_i c__0 c__1 p
 refine Zq he fun he=>?_
 refine Zh he fun r1_ he=>?_
 refine Zr (ZcQ (c__0,c__1) p r1_) (fun (i,out)=>(Zm [(1,.c (.imm y0_ p)),(5,.c (.int .i64 r1_)),(6,.c (.own 10000000 false)),(13,.c (.imm y5_ (c__0,c__1).1)),(14,.c (.int .i64 ((c__0,c__1).1.length:Int))),(15,.c (.int .i64 i))],[(10000000,.sl 3 y0_ out .shallow)])) he (Za []) ?_
 rintro⟨i,out⟩ _ he
 refine Zf he (fun he=>?_) fun he=>?_
 ·refine Zi he fun he=>?_
  refine Zh he fun r3_ he=>?_
  refine Zf he (fun he=>?_) fun he=>?_
  ·refine Zf he (fun he=>?_) fun he=>?_
   ·refine Zi he fun he=>?_
    refine Zi he fun he=>?_
    exact⟨_,(Zk he :),(Za [(10000000,34)])⟩
   ·exact Zdh
  ·exact Zdh
 ·exact Zy [(4,[])] (Zk he :) (Za [(900,10000000)])
def ZmR:Con:=fun
  |[.c (.imm (.pair (.sl (.pair (.int .i64) (.int .i64))) (.int .i64)) list_),.c (.imm (.int .i64) p)],[]=>.opt _ (Zde list_ p) (fun r=>.ret (.tup [.c (.own 900 false),.c (.int .i64 r.1)]) [(900,.sl 3 y0_ r.2 .shallow)])
  |_,_=>.fail
def ZyE:Cfg:={ y:=tys,n:=50,h:=0,tab:=[(75,ZeI),(233,Zd5),(234,Zfu)] }
theorem ZyR:Zl Tryz.prog 171 ZmR:=by
 refine Zn (C:=ZyE) Tryz.f171 (Zj Zk6 (Zj ZlO (Zj ZqX Zo))) fun _ a b k he=>?_
 unfold ZmR at he;split at he;rotate_left;exact he.elim
 rename_i list_ p
 refine Zq he fun he=>?_
 refine Zh he fun r1_ he=>?_
 refine Zr (Zd2 list_) (fun (made,out3)=>(Zm [(0,.c (.imm y6_ list_)),(6,.c (.own 10000000 false)),(7,.c (.bool made))],[(10000000,.sl 3 y0_ out3 .shallow)])) he (Za [(10000000,14900)]) ?_
 rintro⟨made,out3⟩ _ he
 refine Zf he (fun he=>?_) fun he=>?_
 ·refine Zr (Zci list_) (fun (made4,i3,out5)=>(Zm [(0,.c (.imm y6_ list_)),(6,.c (.own 10004000 false)),(7,.c (.bool made4)),(15,.c (.imm y6_ list_)),(16,.c (.int .i64 (list_.length:Int))),(17,.c (.int .i64 i3))],[(10004000,.sl 3 y0_ out5 .shallow)])) he (Za [(10004000,10000000)]) ?_
  rintro⟨made4,i3,out5⟩ _ he
  refine Zf he (fun he=>?_) fun he=>?_
  ·refine Zi he fun he=>?_
   refine Zh he fun r8_ he=>?_
   refine Zf he (fun he=>?_) fun he=>?_
   ·exact Zy [(4,[]),(5,[])] (Zk he :) (Za [(900,10004000)])
   ·refine Zh he fun r9_ he=>?_
    refine Zr (Zdk i3 r9_) (fun (made6,i5,out6)=>(Zm [(0,.c (.imm y6_ list_)),(6,.c (.own 10006000 false)),(7,.c (.bool made6)),(15,.c (.imm y6_ list_)),(16,.c (.int .i64 (list_.length:Int))),(17,.c (.int .i64 i3)),(30,.c (.own 10006001 false)),(31,.c (.int .i64 (r9_.length:Int))),(32,.c (.int .i64 i5))],[(10006000,.sl 3 y0_ out6 .shallow),(10006001,.sl 3 y0_ r9_ .shallow)])) he (Za [(10006000,10004000),(10006001,31900)]) ?_
    rintro⟨made6,i5,out6⟩ _ he
    refine Zf he (fun he=>?_) fun he=>?_
    ·refine Zi he fun he=>?_
     refine Zf he (fun he=>?_) fun he=>?_
     ·exact Zp0
     ·exact ZuA
    ·refine Zi he fun he=>?_
     exact⟨_,(Zk he :),(Za [(10004000,10006000)])⟩
  ·exact⟨_,(Zk he :),(Za [(10000000,10004000)])⟩
 ·exact Zy [(4,[]),(5,[])] (Zk he :) (Za [(900,10000000)])
def ZuP:Con:=fun
  |[.c (.imm (.pair (.sl (.pair (.int .i64) (.int .i64))) (.int .i64)) list_),.agg [.imm (.pair (.int .i64) (.int .i64)) c__0,.int .i64 c__1]],[]=>.opt _ (Zu5 list_ (c__0,c__1)) (fun r=>.ret (.c (.bool r)) [])
  |_,_=>.fail
def ZvB:Sched:=.alt 7 (Zv [8,9,10,11,12] .done) .stop
def ZvC:Sched:=.alt 5 ZvB .stop
def ZvD:Sched:=.alt 4 ZvC .stop
def Zp3:Sched:=.alt 3 ZvD .stop
def ZvE:Sched:=.alt 3 (.alt 4 (.alt 5 (.alt 6 ZvB .stop) (.alt 6 ZvC .stop)) (.alt 6 ZvD .stop)) (.alt 6 Zp3 .stop)
def ZvF:Sched:=.alt 2 Zp3 .stop
def ZvG:Sched:=.alt 1 Zp3 .stop
def ZHH:Cfg:={ y:=tys,n:=20,h:=0,tab:=[(61,Zb6),(171,ZmR),(294,Zfd)],cut:=[2],sched:=[(1,(.first 0 (.alt 1 (.alt 2 ZvE (.alt 6 ZvF .stop)) (.alt 2 (.alt 1 ZvE (.alt 6 ZvG .stop)) (.alt 6 (.alt 1 ZvF (.alt 2 ZvG .stop)) .stop)))))] }
theorem ZB9 {P:Prop} (h:P:=by
  refine Y4 ?_
  refine⟨r6_,hq5,?_⟩
  exact⟨_,he,(Za [])⟩):P:=h
theorem ZHt {P:Prop} (h:P:=by
  refine Y4 ?_
  refine Y4 ?_
  refine And.intro hq3 ?_
  exact ZB9):P:=h
theorem Zux {P:Prop} (h:P:=by
  refine Y4 ?_
  refine⟨r5_,hq2,?_⟩
  exact ZHt):P:=h
theorem ZHu {P:Prop} (h:P:=by
  refine Y5 ?_ ?_
  ·skip
   refine⟨r5_,hq2,?_⟩
   refine Y5 ?_ ?_
   ·skip
    refine Y5 ?_ ?_
    ·skip
     refine And.intro hq3 ?_
     refine Y4 ?_
     refine And.intro hq4 ?_
     exact ZB9
    ·skip
     refine And.intro hq4 ?_
     refine Y4 ?_
     refine And.intro hq3 ?_
     exact ZB9
   ·skip
    refine And.intro hq4 ?_
    exact ZHt
  ·skip
   refine And.intro hq4 ?_
   exact Zux):P:=h
theorem ZHY:Zl Tryz.prog 267 ZuP:=by
 refine Zn (C:=ZHH) Tryz.f267 (Zj ZdV (Zj ZyR (Zj Zqp Zo))) fun _ a b k he=>?_
 unfold ZuP at he;split at he;rotate_left;exact he.elim
 rename_i list_ c__0 c__1
 refine Zq he fun he=>?_
 refine ZT (ZtK) (fun i=>(Zm [(6,.c (.int .i64 i))],[])) he ?_ ?_
 ·rintro i he
  exact Z6
 ·skip
  refine And.intro (by kernel_rfl) ?_
  obtain⟨r4_,hq1,he⟩:=Z5 he
  obtain⟨r5_,hq2,he⟩:=Z5 he
  obtain⟨hq3,he⟩:=ZG he
  obtain⟨hq4,he⟩:=ZG he
  obtain⟨r6_,hq5,he⟩:=Z5 he
  refine And.intro ?_ (And.intro ?_ (And.intro ?_ (Y1)))
  ·skip
   refine⟨r4_,hq1,?_⟩
   refine Y5 ?_ ?_
   ·skip
    exact ZHu
   ·skip
    refine And.intro hq4 ?_
    refine Y4 ?_
    exact Zux
  ·skip
   refine Y5 ?_ ?_
   ·skip
    refine⟨r4_,hq1,?_⟩
    exact ZHu
   ·skip
    refine And.intro hq4 ?_
    refine Y4 ?_
    refine⟨r4_,hq1,?_⟩
    exact Zux
  ·skip
   refine And.intro hq4 ?_
   refine Y5 ?_ ?_
   ·skip
    refine⟨r4_,hq1,?_⟩
    refine Y4 ?_
    exact Zux
   ·skip
    refine Y4 ?_
    refine⟨r4_,hq1,?_⟩
    exact Zux
def ZjY:Con:=fun
  |[.c (.ptr 0 0),.agg [.int .i64 a1_0,.int .i64 a1_1,.int .i64 a1_2,.imm (.pair (.int .i64) (.int .i64)) a1_3,.int .i64 a1_4]],[(0,.rc [.own 1 false,.own 2 false]),(1,.sl 89 (.pair (.sl (.pair (.int .i64) (.int .i64))) (.int .i64)) o1 .shallow),(2,.sl 4 .bool o2 .shallow)]=>.opt _ (Zdr (a1_0,(a1_1,(a1_2,(a1_3,a1_4)))) o1 o2) (fun r=>.ret (.c (.bool r.1)) [(0,.rc [.own 900 false,.own 901 false]),(1,.dead),(2,.dead),(900,.sl 89 y6_ r.2.1 .shallow),(901,.sl 4 .bool r.2.2 .shallow)])
  |_,_=>.fail
def ZiD:Sched:=.alt 16 (Zv [17,18,19] (.alt 20 (.first 21 .done) .stop)) .stop
def ZiE:Sched:=.alt 15 ZiD .stop
def ZiF:Sched:=.alt 7 ZiD .stop
def ZiG:Sched:=.alt 7 ZiE (.alt 15 ZiF .stop)
def ZeE:Sched:=Zv [0,1,2,4,5,8,9] (.alt 3 (.first 6 (.alt 7 (.alt 10 (Zv [11,12,13] (.alt 14 (.first 15 .done) .stop)) .stop) .stop)) .stop)
def ZiH:Sched:=.first 11 (.alt 12 (.first 13 .done) .stop)
def ZeF:Sched:=.alt 14 (Zv [15,16] (.alt 17 (Zv [18,19] (.alt 20 .done .stop)) .stop)) .stop
def ZiI:Sched:=.alt 13 ZeF .stop
def ZiJ:Sched:=.alt 12 ZeF .stop
def Zdb:Sched:=.alt 8 ZeF .stop
def Zel:Sched:=.alt 8 ZiI (.alt 13 Zdb .stop)
def Zem:Sched:=.alt 8 ZiJ (.alt 12 Zdb .stop)
def ZhZ:Sched:=.alt 8 (.alt 12 ZiI (.alt 13 ZiJ .stop)) (.alt 12 Zel (.alt 13 Zem .stop))
def Zen:Sched:=.alt 7 Zdb .stop
def Zh0:Sched:=.alt 7 Zel (.alt 13 Zen .stop)
def Zh1:Sched:=.alt 7 Zem (.alt 12 Zen .stop)
def Zeo:Sched:=.alt 5 Zdb .stop
def Zh2:Sched:=.alt 5 Zel (.alt 13 Zeo .stop)
def Zh3:Sched:=.alt 5 Zem (.alt 12 Zeo .stop)
def Zh4:Sched:=.alt 5 Zen (.alt 7 Zeo .stop)
def ZvY:Cfg:={ y:=tys,n:=177,h:=3,tab:=[(155,Zmw),(223,Z1),(259,ZkM),(260,ZgS),(261,Zid),(262,Zfw),(263,ZgP),(264,Zfx),(265,ZgR),(266,ZjS),(267,ZuP),(268,Zf2)],cut:=[1,4,24,25],sched:=[(8,(Zv [0,1,2,4,5] (.alt 3 (.first 6 (.alt 7 .done .stop)) .stop))),(11,(Zv [0,1,2,4,5,8,9,10,12,13] (.alt 3 (.first 6 (.alt 7 (.alt 11 (.first 14 ZiE) .stop) (.alt 11 (.first 14 ZiG) .stop))) (.alt 11 (.first 14 (.alt 3 (.first 6 ZiG) (.alt 15 (.alt 3 (.first 6 ZiF) .stop) .stop))) .stop)))),(13,ZeE),(15,ZeE),(17,(Zv [0,1,2,4,5] (.alt 3 (.first 6 (.alt 7 (.alt 8 (Zv [9,10] ZiH) .stop) .stop)) .stop))),(19,ZeE),(23,(Zv [0,1,2,3] (.alt 4 (Zv [5,6,8,9] (.alt 7 (.alt 10 ZiH .stop) .stop)) .stop))),(24,(Zv [0,1,2,3,4,6,9,10,11] (.alt 5 (.alt 7 ZhZ (.alt 12 Zh0 (.alt 13 Zh1 .stop))) (.alt 7 (.alt 5 ZhZ (.alt 12 Zh2 (.alt 13 Zh3 .stop))) (.alt 12 (.alt 5 Zh0 (.alt 7 Zh2 (.alt 13 Zh4 .stop))) (.alt 13 (.alt 5 Zh1 (.alt 7 Zh3 (.alt 12 Zh4 .stop))) .stop))))))] }
theorem Zuy {P:Prop} (h:P:=by
  refine Y4 ?_
  refine And.intro hq2 ?_
  refine Y4 ?_
  refine Y4 ?_
  exact⟨_,he,(Za [(10003000,165),(10003001,171)])⟩):P:=h
theorem ZCa {P:Prop} (h:P:=by
  skip
  refine Y5 ?_ ?_
  ·skip
   refine And.intro hq1 ?_
   refine Y4 ?_
   exact Zuy
  ·skip
   refine Y4 ?_
   refine And.intro hq1 ?_
   exact Zuy):P:=h
theorem ZCb {P:Prop} (h:P:=by
  skip
  refine Y4 ?_
  refine Y4 ?_
  refine And.intro hq1 ?_
  exact Zuy):P:=h
theorem Zx2 {P:Prop} (h:P:=by
  skip
  refine Y5 ?_ ?_
  ·exact ZCa
  ·exact ZCb):P:=h
theorem ZHv {P:Prop} (h:P:=by
  skip
  refine And.intro ?_ (And.intro ?_ (And.intro ?_ (Y1)))
  ·skip
   refine And.intro ?_ (And.intro ?_ (And.intro ?_ (Y1)))
   ·skip
    refine And.intro hq1 ?_
    refine Y5 ?_ ?_
    ·skip
     refine Y4 ?_
     exact Zuy
    ·skip
     refine Y4 ?_
     exact Zuy
   ·exact ZCa
   ·exact ZCa
  ·exact Zx2
  ·exact Zx2):P:=h
theorem ZHw {P:Prop} (h:P:=by
  skip
  refine And.intro ?_ (And.intro ?_ (And.intro ?_ (Y1)))
  ·exact Zx2
  ·exact Zx2
  ·skip
   refine Y5 ?_ ?_
   ·exact ZCb
   ·exact ZCb):P:=h
theorem Zx3 {P:Prop} (h:P:=by
  exact Zy [(4,[])] (Zk he :) (Za [(900,1),(901,2)])):P:=h
theorem Zx4 {P:Prop} (h:P:=by
  refine Y4 ?_
  refine Y4 ?_
  refine⟨r7_,hq3,?_⟩
  refine Y4 ?_
  exact⟨_,he,((Zn6 [71901]).trans (ZcE [] (l:=[(0,.c (.ptr 0 0)),(7,.c (.iptr y6_ (r7_.2.2,r7_.2.1) 0)),(8,.c (.bool r7_.1))]) (st':=[(0,.rc [.own 1 false,.own 2 false]),(1,.sl 89 y6_ o1 .shallow),(2,.sl 4 .bool o2 .shallow)]) rfl rfl ⟨⟨Y3,Y3,Y1⟩,Y2,Y2,Y1⟩ ⟨⟨Y2,rfl⟩,.inr ⟨7,rfl,⟨rfl,by repeat (first|exact trivial|refine And.intro trivial ?_)⟩,rfl⟩,.inl rfl,Y1⟩))⟩):P:=h
theorem ZHx {P:Prop} (h:P:=by
  refine Y5 ?_ ?_
  ·skip
   exact Zx4
  ·skip
   exact Zx4):P:=h
theorem ZCc {P:Prop} (h:P:=by
  refine Y4 ?_
  exact⟨_,he,(ZcE [] rfl rfl ⟨⟨Y3,Y3,Y1⟩,Y2,Y2,Y1⟩ ⟨⟨Y2,rfl⟩,.inr ⟨7,rfl,⟨rfl,by repeat (first|exact trivial|refine And.intro trivial ?_)⟩,rfl⟩,.inl rfl,Y1⟩)⟩):P:=h
theorem ZHy {P:Prop} (h:P:=by
  exact⟨_,he,(ZcE [] rfl rfl ⟨⟨Y3,Y3,Y1⟩,Y2,Y2,Y1⟩ ⟨⟨Y2,rfl⟩,.inr ⟨7,rfl,⟨rfl,by repeat (first|exact trivial|refine And.intro trivial ?_)⟩,rfl⟩,.inr rfl,Y1⟩)⟩):P:=h
theorem ZHz {P:Prop} (h:P:=by
  refine Zf he (fun he=>?_) fun he=>?_
  ·exact Zx3
  ·exact⟨_,he,(Za [])⟩):P:=h
theorem Zwf:Zl Tryz.prog 235 ZjY:=by
 refine Zn (C:=ZvY) Tryz.f235 (Zj ZvK (Zj Zbk (Zj ZwT (Zj ZsE (Zj Zud (Zj ZqZ (Zj ZsB (Zj Zq0 (Zj ZsD (Zj Zv9 (Zj ZHY (Zj ZrU Zo)))))))))))) fun _ a b k he=>?_
 unfold ZjY at he;split at he;rotate_left;exact he.elim
 rename_i a1_0 a1_1 a1_2 a1_3 a1_4 o1 o2
 refine Zq he fun he=>?_
 refine ZT (ZfF (a1_0,(a1_1,(a1_2,(a1_3,a1_4)))) o1 o2) (fun _=>(Zm [(0,.c (.ptr 0 0)),(3,.c (.iptr y9_ (a1_0,(a1_1,(a1_2,(a1_3,a1_4)))) 0))],[(0,.rc [.own 1 false,.own 2 false]),(1,.sl 89 y6_ o1 .shallow),(2,.sl 4 .bool o2 .shallow)])) he ?_ ?_
 ·rintro⟨⟩ he
  refine Zh he fun r1_ he=>?_
  refine ZT (Zbs (a1_0,(a1_1,(a1_2,(a1_3,a1_4)))) o1 o2) (fun _=>(Zm [(0,.c (.ptr 0 0)),(3,.c (.iptr y9_ (a1_0,(a1_1,(a1_2,(a1_3,a1_4)))) 0))],[(0,.rc [.own 1 false,.own 2 false]),(1,.sl 89 y6_ o1 .shallow),(2,.sl 4 .bool o2 .shallow)])) he ?_ ?_
  ·rintro⟨⟩ he
   refine ZT (ZL o1 o2) (fun (i,i1)=>(Zm [(0,.c (.ptr 0 0)),(7,.c (.iptr y6_ i 0)),(8,.c (.bool i1))],[(0,.rc [.own 1 false,.own 2 false]),(1,.sl 89 y6_ o1 .shallow),(2,.sl 4 .bool o2 .shallow)])) he ?_ ?_
   ·rintro⟨i,i1⟩ he
    refine ZT (ZfG o1 o2 i i1) (fun _=>(Zm [(8,.c (.bool i1))],[(0,.rc [.own 10003000 false,.own 10003001 false]),(1,.dead),(2,.dead),(10003000,.sl 89 y6_ (o1++[i]) .shallow),(10003001,.sl 4 .bool (o2++[false]) .shallow)])) he ?_ ?_
    ·rintro⟨⟩ he
     exact Zy [(4,[])] (Zk he :) (Za [(900,10003000),(901,10003001)])
    ·skip
     refine And.intro (by kernel_rfl) ?_
     obtain⟨hq1,he⟩:=ZG he
     obtain⟨hq2,he⟩:=ZG he
     refine And.intro ?_ (And.intro ?_ (And.intro ?_ (And.intro ?_ (Y1))))
     ·exact ZHv
     ·exact ZHv
     ·exact ZHw
     ·exact ZHw
   ·skip
    refine Zf he (fun he=>?_) fun he=>?_
    ·refine And.intro (by kernel_rfl) ?_
     refine Y4 ?_
     refine Zi he fun he=>?_
     refine Y4 ?_
     exact Zx3
    ·refine Zf he (fun he=>?_) fun he=>?_
     ·refine And.intro (by kernel_rfl) ?_
      obtain⟨hq1,he⟩:=ZG he
      obtain⟨hq2,he⟩:=ZG he
      obtain⟨r7_,hq3,he⟩:=Z5 he
      refine Y5 ?_ ?_
      ·skip
       refine And.intro hq1 ?_
       refine Y5 ?_ ?_
       ·skip
        refine Y4 ?_
        refine And.intro hq2 ?_
        exact Zx4
       ·skip
        refine And.intro hq2 ?_
        exact ZHx
      ·skip
       refine And.intro hq2 ?_
       refine Y5 ?_ ?_
       ·skip
        refine And.intro hq1 ?_
        exact ZHx
       ·skip
        refine Y4 ?_
        refine And.intro hq1 ?_
        exact Zx4
     ·refine Zf he (fun he=>?_) fun he=>?_
      ·refine And.intro (by kernel_rfl) ?_
       refine Y4 ?_
       refine Zi he fun he=>?_
       refine Y4 ?_
       refine Y4 ?_
       refine Zh he fun r9_ he=>?_
       exact ZCc
      ·refine Zf he (fun he=>?_) fun he=>?_
       ·refine And.intro (by kernel_rfl) ?_
        refine Y4 ?_
        refine Zi he fun he=>?_
        refine Y4 ?_
        refine Y4 ?_
        refine Zh he fun r11_ he=>?_
        exact ZCc
       ·refine Zf he (fun he=>?_) fun he=>?_
        ·refine And.intro (by kernel_rfl) ?_
         refine Y4 ?_
         refine Zi he fun he=>?_
         refine Y4 ?_
         refine Y4 ?_
         refine Zh he fun r13_ he=>?_
         refine Y4 ?_
         exact⟨_,he,((Zn6 [117901]).trans (ZcE [] (l:=[(0,.c (.ptr 0 0)),(7,.c (.iptr y6_ (r13_.2.2,r13_.2.1) 0)),(8,.c (.bool r13_.1))]) (st':=[(0,.rc [.own 1 false,.own 2 false]),(1,.sl 89 y6_ o1 .shallow),(2,.sl 4 .bool o2 .shallow)]) rfl rfl ⟨⟨Y3,Y3,Y1⟩,Y2,Y2,Y1⟩ ⟨⟨Y2,rfl⟩,.inr ⟨7,rfl,⟨rfl,by repeat (first|exact trivial|refine And.intro trivial ?_)⟩,rfl⟩,.inl rfl,Y1⟩))⟩
        ·refine Zf he (fun he=>?_) fun he=>?_
         ·refine And.intro (by kernel_rfl) ?_
          refine Y4 ?_
          refine Zi he fun he=>?_
          refine Y4 ?_
          refine Y4 ?_
          refine Zh he fun r15_ he=>?_
          refine Y4 ?_
          exact⟨_,he,((Zn6 [133901]).trans (ZcE [] (l:=[(0,.c (.ptr 0 0)),(7,.c (.iptr y6_ (r15_.2.2,r15_.2.1) 0)),(8,.c (.bool r15_.1))]) (st':=[(0,.rc [.own 1 false,.own 2 false]),(1,.sl 89 y6_ o1 .shallow),(2,.sl 4 .bool o2 .shallow)]) rfl rfl ⟨⟨Y3,Y3,Y1⟩,Y2,Y2,Y1⟩ ⟨⟨Y2,rfl⟩,.inr ⟨7,rfl,⟨rfl,by repeat (first|exact trivial|refine And.intro trivial ?_)⟩,rfl⟩,.inl rfl,Y1⟩))⟩
         ·refine Zf he (fun he=>?_) fun he=>?_
          ·refine Zh he fun r16_ he=>?_
           exact⟨_,he,((Zn6 [141901]).trans (ZcE [] (l:=[(0,.c (.ptr 0 0)),(7,.c (.iptr y6_ (r16_.2.2,r16_.2.1) 0)),(8,.c (.bool r16_.1))]) (st':=[(0,.rc [.own 1 false,.own 2 false]),(1,.sl 89 y6_ o1 .shallow),(2,.sl 4 .bool o2 .shallow)]) rfl rfl ⟨⟨Y3,Y3,Y1⟩,Y2,Y2,Y1⟩ ⟨⟨Y2,rfl⟩,.inr ⟨7,rfl,⟨rfl,by repeat (first|exact trivial|refine And.intro trivial ?_)⟩,rfl⟩,.inl rfl,Y1⟩))⟩
          ·refine Zf he (fun he=>?_) fun he=>?_
           ·refine And.intro (by kernel_rfl) ?_
            refine Y4 ?_
            refine Zh he fun r20_ he=>?_
            refine Zf he (fun he=>?_) fun he=>?_
            ·refine Y4 ?_
             refine Zh he fun r21_ he=>?_
             refine Y4 ?_
             refine Zh he fun r22_ he=>?_
             exact ZCc
            ·refine Y4 ?_
             refine Y4 ?_
             refine Y4 ?_
             exact ZHy
           ·exact ZHy
  ·skip
   refine Zh he fun r2_ he=>?_
   refine ZC he (fun he=>?_) fun he=>?_
   ·refine Zf he (fun he=>?_) fun he=>?_
    ·refine Zh he fun r3_ he=>?_
     refine ZC he (fun he=>?_) fun he=>?_
     ·refine Zf he (fun he=>?_) fun he=>?_
      ·refine Zh he fun r4_ he=>?_
       exact ZHz
      ·exact⟨_,he,(Za [])⟩
     ·exact Zx3
    ·refine Zf he (fun he=>?_) fun he=>?_
     ·refine Zh he fun r5_ he=>?_
      exact ZHz
     ·exact⟨_,he,(Za [])⟩
   ·exact Zx3
 ·skip
  exact⟨_,he,(ZcE [] rfl rfl ⟨⟨Y3,Y3,Y1⟩,Y2,Y2,Y1⟩ ⟨⟨Y2,rfl⟩,.inr ⟨3,rfl,⟨rfl,by repeat (first|exact trivial|refine And.intro trivial ?_)⟩,rfl⟩,Y1⟩)⟩
def ZuO:Con:=fun
  |[.c (.imm (.pair (.sl (.pair (.int .i64) (.int .i64))) (.int .i64)) list_),.c (.imm (.pair (.int .i64) (.pair (.int .i64) (.pair (.int .i64) (.pair (.sl (.pair (.int .i64) (.int .i64))) (.int .i64))))) steps)],[]=>.opt _ (Zu4 list_ steps) (fun r=>.ite r.1 (.ret (.tup [.c (.ptr 900 0),.c (.int .i64 r.2.1)]) [(900,.rc [.own 901 false,.own 902 false]),(901,.sl 89 y6_ r.2.2.1 .shallow),(902,.sl 4 .bool r.2.2.2.1 .shallow)]) (.ret (.tup [.c (.undef),.c (.int .i64 r.2.2.2.2)]) []))
  |_,_=>.fail
def ZvA:Sched:=.alt 5 (.alt 6 (.first 7 .done) .stop) .stop
def ZHG:Cfg:={ y:=tys,n:=38,h:=0,tab:=[(61,Zb6),(98,ZjW),(235,ZjY)],cut:=[4],sched:=[(3,(Zv [0,2,3] (.alt 1 (.alt 4 ZvA .stop) (.alt 4 (.alt 1 ZvA .stop) .stop))))] }
theorem ZCd {P:Prop} (h:P:=by
  have he:=Zk he
  have he:=he.2 rfl
  exact⟨rfl,_,_,Leads.refl _ _,he⟩):P:=h
theorem ZHA {P:Prop} (h:P:=by
  refine Y4 ?_
  refine Y4 ?_
  exact⟨_,he,(Za [(10000000,23),(10000001,19900),(10000002,21)])⟩):P:=h
theorem ZHX:Zl Tryz.prog 174 ZuO:=by
 refine Zn (C:=ZHG) Tryz.f174 (Zj ZdV (Zj Zwd (Zj Zwf Zo))) fun _ a b k he=>?_
 unfold ZuO at he;split at he;rotate_left;exact he.elim
 rename_i list_ steps
 refine ZKL he fun he=>?_
 refine Zh he fun r1_ he=>?_
 refine ZC he (fun he=>?_) fun he=>?_
 ·refine Zf he (fun he=>?_) fun he=>?_
  ·exact ZCd
  ·refine ZT (ZtJ list_ steps) (fun r_0=>(Zm [(1,.c (.imm y9_ steps)),(6,.c (.ptr 10000000 0))],[(10000000,.rc [.own 10000001 false,.own 10000002 false]),(10000001,.sl 89 y6_ r_0 .shallow),(10000002,.sl 4 .bool (List.replicate (list_.length:Int).toNat false) .shallow)])) he ?_ ?_
   ·rintro r_0 he
    refine Zr (Zo3 steps) (fun (i,r_01,r_1)=>(Zm [(6,.c (.ptr 10001000 0)),(24,.c (.imm y9_ steps)),(25,.c (.int .i64 (steps.length:Int))),(26,.c (.int .i64 i))],[(10001000,.rc [.own 10001001 false,.own 10001002 false]),(10001001,.sl 89 y6_ r_01 .shallow),(10001002,.sl 4 .bool r_1 .shallow)])) he (Za [(10001000,10000000),(10001001,10000001),(10001002,10000002)]) ?_
    rintro⟨i,r_01,r_1⟩ _ he
    refine Zf he (fun he=>?_) fun he=>?_
    ·refine Zi he fun he=>?_
     refine Zh he fun r5_ he=>?_
     refine Zf he (fun he=>?_) fun he=>?_
     ·have he:=Zk he
      have he:=he.2 rfl
      exact⟨rfl,_,_,(Za [] (l:=[(4,.c (.undef)),(5,.c (.int .i64 i))]) (st':=[])),he⟩
     ·refine Zi he fun he=>?_
      exact⟨_,(Zk he :),(Za [(10001001,34900),(10001002,34901)])⟩
    ·have he:=Zk he
     have he:=he.1 rfl
     exact⟨rfl,_,_,(Za [(900,10001000),(901,10001001),(902,10001002)] (l:=[(4,.c (.ptr 900 0)),(5,.c (.int .i64 (-1:Int)))]) (st':=[(900,.rc [.own 901 false,.own 902 false]),(901,.sl 89 y6_ r_01 .shallow),(902,.sl 4 .bool r_1 .shallow)])),he⟩
   ·skip
    refine And.intro (by kernel_rfl) ?_
    obtain⟨r3_,hq1,he⟩:=Z5 he
    obtain⟨hq2,he⟩:=ZG he
    refine Y5 ?_ ?_
    ·skip
     refine⟨r3_,hq1,?_⟩
     refine Y4 ?_
     refine And.intro hq2 ?_
     exact ZHA
    ·skip
     refine And.intro hq2 ?_
     refine Y4 ?_
     refine⟨r3_,hq1,?_⟩
     exact ZHA
 ·exact ZCd
def Zhx:Con:=fun
  |[.agg [.imm (.pair (.int .i64) (.int .i64)) c__0,.int .i64 c__1]],[]=>.opt _ (ZdO (c__0,c__1)) (fun r=>.ret (.c (.bool r)) [])
  |_,_=>.fail
def Zkb:Sched:=Zv [7,8,9] .done
def Zkc:Sched:=.alt 6 Zkb .stop
def Zty:Cfg:={ y:=tys,n:=12,h:=0,tab:=[(223,Z1),(236,Zd6)],sched:=[(1,(.alt 0 (.alt 1 (Zv [2,3] (.alt 4 (.alt 5 Zkc .stop) (.alt 5 (.alt 4 Zkc (.alt 6 (.alt 4 Zkb .stop) .stop)) .stop))) .stop) .stop))] }
theorem ZtM:Zl Tryz.prog 175 Zhx:=by
 refine Zn (C:=Zty) Tryz.f175 (Zj Zbk (Zj ZlP Zo)) fun _ a b k he=>?_
 unfold Zhx at he;split at he;rotate_left;exact he.elim
 rename_i c__0 c__1
 refine Zq he fun he=>?_
 refine And.intro (by kernel_rfl) ?_
 refine Y4 ?_
 refine Y4 ?_
 refine Zh he fun r3_ he=>?_
 refine Zf he (fun he=>?_) fun he=>?_
 ·obtain⟨r4_,hq1,he⟩:=Z5 he
  refine Y5 ?_ ?_
  ·exact ZHg
  ·skip
   refine Y5 ?_ ?_
   ·exact ZHf
   ·skip
    refine⟨r4_,hq1,?_⟩
    exact ZuB
 ·refine Y5 ?_ ?_
  ·exact ZAs
  ·exact ZHh
def Znw:Con:=fun
  |[.c (.imm (.pair (.sl (.pair (.int .i64) (.int .i64))) (.int .i64)) list_),.c (.imm (.pair (.int .i64) (.pair (.int .i64) (.pair (.int .i64) (.pair (.sl (.pair (.int .i64) (.int .i64))) (.int .i64))))) steps)],[]=>.opt _ (ZmA list_ steps) (fun r=>.ite r.1 (.ret (.tup [.c (.ptr 900 0),.c (.int .i64 r.2.1)]) [(900,.rc [.own 901 false,.own 902 false]),(901,.sl 89 y6_ r.2.2.1 .shallow),(902,.sl 4 .bool r.2.2.2.1 .shallow)]) (.ret (.tup [.c (.undef),.c (.int .i64 r.2.2.2.2)]) []))
  |_,_=>.fail
def Zzp:Cfg:={ y:=tys,n:=44,h:=0,tab:=[(174,ZuO),(175,Zhx)] }
theorem ZzR:Zl Tryz.prog 115 Znw:=by
 refine Zn (C:=Zzp) Tryz.f115 (Zj ZHX (Zj ZtM Zo)) fun _ a b k he=>?_
 unfold Znw at he;split at he;rotate_left;exact he.elim
 rename_i list_ steps
 refine ZKL he fun he=>?_
 refine Zh he fun r1_ he=>?_
 refine Zf he (fun he=>?_) fun he=>?_
 ·refine Zf he (fun he=>?_) fun he=>?_
  ·have he:=Zk he
   have he:=he.2 rfl
   exact⟨rfl,_,_,(Za [] (l:=[(4,.c (.undef)),(5,.c (.int .i64 (-1:Int)))]) (st':=[])),he⟩
  ·refine Zr (Zge r1_) (fun i=>(Zm [(6,.c (.ptr 10000000 0)),(21,.c (.own 10000001 false)),(22,.c (.int .i64 (r1_.2.2.1.length:Int))),(23,.c (.int .i64 i))],[(10000000,.rc [.own 10000001 false,.own 10000002 false]),(10000001,.sl 89 y6_ r1_.2.2.1 .shallow),(10000002,.sl 4 .bool r1_.2.2.2.1 .shallow)])) he (Za [(10000000,14900),(10000001,14901),(10000002,14902)]) ?_
   rintro i _ he
   refine Zf he (fun he=>?_) fun he=>?_
   ·refine Zi he fun he=>?_
    refine Zi he fun he=>?_
    refine Zf he (fun he=>?_) fun he=>?_
    ·refine Zh he fun r2_ he=>?_
     refine Zf he (fun he=>?_) fun he=>?_
     ·have he:=Zk he
      have he:=he.1 rfl
      exact⟨rfl,_,_,(Za [(900,10000000),(901,10000001),(902,10000002)] (l:=[(4,.c (.ptr 900 0)),(5,.c (.int .i64 i))]) (st':=[(900,.rc [.own 901 false,.own 902 false]),(901,.sl 89 y6_ r1_.2.2.1 .shallow),(902,.sl 4 .bool r1_.2.2.2.1 .shallow)])),he⟩
     ·exact Zdh
    ·exact Zdh
   ·have he:=Zk he
    have he:=he.1 rfl
    exact⟨rfl,_,_,(Za [(900,10000000),(901,10000001),(902,10000002)] (l:=[(4,.c (.ptr 900 0)),(5,.c (.int .i64 (-1:Int)))]) (st':=[(900,.rc [.own 901 false,.own 902 false]),(901,.sl 89 y6_ r1_.2.2.1 .shallow),(902,.sl 4 .bool r1_.2.2.2.1 .shallow)])),he⟩
 ·refine Zf he (fun he=>?_) fun he=>?_
  ·exact ZCd
  ·exact(ZBK he).elim
def Zhw:Con:=fun
  |[.c (.imm (.pair (.sl (.pair (.int .i64) (.int .i64))) (.int .i64)) list_),.c (.imm (.pair (.int .i64) (.pair (.int .i64) (.pair (.int .i64) (.pair (.sl (.pair (.int .i64) (.int .i64))) (.int .i64))))) steps)],[]=>.opt _ (ZfE list_ steps) (fun r=>.ret (.c (.bool r)) [])
  |_,_=>.fail
def Ztx:Cfg:={ y:=tys,n:=15,h:=0,tab:=[(115,Znw)] }
theorem ZtL:Zl Tryz.prog 45 Zhw:=by
 refine Zn (C:=Ztx) Tryz.f45 (Zj ZzR Zo) fun _ a b k he=>?_
 unfold Zhw at he;split at he;rotate_left;exact he.elim
 rename_i list_ steps
 refine Zq he fun he=>?_
 refine Zh he fun r1_ he=>?_
 refine Zf he (fun he=>?_) fun he=>?_
 ·exact ZK
 ·exact Z6
def ZjR:Con:=fun
  |[.agg [.imm (.int .i64) m_0,.imm (.pair (.int .i64) (.pair (.sl (.int .i64)) (.pair (.sl (.int .i64)) (.pair (.int .i64) (.sl (.sl (.int .i64))))))) m_1],.c (.imm (.int .i64) coefs),.c (.imm (.int .i64) cells),.c (.imm (.pair (.int .i64) (.pair (.int .i64) (.pair (.int .i64) (.pair (.sl (.pair (.int .i64) (.int .i64))) (.int .i64))))) steps)],[]=>.opt _ (ZhP (m_0,m_1) coefs cells steps) (fun r=>.ret (.c (.bool r)) [])
  |_,_=>.fail
def Zl8:Sched:=.alt 11 (.first 12 .done) .stop
def Zhu:Sched:=.alt 6 (Zv [7,8,9] Zl8) .stop
def Zl9:Sched:=.alt 6 (Zv [7,8,9] (.alt 10 Zl8 .stop)) (.alt 10 Zhu .stop)
def Zma:Sched:=.alt 4 (.first 5 Zhu) .stop
def Zmb:Sched:=.alt 0 Zhu .stop
def Zmc:Sched:=.alt 6 (.alt 8 (Zv [9,10] .done) .stop) .stop
def Zmd:Sched:=.alt 5 Zmc .stop
def ZvR:Cfg:={ y:=tys,n:=51,h:=0,tab:=[(45,Zhw),(55,Zou),(56,Zha),(59,ZgO),(60,Zov),(61,Zb6),(77,ZkL)],cut:=[5],good:=[61],sched:=[(4,(Zv [1,2,3] (.alt 0 (.alt 4 (.first 5 Zl9) (.alt 10 Zma .stop)) (.alt 4 (.first 5 (.alt 0 Zl9 (.alt 10 Zmb .stop))) (.alt 10 (.alt 0 Zma (.alt 4 (.first 5 Zmb) .stop)) .stop))))),(5,(Zv [0,1,2,7] (.alt 3 (.alt 4 Zmd .stop) (.alt 4 (.alt 3 Zmd (.alt 5 (.alt 3 Zmc .stop) .stop)) .stop))))] }
theorem ZCe {P:Prop} (h:P:=by
  refine Y4 ?_
  refine And.intro hq2 ?_
  refine Y4 ?_
  refine⟨r11_,hq3,?_⟩
  exact Zc2):P:=h
theorem ZCf {P:Prop} (h:P:=by
  refine Y4 ?_
  refine Y4 ?_
  refine Y4 ?_
  exact Zc2):P:=h
theorem ZHB {P:Prop} (h:P:=by
  refine Y4 ?_
  exact⟨_,he,(Za [(10000000,15900),(10000001,11),(10000002,39901)])⟩):P:=h
theorem Zx5 {P:Prop} (h:P:=by
  refine Y4 ?_
  refine⟨r7_,hq3,?_⟩
  exact ZHB):P:=h
theorem ZHC {P:Prop} (h:P:=by
  refine Y5 ?_ ?_
  ·skip
   refine⟨r7_,hq3,?_⟩
   refine Y4 ?_
   exact ZHB
  ·skip
   exact Zx5):P:=h
theorem ZHD {P:Prop} (h:P:=by
  skip
  refine Y4 ?_
  refine⟨r6_,hq1,?_⟩
  refine And.intro hq2 ?_
  exact Zx5):P:=h
theorem Zv8:Zl Tryz.prog 18 ZjR:=by
 refine Zn (C:=ZvR) Tryz.f18 (Zj ZtL (Zj ZBl (Zj ZpU (Zj ZsA (Zj ZBm (Zj ZdV (Zj ZwS Zo))))))) fun _ a b k he=>?_
 unfold ZjR at he;split at he;rotate_left;exact he.elim
 rename_i m_0 m_1 coefs cells steps
 refine Zq he fun he=>?_
 refine Zh he fun r1_ he=>?_
 refine ZC he (fun he=>?_) fun he=>?_
 ·refine Zh he fun r2_ he=>?_
  refine ZC he (fun he=>?_) fun he=>?_
  ·refine Zh he fun r3_ he=>?_
   refine Zf he (fun he=>?_) fun he=>?_
   ·exact Zc2
   ·refine ZT (ZiT steps r1_) (fun (ok,c_1,c_0)=>(Zm [(3,.c (.imm y9_ steps)),(9,.c (.own 10000000 false)),(10,.c (.bool ok)),(11,.c (.ptr 10000001 0))],[(10000000,.sl 89 y6_ r1_.2 (.deep true .no)),(10000001,.rc [.own 10000002 false,.int .i64 c_1]),(10000002,.sl 155 y5_ c_0 .shallow)])) he ?_ ?_
    ·rintro⟨ok,c_1,c_0⟩ he
     refine And.intro (by kernel_rfl) ?_
     refine Zf he (fun he=>?_) fun he=>?_
     ·obtain⟨r10_,hq1,he⟩:=Z5 he
      obtain⟨hq2,he⟩:=ZG he
      obtain⟨r11_,hq3,he⟩:=Z5 he
      refine Y5 ?_ ?_
      ·skip
       refine⟨r10_,hq1,?_⟩
       refine Y4 ?_
       refine Y4 ?_
       exact ZCe
      ·skip
       refine Y5 ?_ ?_
       ·skip
        refine⟨r10_,hq1,?_⟩
        refine Y4 ?_
        exact ZCe
       ·skip
        refine Y4 ?_
        refine⟨r10_,hq1,?_⟩
        exact ZCe
     ·refine Y5 ?_ ?_
      ·skip
       refine Y4 ?_
       exact ZCf
      ·skip
       refine Y5 ?_ ?_
       ·skip
        exact ZCf
       ·skip
        exact ZCf
    ·skip
     refine And.intro (by kernel_rfl) ?_
     obtain⟨r6_,hq1,he⟩:=Z5 he
     obtain⟨hq2,he⟩:=ZG he
     obtain⟨r7_,hq3,he⟩:=Z5 he
     refine And.intro ?_ (And.intro ?_ (And.intro ?_ (Y1)))
     ·skip
      refine Y5 ?_ ?_
      ·skip
       refine⟨r6_,hq1,?_⟩
       refine And.intro hq2 ?_
       exact ZHC
      ·exact ZHD
     ·skip
      refine⟨r6_,hq1,?_⟩
      refine And.intro hq2 ?_
      refine Y5 ?_ ?_
      ·skip
       exact ZHC
      ·skip
       refine Y4 ?_
       exact Zx5
     ·skip
      refine Y5 ?_ ?_
      ·exact ZHD
      ·skip
       refine⟨r6_,hq1,?_⟩
       refine And.intro hq2 ?_
       refine Y4 ?_
       exact Zx5
  ·exact Zc2
 ·exact Zc2
def Zg1:Con:=fun
  |[.c (.imm (.int .i64) a),.c (.imm (.int .i64) b)],[]=>.opt _ (Zew a b) (fun r=>.ret (.c (.bool r)) [])
  |_,_=>.fail
def ZCS:Cfg:={ y:=tys,n:=26,h:=0,tab:=[] }
theorem ZmB:Zl Tryz.prog 26 Zg1:=by
 refine Zn (C:=ZCS) Tryz.f26 Zo fun _ a b k he=>?_
 unfold Zg1 at he;split at he;rotate_left;exact he.elim
 rename_i a b
 refine Zq he fun he=>?_
 refine Zf he (fun he=>?_) fun he=>?_
 ·exact Z6
 ·refine Zr (Zlz a b) (fun i=>(Zm [(0,.c (.imm y0_ a)),(1,.c (.imm y0_ b)),(5,.c (.int .i64 i))],[])) he (Za []) ?_
  exact ZAu
def Zow:Con:=fun
  |[.c (.imm (.sl (.int .i64)) a),.c (.imm (.sl (.int .i64)) b)],[]=>.opt _ (ZnR a b) (fun r=>.ret (.c (.bool r)) [])
  |_,_=>.fail
def ZAI:Cfg:={ y:=tys,n:=27,h:=0,tab:=[(26,Zg1)],sched:=[(6,(Zv [0,1,2,3,4,5,6,7] (.alt 8 (.first 9 .done) .stop)))] }
theorem Zx6 {P:Prop} (h:P:=by
  rintro i _ he
  refine Zf he (fun he=>?_) fun he=>?_
  ·refine And.intro (by kernel_rfl) ?_
   refine Zi he fun he=>?_
   refine Zi he fun he=>?_
   refine Y4 ?_
   refine Zh he fun r2_ he=>?_
   exact ZAt
  ·exact Z6):P:=h
theorem ZBn:Zl Tryz.prog 207 Zow:=by
 refine Zn (C:=ZAI) Tryz.f207 (Zj ZmB Zo) fun _ a b k he=>?_
 unfold Zow at he;split at he;rotate_left;exact he.elim
 rename_i a b
 refine Zq he fun he=>?_
 refine Zf he (fun he=>?_) fun he=>?_
 ·exact Z6
 ·refine Zr (Zkm a b) (fun i=>(Zm [(0,.c (.imm (.sl y0_) a)),(1,.c (.imm (.sl y0_) b)),(5,.c (.int .i64 i))],[])) he (Za []) ?_
  exact Zx6
def Zp6:Con:=fun
  |[.agg [.int .i64 a_0,.imm (.int .i64) a_1,.imm (.int .i64) a_2,.int .i64 a_3,.imm (.sl (.int .i64)) a_4],.agg [.int .i64 b_0,.imm (.int .i64) b_1,.imm (.int .i64) b_2,.int .i64 b_3,.imm (.sl (.int .i64)) b_4]],[]=>.opt _ (Zo4 (a_0,(a_1,(a_2,(a_3,a_4)))) (b_0,(b_1,(b_2,(b_3,b_4))))) (fun r=>.ret (.c (.bool r)) [])
  |_,_=>.fail
def ZCT:Cfg:={ y:=tys,n:=33,h:=0,tab:=[(26,Zg1),(207,Zow)] }
theorem ZDi:Zl Tryz.prog 148 Zp6:=by
 refine Zn (C:=ZCT) Tryz.f148 (Zj ZmB (Zj ZBn Zo)) fun _ a b k he=>?_
 unfold Zp6 at he;split at he;rotate_left;exact he.elim
 rename_i a_0 a_1 a_2 a_3 a_4 b_0 b_1 b_2 b_3 b_4
 refine Zq he fun he=>?_
 refine Zf he (fun he=>?_) fun he=>?_
 ·exact ZK
 ·refine Zh he fun r1_ he=>?_
  refine Zf he (fun he=>?_) fun he=>?_
  ·exact ZK
  ·refine Zh he fun r2_ he=>?_
   refine Zf he (fun he=>?_) fun he=>?_
   ·exact ZK
   ·exact ZKM
def Zoy:Con:=fun
  |[.c (.imm (.pair (.int .i64) (.pair (.sl (.int .i64)) (.pair (.sl (.int .i64)) (.pair (.int .i64) (.sl (.sl (.int .i64))))))) a),.c (.imm (.pair (.int .i64) (.pair (.sl (.int .i64)) (.pair (.sl (.int .i64)) (.pair (.int .i64) (.sl (.sl (.int .i64))))))) b)],[]=>.opt _ (ZnT a b) (fun r=>.ret (.c (.bool r)) [])
  |_,_=>.fail
def ZAK:Cfg:={ y:=tys,n:=27,h:=0,tab:=[(148,Zp6)],sched:=[(6,(Zv [0,1,2,3,4,5,6,7] (.alt 8 (.first 9 .done) .stop)))] }
theorem ZBp:Zl Tryz.prog 85 Zoy:=by
 refine Zn (C:=ZAK) Tryz.f85 (Zj ZDi Zo) fun _ a b k he=>?_
 unfold Zoy at he;split at he;rotate_left;exact he.elim
 rename_i a b
 refine Zq he fun he=>?_
 refine Zf he (fun he=>?_) fun he=>?_
 ·exact Z6
 ·refine Zr (Zkn a b) (fun i=>(Zm [(0,.c (.imm y4_ a)),(1,.c (.imm y4_ b)),(5,.c (.int .i64 i))],[])) he (Za []) ?_
  exact Zx6
def Zox:Con:=fun
  |[.agg [.imm (.int .i64) a_0,.imm (.pair (.int .i64) (.pair (.sl (.int .i64)) (.pair (.sl (.int .i64)) (.pair (.int .i64) (.sl (.sl (.int .i64))))))) a_1],.agg [.imm (.int .i64) b_0,.imm (.pair (.int .i64) (.pair (.sl (.int .i64)) (.pair (.sl (.int .i64)) (.pair (.int .i64) (.sl (.sl (.int .i64))))))) b_1]],[]=>.opt _ (ZnS (a_0,a_1) (b_0,b_1)) (fun r=>.ret (.c (.bool r)) [])
  |_,_=>.fail
def ZAJ:Cfg:={ y:=tys,n:=17,h:=0,tab:=[(26,Zg1),(85,Zoy)] }
theorem ZBo:Zl Tryz.prog 25 Zox:=by
 refine Zn (C:=ZAJ) Tryz.f25 (Zj ZmB (Zj ZBp Zo)) fun _ a b k he=>?_
 unfold Zox at he;split at he;rotate_left;exact he.elim
 rename_i a_0 a_1 b_0 b_1
 refine Zq he fun he=>?_
 refine Zh he fun r1_ he=>?_
 refine Zf he (fun he=>?_) fun he=>?_
 ·exact ZK
 ·refine Zh he fun r2_ he=>?_
  exact Zpn
def Zp8:Con:=fun
  |[.agg [.int .i64 a_0,.int .i64 a_1],.agg [.int .i64 b_0,.int .i64 b_1]],[]=>.opt _ (ZtP (a_0,a_1) (b_0,b_1)) (fun r=>.ret (.c (.bool r)) [])
  |_,_=>.fail
def ZCV:Cfg:={ y:=tys,n:=15,h:=0,tab:=[] }
theorem ZDk:Zl Tryz.prog 218 Zp8:=by
 refine Zn (C:=ZCV) Tryz.f218 Zo fun _ a b k he=>?_
 unfold Zp8 at he;split at he;rotate_left;exact he.elim
 rename_i a_0 a_1 b_0 b_1
 refine Zq he fun he=>?_
 refine Zf he (fun he=>?_) fun he=>?_
 ·exact ZK
 ·exact Zpn
def ZoA:Con:=fun
  |[.c (.imm (.pair (.int .i64) (.int .i64)) a),.c (.imm (.pair (.int .i64) (.int .i64)) b)],[]=>.opt _ (ZnV a b) (fun r=>.ret (.c (.bool r)) [])
  |_,_=>.fail
def ZAM:Cfg:={ y:=tys,n:=27,h:=0,tab:=[(218,Zp8)],sched:=[(6,(Zv [0,1,2,3,4,5,6,7] (.alt 8 (.first 9 .done) .stop)))] }
theorem ZBr:Zl Tryz.prog 156 ZoA:=by
 refine Zn (C:=ZAM) Tryz.f156 (Zj ZDk Zo) fun _ a b k he=>?_
 unfold ZoA at he;split at he;rotate_left;exact he.elim
 rename_i a b
 refine Zq he fun he=>?_
 refine Zf he (fun he=>?_) fun he=>?_
 ·exact Z6
 ·refine Zr (Zkp a b) (fun i=>(Zm [(0,.c (.imm y5_ a)),(1,.c (.imm y5_ b)),(5,.c (.int .i64 i))],[])) he (Za []) ?_
  exact Zx6
def ZjZ:Con:=fun
  |[.agg [.imm (.pair (.int .i64) (.int .i64)) a_0,.int .i64 a_1],.agg [.imm (.pair (.int .i64) (.int .i64)) b_0,.int .i64 b_1]],[]=>.opt _ (Zl3 (a_0,a_1) (b_0,b_1)) (fun r=>.ret (.c (.bool r)) [])
  |_,_=>.fail
def ZvZ:Cfg:={ y:=tys,n:=16,h:=0,tab:=[(156,ZoA)] }
theorem ZLg {P:Prop} (h:P:=by
  refine Zf he (fun he=>?_) fun he=>?_
  ·exact ZK
  ·exact Zpn):P:=h
theorem Zwg:Zl Tryz.prog 95 ZjZ:=by
 refine Zn (C:=ZvZ) Tryz.f95 (Zj ZBr Zo) fun _ a b k he=>?_
 unfold ZjZ at he;split at he;rotate_left;exact he.elim
 rename_i a_0 a_1 b_0 b_1
 refine Zq he fun he=>?_
 refine Zh he fun r1_ he=>?_
 exact ZLg
def Zp7:Con:=fun
  |[.agg [.int .i64 a_0,.int .i64 a_1,.int .i64 a_2,.imm (.pair (.int .i64) (.int .i64)) a_3,.int .i64 a_4],.agg [.int .i64 b_0,.int .i64 b_1,.int .i64 b_2,.imm (.pair (.int .i64) (.int .i64)) b_3,.int .i64 b_4]],[]=>.opt _ (Zo5 (a_0,(a_1,(a_2,(a_3,a_4)))) (b_0,(b_1,(b_2,(b_3,b_4))))) (fun r=>.ret (.c (.bool r)) [])
  |_,_=>.fail
def ZCU:Cfg:={ y:=tys,n:=26,h:=0,tab:=[(95,ZjZ)] }
theorem ZLh {P:Prop} (h:P:=by
  refine Zh he fun r1_ he=>?_
  exact Zpn):P:=h
theorem ZDj:Zl Tryz.prog 86 Zp7:=by
 refine Zn (C:=ZCU) Tryz.f86 (Zj Zwg Zo) fun _ a b k he=>?_
 unfold Zp7 at he;split at he;rotate_left;exact he.elim
 rename_i a_0 a_1 a_2 a_3 a_4 b_0 b_1 b_2 b_3 b_4
 refine Zq he fun he=>?_
 refine Zf he (fun he=>?_) fun he=>?_
 ·exact ZK
 ·refine Zf he (fun he=>?_) fun he=>?_
  ·exact ZK
  ·refine Zf he (fun he=>?_) fun he=>?_
   ·exact ZK
   ·exact ZLh
end
end Go.AE.Y
