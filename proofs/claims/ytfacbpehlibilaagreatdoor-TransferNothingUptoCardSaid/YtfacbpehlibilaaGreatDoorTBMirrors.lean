import Derived.Test.YtfacbpehlibilaaGreatDoorTBStrs
import Derived.Test.YtfacbpehlibilaaGreatDoorTBCat
import Derived.Test.YtfacbpehlibilaaGreatDoorTBCmp
set_option linter.unusedVariables false
set_option linter.unusedSimpArgs false
namespace Go.Proofs.YtfacbpehlibilaaGreatDoor
open Go Go.Am
def d1V(a0:Oy)(a1:Oy):Option (Int):=
 some (wr .i64 (a0.at_-a1.at_))
def PS(a0:Bs)(a1:(List Bs)):Option (Ox):=
 some (Ox.mk 2 a0 a1 [])
def SN(a0:Int)(a1:Ox)(a2:Ox):Option (Ox):=
 some (Ox.mk a0 [] [] [a1,a2])
def PX(a0:Int)(a1:Int):Option (OL):=
 some (OL.mk a0 a1)
def Rq(a0:Int)(OQ:Int):Option (OL):=
 some (OL.mk a0 OQ)
def Tl(j2:Bool):Option (Int):=
 bif j2 then
  some 2
 else
  some (-1)
def Tj(a0:Int)(j1:Bool):Option (Int):=
 bif j1 then
  some 1
 else
  bif (decide (a0=5))then
   Tl (decide (a0=5))
  else
   bif (decide (a0=6))then
    Tl (decide (a0=6))
   else
    Tl (decide (a0=7))
def Ti(a0:Int)(j0:Bool):Option (Int):=
 bif j0 then
  some 0
 else
  bif (decide (a0=4))then
   Tj a0 (decide (a0=4))
  else
   bif (decide (a0=8))then
    Tj a0 (decide (a0=8))
   else
    Tj a0 (decide (a0=9))
def Xi(a0:Int):Option (Int):=
 bif (decide (a0=1))then
  Ti a0 (decide (a0=1))
 else
  bif (decide (a0=2))then
   Ti a0 (decide (a0=2))
  else
   Ti a0 (decide (a0=3))
def Pc(a0:Ox):Option (Bool):=
 some (bif (decide (a0.kind=8))then true else(decide (a0.kind=9)))
def YG(a0:Bs)(k0:Nat)(s0:Unit):Option (Ctl (Bool) (Unit) (Unit)):=
 bif (!(bif (bif (bif (bif (decide (97≤(UO a0 (↑k0:Int))))then(decide ((UO a0 (↑k0:Int))≤122))else false)then true else(bif (decide (48≤(UO a0 (↑k0:Int))))then(decide ((UO a0 (↑k0:Int))≤57))else false))then true else(decide ((UO a0 (↑k0:Int))=95)))then true else(decide ((UO a0 (↑k0:Int))=45))))then
  some (.ret false)
 else
  some (.nxt ())
def YH(t0:Unit):Option (Bool):=
 some true
def termName(a0:Bs):Option (Bool):=
 chk (d6G (!(bif (decide ((↑a0.length:Int)=0))then true else(decide (30<(↑a0.length:Int))))) (0<(↑a0.length:Int))) <|
 chk (d6G (!(bif (bif (decide ((↑a0.length:Int)=0))then true else(decide (30<(↑a0.length:Int))))then true else(decide ((UO a0 0)<97)))) (0<(↑a0.length:Int))) <|
 bif (bif (bif (bif (decide ((↑a0.length:Int)=0))then true else(decide (30<(↑a0.length:Int))))then true else(decide ((UO a0 0)<97)))then true else(decide (122<(UO a0 0))))then
  some false
 else
  chk (a0.length≤9223372036854775807) <|
  Pg (Pr (YG a0) a0.length ()) (YH)
def Ul(a0:Ox)(OQ:Int)(k2:Nat)(s2:Unit):Option (Ctl (OL×Int) (Unit) (Unit)):=
 (termName (get a0.words k2)).bind fun v9=>
 bif (!v9)then
  (Rq 10 OQ).bind fun v10=>
  some (.ret (v10,(wr .i64 (OQ+1))))
 else
  some (.nxt ())
def Un(self:(Ox)→(Int)→(Int)→(Bool)→Option (OL×Int))(a0:Ox)(a1:Int)(RE:Bool)(k3:Nat)(s3:Int):Option (Ctl (OL×Int) (Int) (Int)):=
 (self (get a0.subs k3) (wr .i64 (a1+1)) s3 RE).bind fun v12=>
 bif (!decide (v12.1.code=0))then
  some (.ret (v12.1,v12.2))
 else
  some (.nxt v12.2)
def Uo(t3:Int):Option (OL×Int):=
 some ((OL.mk 0 0),t3)
def Um(self:(Ox)→(Int)→(Int)→(Bool)→Option (OL×Int))(a0:Ox)(a1:Int)(RE:Bool)(OQ:Int)(t2:Unit):Option (OL×Int):=
 Pg (Pr (Un self a0 a1 RE) a0.subs.length (wr .i64 (OQ+1))) (Uo)
def QY(self:(Ox)→(Int)→(Int)→(Bool)→Option (OL×Int))(a0:Ox)(j0:Int)(OQ:Int)(a1:Int)(RE:Bool)(j1:Bool):Option (OL×Int):=
 bif (bif (!decide ((↑a0.subs.length:Int)=j0))then true else(!j1))then
  (Rq 9 OQ).bind fun v4=>
  some (v4,(wr .i64 (OQ+1)))
 else
  (gd (!(decide (a0.kind=2))) (Pc a0) default).bind fun v5=>
  (gd (bif (bif (decide (a0.kind=2))then true else v5)then true else(decide (a0.kind=10))) (termName a0.name) default).bind fun v6=>
  bif (bif (bif (bif (decide (a0.kind=2))then true else v5)then true else(decide (a0.kind=10)))then(!v6)else false)then
   (Rq 10 OQ).bind fun v7=>
   some (v7,(wr .i64 (OQ+1)))
  else
   bif (bif (!(bif (bif (decide (a0.kind=2))then true else v5)then true else(decide (a0.kind=10))))then(!decide (a0.name=[]))else false)then
    (Rq 5 OQ).bind fun v8=>
    some (v8,(wr .i64 (OQ+1)))
   else
    Pg (Pr (Ul a0 OQ) a0.words.length ()) (Um self a0 a1 RE OQ)
def RK(self:(Ox)→(Int)→(Int)→(Bool)→Option (OL×Int))(OQ:Int)(a0:Ox)(a1:Int)(RE:Bool)(j0:Int):Option (OL×Int):=
 bif (decide (j0<0))then
  (Rq 4 OQ).bind fun v3=>
  some (v3,(wr .i64 (OQ+1)))
 else
  bif (decide (a0.kind=2))then
   QY self a0 j0 OQ a1 RE (decide ((↑a0.words.length:Int)≤3))
  else
   bif (decide (a0.kind=3))then
    QY self a0 j0 OQ a1 RE (decide ((↑a0.words.length:Int)=2))
   else
    QY self a0 j0 OQ a1 RE (decide ((↑a0.words.length:Int)=0))
def PV:Nat→(Ox)→(Int)→(Int)→(Bool)→Option (OL×Int)
 |0,_,_,_,_=>none
 |n+1,a0,a1,OQ,RE=>
  bif (bif (decide (200<(wr .i64 (OQ+1))))then true else(decide (40<a1)))then
   (Rq 1 OQ).bind fun v1=>
   some (v1,(wr .i64 (OQ+1)))
  else
   (Xi a0.kind).bind fun v2=>
   bif (bif (decide (a0.kind=10))then RE else false)then
    RK (PV n) OQ a0 a1 RE 0
   else
    RK (PV n) OQ a0 a1 RE v2
def XI(n:Nat)(a0:Ox)(a1:Bool):Option (OL):=
 (PV n a0 1 0 a1).bind fun v1=>
 some v1.1
def QV(n:Nat)(a0:Ox):Option (OL):=
 (XI n a0 false).bind fun v1=>
 some v1
def Ts(a0:OG):Option ((List Bs)):=
 (d7x [a0.words,a0.PA,a0.parts]).bind fun v2=>
 some v2
def Qs(a0:Int)(a1:Int):Option (OL):=
 some (OL.mk a0 a1)
def QE(a1:Bs)(a0:(List Bs))(k0:Nat)(s0:Unit):Option (Ctl (Int) (Unit) (Unit)):=
 bif (decide (a1=(get a0 k0)))then
  some (.ret (↑k0:Int))
 else
  some (.nxt ())
def QF(t0:Unit):Option (Int):=
 some (-1)
def Rk(a0:(List Bs))(a1:Bs):Option (Int):=
 Pg (Pr (QE a1 a0) a0.length ()) (QF)
def OE(a0:(List Bs))(a1:Bs):Option (Bool):=
 (Rk a0 a1).bind fun v1=>
 some (decide (0≤v1))
def Rf(a1:(List Bs))(a0:Ox)(k0:Nat)(s0:(List Bs)):Option (Ctl ((List Bs)) ((List Bs)) ((List Bs))):=
 (OE a1 (get a0.words k0)).bind fun v8=>
 bif (!v8)then
  Tg (s0++[(get a0.words k0)]) fun c10=>
  chk (c10.length*16≤top∧c10.length≤top) <|
  some (.nxt c10)
 else
  some (.nxt s0)
def Rg(self:(Ox)→((List Bs))→((List Bs))→Option ((List Bs)))(a0:Ox)(j1:(List Bs))(k2:Nat)(s2:(List Bs)):Option (Ctl ((List Bs)) ((List Bs)) ((List Bs))):=
 (self (get a0.subs k2) j1 s2).bind fun v26=>
 some (.nxt v26)
def Rh(t2:(List Bs)):Option ((List Bs)):=
 some t2
def PF(self:(Ox)→((List Bs))→((List Bs))→Option ((List Bs)))(a0:Ox)(t0:(List Bs))(j1:(List Bs)):Option ((List Bs)):=
 Pg (Pr (Rg self a0 j1) a0.subs.length t0) (Rh)
def Ri(self:(Ox)→((List Bs))→((List Bs))→Option ((List Bs)))(a0:Ox)(a1:(List Bs))(t0:(List Bs)):Option ((List Bs)):=
 (Pc a0).bind fun v15=>
 bif v15 then
  chk (0≤(↑a1.length:Int)∧0≤(↑a1.length:Int)) <|
  Tg (a1++[a0.name]) fun c19=>
  chk (c19.length*16≤top∧c19.length≤top) <|
  PF self a0 t0 c19
 else
  PF self a0 t0 a1
def Po:Nat→(Ox)→((List Bs))→((List Bs))→Option ((List Bs))
 |0,_,_,_=>none
 |n+1,a0,a1,l1=>
  Pg (Pr (Rf a1 a0) a0.words.length l1) (Ri (Po n) a0 a1)
def PJ(l0:(List Bs)):Option ((List Bs)):=
 chk (l0.length<4611686018427387904) (some (Yp cfB l0))
def Qf(l0:(List Bs)):Option (List Bs):=
 chk (l0.length≤9223372036854775807) (some (cpt l0))
def Qy(n:Nat)(a0:Ox):Option ((List Bs)):=
 (Po n a0 [] []).bind fun v1=>
 (PJ v1).bind fun v3=>
 (Qf v3).bind fun v5=>
 some (Lib.compact v3)
def WE(self:(Ox)→(Bs)→Option (Bool×Bool))(a0:Ox)(a1:Bs)(k1:Nat)(s1:Bool×Bool):Option (Ctl (Bool×Bool) (Bool×Bool) (Bool×Bool)):=
 (self (get a0.subs k1) a1).bind fun v2=>
 some (.nxt ((bif s1.1 then true else v2.1),(bif s1.2 then true else v2.2)))
def WG(t1:Bool×Bool):Option (Bool×Bool):=
 some (t1.1,t1.2)
def Ur(self:(Ox)→(Bs)→Option (Bool×Bool))(a0:Ox)(a1:Bs)(j0:Bool×Bool):Option (Bool×Bool):=
 Pg (Pr (WE self a0 a1) a0.subs.length (j0.1,j0.2)) (WG)
def SQ:Nat→(Ox)→(Bs)→Option (Bool×Bool)
 |0,_,_=>none
 |n+1,a0,a1=>
  bif (bif (decide (a0.kind=2))then(decide (a0.name=a1))else false)then
   Ur (SQ n) a0 a1 ((decide (0<(↑a0.words.length:Int))),(decide ((↑a0.words.length:Int)=0)))
  else
   Ur (SQ n) a0 a1 (false,false)
def SR(self:(Ox)→Option ((List Bs)))(a0:Ox)(k1:Nat)(s1:(List Bs)):Option (Ctl ((List Bs)) ((List Bs)) ((List Bs))):=
 (self (get a0.subs k1)).bind fun v14=>
 Tg (s1++v14) fun c15=>
 chk (c15.length*16≤top∧c15.length≤top) <|
 some (.nxt c15)
def SS(t1:(List Bs)):Option ((List Bs)):=
 some t1
def Rm(self:(Ox)→Option ((List Bs)))(a0:Ox)(j0:(List Bs)):Option ((List Bs)):=
 Pg (Pr (SR self a0) a0.subs.length j0) (SS)
def Pf:Nat→(Ox)→Option ((List Bs))
 |0,_=>none
 |n+1,a0=>
  (Pc a0).bind fun v1=>
  bif v1 then
   Tg ([]++[a0.name]) fun c3=>
   chk (c3.length*16≤top∧c3.length≤top) <|
   Rm (Pf n) a0 c3
  else
   Rm (Pf n) a0 []
def TW(n:Nat)(v2:(List Bs))(a0:OG)(v4:(List Bs))(k0:Nat)(s0:Unit):Option (Ctl (OL) (Unit) (Unit)):=
 (termName (get v2 k0)).bind fun v17=>
 bif (!v17)then
  (Qs 10 (↑k0:Int)).bind fun v18=>
  some (.ret v18)
 else
  chk (0≤(↑k0:Int)∧k0≤v2.length) <|
  (OE (v2.take k0) (get v2 k0)).bind fun v21=>
  bif v21 then
   (Qs 7 (↑k0:Int)).bind fun v22=>
   some (.ret v22)
  else
   (SQ n a0.form (get v2 k0)).bind fun v23=>
   bif (decide ((↑k0:Int)<(↑a0.words.length:Int)))then
    (OE v4 (get v2 k0)).bind fun v24=>
    bif (!v24)then
     (Qs 15 (↑k0:Int)).bind fun v25=>
     some (.ret v25)
    else
     some (.nxt ())
   else
    bif (decide ((↑k0:Int)<(wr .i64 ((↑a0.words.length:Int)+(↑a0.PA.length:Int)))))then
     bif (bif (!v23.1)then(!v23.2)else false)then
      (Qs 15 (↑k0:Int)).bind fun v26=>
      some (.ret v26)
     else
      some (.nxt ())
    else
     bif v23.1 then
      (Qs 5 (↑k0:Int)).bind fun v27=>
      some (.ret v27)
     else
      bif (!v23.2)then
       (Qs 15 (↑k0:Int)).bind fun v28=>
       some (.ret v28)
      else
       some (.nxt ())
def TX(v29:(List Bs))(a0:OG)(k1:Nat)(s1:Unit):Option (Ctl (OL) (Unit) (Unit)):=
 chk (0≤(↑k1:Int)∧k1≤v29.length) <|
 (OE (v29.take k1) (get v29 k1)).bind fun v37=>
 (gd (!v37) (OE a0.words (get v29 k1)) default).bind fun v38=>
 bif (bif v37 then true else v38)then
  (Qs 7 (-1)).bind fun v39=>
  some (.ret v39)
 else
  some (.nxt ())
def TY(t1:Unit):Option (OL):=
 some (OL.mk 0 0)
def Ua(n:Nat)(a0:OG)(t0:Unit):Option (OL):=
 (Pf n a0.form).bind fun v29=>
 Pg (Pr (TX v29 a0) v29.length ()) (TY)
def VY(n:Nat)(a0:OG):Option (OL):=
 (QV n a0.form).bind fun v1=>
 bif (!decide (v1.code=0))then
  some v1
 else
  (Ts a0).bind fun v2=>
  bif (decide (300<(↑v2.length:Int)))then
   (Qs 2 (-1)).bind fun v3=>
   some v3
  else
   (Qy n a0.form).bind fun v4=>
   Pg (Pr (TW n v2 a0 v4) v2.length ()) (Ua n a0)
def Qu(a0:OG)(a1:Ox):Option (Bool):=
 (gd (bif (decide (a1.kind=2))then(decide ((↑a1.words.length:Int)=0))else false) (OE a0.parts a1.name) default).bind fun v1=>
 some (bif (bif (decide (a1.kind=2))then(decide ((↑a1.words.length:Int)=0))else false)then v1 else false)
def SV(a0:(List Bs)):Option (List Bs):=
 some a0
def Py(a0 l0:(List Bs)):Option (List Bs):=
 bif l0.isEmpty then some a0 else none
def Vs(self:(Ox)→((List Bs))→(Int)→(Bs)→((List Bs))→((List Ox))→((List Bs))→((List Bs))→((List Bs))→((List (Bs×(List Bs))))→Option (Unit))(a0:Ox)(j1:(List Bs))(OQ:Int)(Qo:Bs)(Qp:(List Bs))(Ph:(List Ox))(Qi:(List Bs))(Qn:(List Bs))(Qq:(List Bs))(m2:(List (Bs×(List Bs))))(k2:Nat)(s2:Unit):Option (Ctl (Unit) (Unit) (Unit)):=
 (self (get a0.subs k2) j1 OQ Qo Qp Ph Qi Qn Qq m2).bind fun v11=>
 some (.nxt ())
def Vt(t2:Unit):Option (Unit):=
 some ()
def Tt(self:(Ox)→((List Bs))→(Int)→(Bs)→((List Bs))→((List Ox))→((List Bs))→((List Bs))→((List Bs))→((List (Bs×(List Bs))))→Option (Unit))(a0:Ox)(OQ:Int)(Qo:Bs)(Qp:(List Bs))(Ph:(List Ox))(Qi:(List Bs))(Qn:(List Bs))(Qq:(List Bs))(m2:(List (Bs×(List Bs))))(j1:(List Bs)):Option (Unit):=
 Pg (Pr (Vs self a0 j1 OQ Qo Qp Ph Qi Qn Qq m2) a0.subs.length ()) (Vt)
def Vu(self:(Ox)→((List Bs))→(Int)→(Bs)→((List Bs))→((List Ox))→((List Bs))→((List Bs))→((List Bs))→((List (Bs×(List Bs))))→Option (Unit))(a0:Ox)(a1:(List Bs))(OQ:Int)(Qo:Bs)(Qp:(List Bs))(Ph:(List Ox))(Qi:(List Bs))(Qn:(List Bs))(Qq:(List Bs))(m2:(List (Bs×(List Bs))))(j0:Unit):Option (Unit):=
 (Pc a0).bind fun v3=>
 bif v3 then
  (Py a1 []).bind fun v4=>
  Tg (v4++[a0.name]) fun c6=>
  chk (c6.length*16≤top∧c6.length≤top) <|
  Tt self a0 OQ Qo Qp Ph Qi Qn Qq m2 c6
 else
  Tt self a0 OQ Qo Qp Ph Qi Qn Qq m2 a1
def Rz:Nat→(Ox)→((List Bs))→(Int)→(Bs)→((List Bs))→((List Ox))→((List Bs))→((List Bs))→((List Bs))→((List (Bs×(List Bs))))→Option (Unit)
 |0,_,_,_,_,_,_,_,_,_,_=>none
 |n+1,a0,a1,OQ,Qo,Qp,Ph,Qi,Qn,Qq,m2=>
  (Qu (OG.mk (Ox.mk OQ Qo Qp Ph) Qi Qn Qq) a0).bind fun v1=>
  bif v1 then
   none
  else
   Vu (Rz n) a0 a1 OQ Qo Qp Ph Qi Qn Qq m2 ()
def Ya(n:Nat)(a0:OG):Option ((List (Bs×(List Bs)))):=
 (Rz n a0.form [] a0.form.kind a0.form.name a0.form.words a0.form.subs a0.words a0.PA a0.parts []).bind fun v1=>
 some []
def VZ(OP:(Ox)→((List Bs))→(Int)→(Bs)→((List Bs))→((List Ox))→((List Bs))→((List Bs))→((List Bs))→(Int)→(Bs)→((List Bs))→((List Ox))→((List (Bs×(List Bs))))→((List Bs))→Option (Bool))(a0:Ox)(RE:Int)(d3I:Bs)(d3J:(List Bs))(d3K:(List Ox))(d3L:(List Bs))(d3M:(List Bs))(d3N:(List Bs))(d3O:Int)(d3P:Bs)(d3Q:(List Bs))(Xx:(List Ox))(m3:(List (Bs×(List Bs))))(RF:(List Bs))(Sv:(List Bs)):Option (Bool):=
 (OP a0 Sv RE d3I d3J d3K d3L d3M d3N d3O d3P d3Q Xx m3 RF).bind fun v1=>
 some v1
def QA(OP:(Ox)→((List Bs))→(Int)→(Bs)→((List Bs))→((List Ox))→((List Bs))→((List Bs))→((List Bs))→(Int)→(Bs)→((List Bs))→((List Ox))→((List (Bs×(List Bs))))→((List Bs))→Option (Bool))(a0:(List Ox))(RE:Int)(d3I:Bs)(d3J:(List Bs))(d3K:(List Ox))(d3L:(List Bs))(d3M:(List Bs))(d3N:(List Bs))(d3O:Int)(d3P:Bs)(d3Q:(List Bs))(Xx:(List Ox))(m3:(List (Bs×(List Bs))))(RF:(List Bs))(Sv:(List Bs))(k0:Nat)(s0:Unit):Option (Ctl (Int) (Unit) (Unit)):=
 (VZ OP (get a0 k0) RE d3I d3J d3K d3L d3M d3N d3O d3P d3Q Xx m3 RF Sv).bind fun v1=>
 bif v1 then
  some (.ret (↑k0:Int))
 else
  some (.nxt ())
def QB(t0:Unit):Option (Int):=
 some (-1)
def QZ(OP:(Ox)→((List Bs))→(Int)→(Bs)→((List Bs))→((List Ox))→((List Bs))→((List Bs))→((List Bs))→(Int)→(Bs)→((List Bs))→((List Ox))→((List (Bs×(List Bs))))→((List Bs))→Option (Bool))(a0:(List Ox))(RE:Int)(d3I:Bs)(d3J:(List Bs))(d3K:(List Ox))(d3L:(List Bs))(d3M:(List Bs))(d3N:(List Bs))(d3O:Int)(d3P:Bs)(d3Q:(List Bs))(Xx:(List Ox))(m3:(List (Bs×(List Bs))))(RF:(List Bs))(Sv:(List Bs)):Option (Int):=
 Pg (Pr (QA OP a0 RE d3I d3J d3K d3L d3M d3N d3O d3P d3Q Xx m3 RF Sv) a0.length ()) (QB)
def QC(OP:(Ox)→((List Bs))→(Int)→(Bs)→((List Bs))→((List Ox))→((List Bs))→((List Bs))→((List Bs))→(Int)→(Bs)→((List Bs))→((List Ox))→((List (Bs×(List Bs))))→((List Bs))→Option (Bool))(a0:(List Ox))(RE:Int)(d3I:Bs)(d3J:(List Bs))(d3K:(List Ox))(d3L:(List Bs))(d3M:(List Bs))(d3N:(List Bs))(d3O:Int)(d3P:Bs)(d3Q:(List Bs))(Xx:(List Ox))(m3:(List (Bs×(List Bs))))(RF:(List Bs))(Sv:(List Bs)):Option (Bool):=
 (QZ OP a0 RE d3I d3J d3K d3L d3M d3N d3O d3P d3Q Xx m3 RF Sv).bind fun v1=>
 some (decide (0≤v1))
def Uv(RY:(List Bs))(a0:Ox)(a1:(List Bs))(k2:Nat)(s2:Unit):Option (Ctl (Bool) (Unit) (Unit)):=
 (OE RY (get a0.words k2)).bind fun v5=>
 (gd v5 (OE a1 (get a0.words k2)) default).bind fun v6=>
 bif (bif v5 then(!v6)else false)then
  some (.ret true)
 else
  some (.nxt ())
def SX(self:(Ox)→((List Bs))→(Int)→(Bs)→((List Bs))→((List Ox))→((List Bs))→((List Bs))→((List Bs))→(Int)→(Bs)→((List Bs))→((List Ox))→((List (Bs×(List Bs))))→((List Bs))→Option (Bool))(a0:Ox)(OQ:Int)(Qo:Bs)(Qp:(List Bs))(Ph:(List Ox))(Qi:(List Bs))(Qn:(List Bs))(Qq:(List Bs))(Ub:Int)(Uc:Bs)(Ud:(List Bs))(Qa:(List Ox))(m2:(List (Bs×(List Bs))))(RY:(List Bs))(j3:(List Bs)):Option (Bool):=
 (QC self a0.subs OQ Qo Qp Ph Qi Qn Qq Ub Uc Ud Qa m2 RY j3).bind fun v15=>
 some v15
def Uw(self:(Ox)→((List Bs))→(Int)→(Bs)→((List Bs))→((List Ox))→((List Bs))→((List Bs))→((List Bs))→(Int)→(Bs)→((List Bs))→((List Ox))→((List (Bs×(List Bs))))→((List Bs))→Option (Bool))(a0:Ox)(a1:(List Bs))(OQ:Int)(Qo:Bs)(Qp:(List Bs))(Ph:(List Ox))(Qi:(List Bs))(Qn:(List Bs))(Qq:(List Bs))(Ub:Int)(Uc:Bs)(Ud:(List Bs))(Qa:(List Ox))(m2:(List (Bs×(List Bs))))(RY:(List Bs))(t2:Unit):Option (Bool):=
 (Pc a0).bind fun v7=>
 bif v7 then
  (Py a1 []).bind fun v8=>
  Tg (v8++[a0.name]) fun c10=>
  chk (c10.length*16≤top∧c10.length≤top) <|
  SX self a0 OQ Qo Qp Ph Qi Qn Qq Ub Uc Ud Qa m2 RY c10
 else
  SX self a0 OQ Qo Qp Ph Qi Qn Qq Ub Uc Ud Qa m2 RY a1
def SY(self:(Ox)→((List Bs))→(Int)→(Bs)→((List Bs))→((List Ox))→((List Bs))→((List Bs))→((List Bs))→(Int)→(Bs)→((List Bs))→((List Ox))→((List (Bs×(List Bs))))→((List Bs))→Option (Bool))(RY:(List Bs))(a0:Ox)(a1:(List Bs))(OQ:Int)(Qo:Bs)(Qp:(List Bs))(Ph:(List Ox))(Qi:(List Bs))(Qn:(List Bs))(Qq:(List Bs))(Ub:Int)(Uc:Bs)(Ud:(List Bs))(Qa:(List Ox))(m2:(List (Bs×(List Bs))))(j0:Unit):Option (Bool):=
 Pg (Pr (Uv RY a0 a1) a0.words.length ()) (Uw self a0 a1 OQ Qo Qp Ph Qi Qn Qq Ub Uc Ud Qa m2 RY)
def Ux(a1:(List Bs))(a0:Ox)(m2:(List (Bs×(List Bs))))(k1:Nat)(s1:Unit):Option (Ctl (Bool) (Unit) (Unit)):=
 (OE a1 (get ((assoc a0.name m2).getD default) k1)).bind fun v2=>
 bif (!v2)then
  some (.ret true)
 else
  some (.nxt ())
def Uy(self:(Ox)→((List Bs))→(Int)→(Bs)→((List Bs))→((List Ox))→((List Bs))→((List Bs))→((List Bs))→(Int)→(Bs)→((List Bs))→((List Ox))→((List (Bs×(List Bs))))→((List Bs))→Option (Bool))(RY:(List Bs))(a0:Ox)(a1:(List Bs))(OQ:Int)(Qo:Bs)(Qp:(List Bs))(Ph:(List Ox))(Qi:(List Bs))(Qn:(List Bs))(Qq:(List Bs))(Ub:Int)(Uc:Bs)(Ud:(List Bs))(Qa:(List Ox))(m2:(List (Bs×(List Bs))))(t1:Unit):Option (Bool):=
 SY self RY a0 a1 OQ Qo Qp Ph Qi Qn Qq Ub Uc Ud Qa m2 ()
def PU:Nat→(Ox)→((List Bs))→(Int)→(Bs)→((List Bs))→((List Ox))→((List Bs))→((List Bs))→((List Bs))→(Int)→(Bs)→((List Bs))→((List Ox))→((List (Bs×(List Bs))))→((List Bs))→Option (Bool)
 |0,_,_,_,_,_,_,_,_,_,_,_,_,_,_,_=>none
 |n+1,a0,a1,OQ,Qo,Qp,Ph,Qi,Qn,Qq,Ub,Uc,Ud,Qa,m2,RY=>
  (Qu (OG.mk (Ox.mk OQ Qo Qp Ph) Qi Qn Qq) a0).bind fun v1=>
  bif v1 then
   Pg (Pr (Ux a1 a0 m2) (((assoc a0.name m2).getD default).length) ()) (Uy (PU n) RY a0 a1 OQ Qo Qp Ph Qi Qn Qq Ub Uc Ud Qa m2)
  else
   SY (PU n) RY a0 a1 OQ Qo Qp Ph Qi Qn Qq Ub Uc Ud Qa m2 ()
def Xl(n:Nat)(a0:Oz):Option (Bool):=
 (Ya n a0.from_).bind fun v1=>
 (Pf n a0.from_.form).bind fun v2=>
 (PU n a0.to_ [] a0.from_.form.kind a0.from_.form.name a0.from_.form.words a0.from_.form.subs a0.from_.words a0.from_.PA a0.from_.parts a0.to_.kind a0.to_.name a0.to_.words a0.to_.subs v1 v2).bind fun v3=>
 some v3
def Uz(v27:(List Bs))(a0:(List Oz))(k0:Nat)(k2:Nat)(s2:Unit):Option (Ctl (Ctl (OL) (Unit) (Unit)) (Unit) (Unit)):=
 chk (0≤(↑k2:Int)∧k2≤v27.length) <|
 (OE (v27.take k2) (get v27 k2)).bind fun v35=>
 (gd (!v35) (OE ((get a0 k0).from_.words) (get v27 k2)) default).bind fun v36=>
 bif (bif v35 then true else v36)then
  (PX 7 (↑k0:Int)).bind fun v37=>
  some (.ret (.ret v37))
 else
  some (.nxt ())
def UA(n:Nat)(a0:(List Oz))(k0:Nat)(t2:Unit):Option (Ctl (OL) (Unit) (Unit)):=
 (Xl n (get a0 k0)).bind fun v38=>
 bif v38 then
  (PX 15 (↑k0:Int)).bind fun v39=>
  some (.ret v39)
 else
  some (.nxt ())
def UC(n:Nat)(a0:(List Oz))(k0:Nat)(s0:Unit):Option (Ctl (OL) (Unit) (Unit)):=
 (VY n ((get a0 k0).from_)).bind fun v21=>
 bif (!decide (v21.code=0))then
  (PX v21.code (↑k0:Int)).bind fun v22=>
  some (.ret v22)
 else
  (Qu ((get a0 k0).from_) ((get a0 k0).from_.form)).bind fun v23=>
  bif v23 then
   (PX 5 (↑k0:Int)).bind fun v24=>
   some (.ret v24)
  else
   (QV n ((get a0 k0).to_)).bind fun v25=>
   bif (!decide (v25.code=0))then
    (PX v25.code (↑k0:Int)).bind fun v26=>
    some (.ret v26)
   else
    (Pf n ((get a0 k0).to_)).bind fun v27=>
    Pg (Pr (Uz v27 a0 k0) v27.length ()) (UA n a0 k0)
def UD(t0:Unit):Option (OL):=
 some (OL.mk 0 0)
def Uq(n:Nat)(a0:(List Oz)):Option (OL):=
 bif (decide (40<(↑a0.length:Int)))then
  (PX 2 (-1)).bind fun v1=>
  some v1
 else
  Pg (Pr (UC n a0) a0.length ()) (UD)
def TQ(n:Nat)(a0:(List Oz))(a1:Ox):Option (OL):=
 (Uq n a0).bind fun v1=>
 bif (!decide (v1.code=0))then
  some v1
 else
  (QV n a1).bind fun v2=>
  some v2
def Ry(OQ:(List Oz))(Ph:Int)(m1:(List (Bs×Int)))(l2:(List Oy)):Option (Bs×Int):=
 (itoa (wr .i64 (Ph+1))).bind fun v1=>
 chk (RG [63] v1) <|
 some ((ZS [63] v1),(wr .i64 (Ph+1)))
def RR(a1:Ox)(m3:(List (Bs×Bs)))(k0:Nat)(s0:(List Bs)):Option (Ctl (Ox×Int) ((List Bs)) ((List Bs))):=
 bif (assoc (get a1.words k0) m3).isSome then
  Tg (s0++[((assoc (get a1.words k0) m3).getD default)]) fun c14=>
  chk (c14.length*16≤top∧c14.length≤top) <|
  some (.nxt c14)
 else
  Tg (s0++[(get a1.words k0)]) fun c20=>
  chk (c20.length*16≤top∧c20.length≤top) <|
  some (.nxt c20)
def RT(self:(Ox)→((List Oz))→(Int)→((List (Bs×Int)))→((List Oy))→((List (Bs×Bs)))→Option (Ox×Int))(a1:Ox)(OQ:(List Oz))(m1:(List (Bs×Int)))(l2:(List Oy))(c27:(List (Bs×Bs)))(k1:Nat)(s1:Int×(List Ox)):Option (Ctl (Ox×Int) (Int×(List Ox)) (Int×(List Ox))):=
 (self (get a1.subs k1) OQ s1.1 m1 l2 c27).bind fun v36=>
 Tg (s1.2++[v36.1]) fun c38=>
 chk (c38.length*72≤top∧c38.length≤top) <|
 some (.nxt (v36.2,c38))
def RU(a1:Ox)(v26:Bs×Int)(t0:(List Bs))(t1:Int×(List Ox)):Option (Ox×Int):=
 some ((Ox.mk a1.kind v26.1 t0 t1.2),t1.1)
def RV(self:(Ox)→((List Oz))→(Int)→((List (Bs×Int)))→((List Oy))→((List (Bs×Bs)))→Option (Ox×Int))(a1:Ox)(OQ:(List Oz))(m1:(List (Bs×Int)))(l2:(List Oy))(m3:(List (Bs×Bs)))(k2:Nat)(s2:Int×(List Ox)):Option (Ctl (Ox×Int) (Int×(List Ox)) (Int×(List Ox))):=
 (self (get a1.subs k2) OQ s2.1 m1 l2 m3).bind fun v50=>
 Tg (s2.2++[v50.1]) fun c52=>
 chk (c52.length*72≤top∧c52.length≤top) <|
 some (.nxt (v50.2,c52))
def RW(a1:Ox)(t0:(List Bs))(t2:Int×(List Ox)):Option (Ox×Int):=
 some ((Ox.mk a1.kind a1.name t0 t2.2),t2.1)
def RS(self:(Ox)→((List Oz))→(Int)→((List (Bs×Int)))→((List Oy))→((List (Bs×Bs)))→Option (Ox×Int))(a1:Ox)(OQ:(List Oz))(Ph:Int)(m1:(List (Bs×Int)))(l2:(List Oy))(m3:(List (Bs×Bs)))(t0:(List Bs)):Option (Ox×Int):=
 (Pc a1).bind fun v25=>
 bif v25 then
  (Ry OQ Ph m1 l2).bind fun v26=>
  Tg (OU a1.name v26.1 m3) fun c27=>
  Pg (Pr (RT self a1 OQ m1 l2 c27) a1.subs.length (v26.2,[])) (RU a1 v26 t0)
 else
  Pg (Pr (RV self a1 OQ m1 l2 m3) a1.subs.length (Ph,[])) (RW a1 t0)
def PN:Nat→(Ox)→((List Oz))→(Int)→((List (Bs×Int)))→((List Oy))→((List (Bs×Bs)))→Option (Ox×Int)
 |0,_,_,_,_,_,_=>none
 |n+1,a1,OQ,Ph,m1,l2,m3=>
  Pg (Pr (RR a1 m3) a1.words.length []) (RS (PN n) a1 OQ Ph m1 l2 m3)
def SC(a1:Ox)(k0:Nat)(s0:(List Bs)):Option (Ctl (Ox×Int) ((List Bs)) ((List Bs))):=
 bif false then
  Tg (s0++[([]:Bs)]) fun c14=>
  chk (c14.length*16≤top∧c14.length≤top) <|
  some (.nxt c14)
 else
  Tg (s0++[(get a1.words k0)]) fun c20=>
  chk (c20.length*16≤top∧c20.length≤top) <|
  some (.nxt c20)
def SE(n:Nat)(a1:Ox)(OQ:(List Oz))(m1:(List (Bs×Int)))(l2:(List Oy))(c27:(List (Bs×Bs)))(k1:Nat)(s1:Int×(List Ox)):Option (Ctl (Ox×Int) (Int×(List Ox)) (Int×(List Ox))):=
 (PN n (get a1.subs k1) OQ s1.1 m1 l2 c27).bind fun v37=>
 Tg (s1.2++[v37.1]) fun c39=>
 chk (c39.length*72≤top∧c39.length≤top) <|
 some (.nxt (v37.2,c39))
def SF(a1:Ox)(v26:Bs×Int)(t0:(List Bs))(t1:Int×(List Ox)):Option (Ox×Int):=
 some ((Ox.mk a1.kind v26.1 t0 t1.2),t1.1)
def SG(self:(Ox)→((List Oz))→(Int)→((List (Bs×Int)))→((List Oy))→Option (Ox×Int))(a1:Ox)(OQ:(List Oz))(m1:(List (Bs×Int)))(l2:(List Oy))(k2:Nat)(s2:Int×(List Ox)):Option (Ctl (Ox×Int) (Int×(List Ox)) (Int×(List Ox))):=
 (self (get a1.subs k2) OQ s2.1 m1 l2).bind fun v51=>
 Tg (s2.2++[v51.1]) fun c53=>
 chk (c53.length*72≤top∧c53.length≤top) <|
 some (.nxt (v51.2,c53))
def SH(a1:Ox)(t0:(List Bs))(t2:Int×(List Ox)):Option (Ox×Int):=
 some ((Ox.mk a1.kind a1.name t0 t2.2),t2.1)
def SD(self:(Ox)→((List Oz))→(Int)→((List (Bs×Int)))→((List Oy))→Option (Ox×Int))(n:Nat)(a1:Ox)(OQ:(List Oz))(Ph:Int)(m1:(List (Bs×Int)))(l2:(List Oy))(t0:(List Bs)):Option (Ox×Int):=
 (Pc a1).bind fun v25=>
 bif v25 then
  (Ry OQ Ph m1 l2).bind fun v26=>
  Tg (OU a1.name v26.1 []) fun c27=>
  Pg (Pr (SE n a1 OQ m1 l2 c27) a1.subs.length (v26.2,[])) (SF a1 v26 t0)
 else
  Pg (Pr (SG self a1 OQ m1 l2) a1.subs.length (Ph,[])) (SH a1 t0)
def Qz:Nat→(Ox)→((List Oz))→(Int)→((List (Bs×Int)))→((List Oy))→Option (Ox×Int)
 |0,_,_,_,_,_=>none
 |n+1,a1,OQ,Ph,m1,l2=>
  Pg (Pr (SC a1) a1.words.length []) (SD (Qz n) n a1 OQ Ph m1 l2)
def Sf(self:(Ox)→(Bs)→((List Oz))→(Int)→((List (Bs×Int)))→((List Oy))→Option ((List (Bs×Int))))(a2:Bs)(a1:Ox)(OQ:(List Oz))(Ph:Int)(l2:(List Oy))(k0:Nat)(s0:(List (Bs×Int))):Option (Ctl ((List (Bs×Int))) ((List (Bs×Int))) ((List (Bs×Int)))):=
 (itoa (↑k0:Int)).bind fun v6=>
 chk (RG a2 v6) <|
 (self (get a1.subs k0) (ZS a2 v6) OQ Ph s0 l2).bind fun v8=>
 some (.nxt v8)
def Sg(t0:(List (Bs×Int))):Option ((List (Bs×Int))):=
 some t0
def QN:Nat→(Ox)→(Bs)→((List Oz))→(Int)→((List (Bs×Int)))→((List Oy))→Option ((List (Bs×Int)))
 |0,_,_,_,_,_,_=>none
 |n+1,a1,a2,OQ,Ph,m1,l2=>
  Tg (OU a2 (↑m1.length:Int) m1) fun c1=>
  Pg (Pr (Sf (QN n) a2 a1 OQ Ph l2) a1.subs.length c1) (Sg)
def UE(a1:(List Bs))(a0:Ox)(Qi:(List Bs))(k0:Nat)(s0:(List Bs)):Option (Ctl (Ox) ((List Bs)) ((List Bs))):=
 (OE a1 (get a0.words k0)).bind fun v23=>
 bif v23 then
  chk (RG [63] (get a0.words k0)) <|
  Tg (s0++[(ZS [63] (get a0.words k0))]) fun c26=>
  chk (c26.length*16≤top∧c26.length≤top) <|
  some (.nxt c26)
 else
  (OE Qi (get a0.words k0)).bind fun v31=>
  bif v31 then
   chk (RG [46] (get a0.words k0)) <|
   Tg (s0++[(ZS [46] (get a0.words k0))]) fun c34=>
   chk (c34.length*16≤top∧c34.length≤top) <|
   some (.nxt c34)
  else
   Tg (s0++[(get a0.words k0)]) fun c40=>
   chk (c40.length*16≤top∧c40.length≤top) <|
   some (.nxt c40)
def UF(self:(Ox)→((List Bs))→(Int)→(Bs)→((List Bs))→((List Ox))→((List Bs))→((List Bs))→((List Bs))→Option (Ox))(a0:Ox)(j1:Bs×(List Bs))(OQ:Int)(Qo:Bs)(Qp:(List Bs))(Ph:(List Ox))(Qi:(List Bs))(Qn:(List Bs))(Qq:(List Bs))(k2:Nat)(s2:(List Ox)):Option (Ctl (Ox) ((List Ox)) ((List Ox))):=
 (self (get a0.subs k2) j1.2 OQ Qo Qp Ph Qi Qn Qq).bind fun v65=>
 Tg (s2++[v65]) fun c67=>
 chk (c67.length*72≤top∧c67.length≤top) <|
 some (.nxt c67)
def UG(a0:Ox)(j1:Bs×(List Bs))(t0:(List Bs))(t2:(List Ox)):Option (Ox):=
 some (Ox.mk a0.kind j1.1 t0 t2)
def QO(self:(Ox)→((List Bs))→(Int)→(Bs)→((List Bs))→((List Ox))→((List Bs))→((List Bs))→((List Bs))→Option (Ox))(a0:Ox)(OQ:Int)(Qo:Bs)(Qp:(List Bs))(Ph:(List Ox))(Qi:(List Bs))(Qn:(List Bs))(Qq:(List Bs))(t0:(List Bs))(j1:Bs×(List Bs)):Option (Ox):=
 Pg (Pr (UF self a0 j1 OQ Qo Qp Ph Qi Qn Qq) a0.subs.length []) (UG a0 j1 t0)
def UH(self:(Ox)→((List Bs))→(Int)→(Bs)→((List Bs))→((List Ox))→((List Bs))→((List Bs))→((List Bs))→Option (Ox))(a0:Ox)(a1:(List Bs))(OQ:Int)(Qo:Bs)(Qp:(List Bs))(Ph:(List Ox))(Qi:(List Bs))(Qn:(List Bs))(Qq:(List Bs))(t0:(List Bs)):Option (Ox):=
 (Pc a0).bind fun v45=>
 bif v45 then
  (Py a1 []).bind fun v46=>
  Tg (v46++[a0.name]) fun c48=>
  chk (c48.length*16≤top∧c48.length≤top) <|
  chk (RG [63] a0.name) <|
  QO self a0 OQ Qo Qp Ph Qi Qn Qq t0 ((ZS [63] a0.name),c48)
 else
  (Qu (OG.mk (Ox.mk OQ Qo Qp Ph) Qi Qn Qq) a0).bind fun v54=>
  bif v54 then
   chk (RG [43] a0.name) <|
   QO self a0 OQ Qo Qp Ph Qi Qn Qq t0 ((ZS [43] a0.name),a1)
  else
   (gd (decide (a0.kind=2)) (OE Qn a0.name) default).bind fun v56=>
   bif (bif (decide (a0.kind=2))then v56 else false)then
    chk (RG [33] a0.name) <|
    QO self a0 OQ Qo Qp Ph Qi Qn Qq t0 ((ZS [33] a0.name),a1)
   else
    QO self a0 OQ Qo Qp Ph Qi Qn Qq t0 (a0.name,a1)
def Ra:Nat→(Ox)→((List Bs))→(Int)→(Bs)→((List Bs))→((List Ox))→((List Bs))→((List Bs))→((List Bs))→Option (Ox)
 |0,_,_,_,_,_,_,_,_,_=>none
 |n+1,a0,a1,OQ,Qo,Qp,Ph,Qi,Qn,Qq=>
  Pg (Pr (UE a1 a0 Qi) a0.words.length []) (UH (Ra n) a0 a1 OQ Qo Qp Ph Qi Qn Qq)
def UJ(a0:Bs)(a1:(List Bs))(k0:Nat)(s0:(List Bs)):Option (Ctl ((List Bs)) ((List Bs)) ((List Bs))):=
 chk (RG a0 (get a1 k0)) <|
 Tg (s0++[(ZS a0 (get a1 k0))]) fun c10=>
 chk (c10.length*16≤top∧c10.length≤top) <|
 some (.nxt c10)
def UK(t0:(List Bs)):Option ((List Bs)):=
 some t0
def Te(a0:Bs)(a1:(List Bs)):Option ((List Bs)):=
 Pg (Pr (UJ a0 a1) a1.length []) (UK)
def Xm(n:Nat)(a0:OG):Option (OG):=
 (Ra n a0.form [] a0.form.kind a0.form.name a0.form.words a0.form.subs a0.words a0.PA a0.parts).bind fun v1=>
 (Te [46] a0.words).bind fun v2=>
 (Te [33] a0.PA).bind fun v3=>
 (Te [43] a0.parts).bind fun v4=>
 some (OG.mk v1 v2 v3 v4)
def QG(a1:(List Bs))(a0:(List Bs))(k0:Nat)(s0:Unit):Option (Ctl (Bool) (Unit) (Unit)):=
 chk ((↑k0:Int)<(↑a1.length:Int)) <|
 bif (!decide ((get a0 k0)=(get a1 k0)))then
  some (.ret false)
 else
  some (.nxt ())
def QH(t0:Unit):Option (Bool):=
 some true
def PW(a0:(List Bs))(a1:(List Bs)):Option (Bool):=
 bif (!decide ((↑a0.length:Int)=(↑a1.length:Int)))then
  some false
 else
  Pg (Pr (QG a1 a0) a0.length ()) (QH)
def Wm(self:(Ox)→(Ox)→Option (Bool))(a1:Ox)(a0:Ox)(k0:Nat)(s0:Unit):Option (Ctl (Bool) (Unit) (Unit)):=
 chk ((↑k0:Int)<(↑a1.subs.length:Int)) <|
 (self (get a0.subs k0) (get a1.subs k0)).bind fun v4=>
 bif (!v4)then
  some (.ret false)
 else
  some (.nxt ())
def Wn(t0:Unit):Option (Bool):=
 some true
def Uu:Nat→(Ox)→(Ox)→Option (Bool)
 |0,_,_=>none
 |n+1,a0,a1=>
  (gd (!(bif (!decide (a0.kind=a1.kind))then true else(!decide (a0.name=a1.name)))) (PW a0.words a1.words) default).bind fun v1=>
  bif (bif (bif (bif (!decide (a0.kind=a1.kind))then true else(!decide (a0.name=a1.name)))then true else(!v1))then true else(!decide ((↑a0.subs.length:Int)=(↑a1.subs.length:Int))))then
   some false
  else
   chk (a0.subs.length≤9223372036854775807) <|
   Pg (Pr (Wm (Uu n) a1 a0) a0.subs.length ()) (Wn)
def Rx(a1:Bs)(a2:Bs)(m0:(List (Bs×OB))):Option (Bool×(List (Bs×OB))):=
 bif (assoc a1 m0).isSome then
  some ((decide ((((assoc a1 m0).getD default).text)=a2)),m0)
 else
  Tg (OU a1 (OB.mk a1 a2 (Ox.mk 0 [] [] [])) m0) fun c1=>
  some (true,c1)
def Sn(a1:Ox)(a0:OG)(a2:Ox)(k2:Nat)(s2:(List (Bs×OB))):Option (Ctl (Bool×(List (Bs×OB))) ((List (Bs×OB))) ((List (Bs×OB)))):=
 (gd (!(assoc (get a1.words k2) s2).isSome) (OE a0.words (get a1.words k2)) default).bind fun v12=>
 bif (bif (assoc (get a1.words k2) s2).isSome then true else v12)then
  chk ((↑k2:Int)<(↑a2.words.length:Int)) <|
  (Rx (get a1.words k2) (get a2.words k2) s2).bind fun v14=>
  bif (!v14.1)then
   some (.ret (false,v14.2))
  else
   some (.nxt v14.2)
 else
  chk ((↑k2:Int)<(↑a2.words.length:Int)) <|
  bif (!decide ((get a1.words k2)=(get a2.words k2)))then
   some (.ret (false,s2))
  else
   some (.nxt s2)
def Sq(self:(OG)→(Ox)→(Ox)→((List (Bs×OB)))→Option (Bool×(List (Bs×OB))))(a2:Ox)(a0:OG)(a1:Ox)(k3:Nat)(s3:(List (Bs×OB))):Option (Ctl (Bool×(List (Bs×OB))) ((List (Bs×OB))) ((List (Bs×OB)))):=
 chk ((↑k3:Int)<(↑a2.subs.length:Int)) <|
 (self a0 (get a1.subs k3) (get a2.subs k3) s3).bind fun v19=>
 bif (!v19.1)then
  some (.ret (false,v19.2))
 else
  some (.nxt v19.2)
def Sr(t3:(List (Bs×OB))):Option (Bool×(List (Bs×OB))):=
 some (true,t3)
def Sp(self:(OG)→(Ox)→(Ox)→((List (Bs×OB)))→Option (Bool×(List (Bs×OB))))(a2:Ox)(a0:OG)(a1:Ox)(t2:(List (Bs×OB))):Option (Bool×(List (Bs×OB))):=
 Pg (Pr (Sq self a2 a0 a1) a1.subs.length t2) (Sr)
def Qk(self:(OG)→(Ox)→(Ox)→((List (Bs×OB)))→Option (Bool×(List (Bs×OB))))(a1:Ox)(a0:OG)(a2:Ox)(j1:(List (Bs×OB))):Option (Bool×(List (Bs×OB))):=
 Pg (Pr (Sn a1 a0 a2) a1.words.length j1) (Sp self a2 a0 a1)
def PE(self:(OG)→(Ox)→(Ox)→((List (Bs×OB)))→Option (Bool×(List (Bs×OB))))(a1:Ox)(a2:Ox)(m0:(List (Bs×OB)))(a0:OG)(j0:Bool):Option (Bool×(List (Bs×OB))):=
 bif j0 then
  (Rx a1.name a2.name m0).bind fun v7=>
  bif (!v7.1)then
   some (false,v7.2)
  else
   Qk self a1 a0 a2 v7.2
 else
  bif (!decide (a1.name=a2.name))then
   some (false,m0)
  else
   Qk self a1 a0 a2 m0
def Pn:Nat→(OG)→(Ox)→(Ox)→((List (Bs×OB)))→Option (Bool×(List (Bs×OB)))
 |0,_,_,_,_=>none
 |n+1,a0,a1,a2,m0=>
  (Qu a0 a1).bind fun v1=>
  bif v1 then
   bif (assoc a1.name m0).isSome then
    (Uu n (((assoc a1.name m0).getD default).form) a2).bind fun v2=>
    some (v2,m0)
   else
    Tg (OU a1.name (OB.mk a1.name [] a2) m0) fun c3=>
    some (true,c3)
  else
   bif (bif (!decide (a1.kind=a2.kind))then true else(!decide ((↑a1.words.length:Int)=(↑a2.words.length:Int))))then
    some (false,m0)
   else
    (Pc a1).bind fun v5=>
    bif v5 then
     PE (Pn n) a1 a2 m0 a0 v5
    else
     (gd (decide (a1.kind=2)) (OE a0.PA a1.name) default).bind fun v6=>
     PE (Pn n) a1 a2 m0 a0 (bif (decide (a1.kind=2))then v6 else false)
def Rn(a1:Bs)(l0:(List Bs))(k0:Nat)(s0:Unit):Option (Ctl (Int) (Unit) (Unit)):=
 bif (decide (a1=(get l0 k0)))then
  some (.ret (↑k0:Int))
 else
  some (.nxt ())
def Ro(t0:Unit):Option (Int):=
 some (-1)
def RZ(a1:Bs)(l0:(List Bs)):Option (Int):=
 chk (l0.length≤9223372036854775807) <|
 Pg (Pr (Rn a1 l0) l0.length ()) (Ro)
def Rp(a1:Bs)(l0:(List Bs)):Option (Bool):=
 (RZ a1 l0).bind fun v1=>
 some (decide (0≤v1))
def Xn(self:(Ox)→Option (Ox))(a0:Ox)(k0:Nat)(s0:(List Ox)):Option (Ctl (Ox) ((List Ox)) ((List Ox))):=
 (self (get a0.subs k0)).bind fun v9=>
 Tg (s0++[v9]) fun c11=>
 chk (c11.length*72≤top∧c11.length≤top) <|
 some (.nxt c11)
def Xo(a0:Ox)(v1:(List Bs))(t0:(List Ox)):Option (Ox):=
 some (Ox.mk a0.kind a0.name v1 t0)
def Wu:Nat→(Ox)→Option (Ox)
 |0,_=>none
 |n+1,a0=>
  (SV a0.words).bind fun v1=>
  Pg (Pr (Xn (Wu n) a0) a0.subs.length []) (Xo a0 v1)
def WH(v3:(List Bs))(v2:Bool×(List (Bs×OB)))(k0:Nat)(s0:(List Bs)):Option (Ctl ((List OB)×Bool) ((List Bs)) ((List Bs))):=
 Tg (s0++[((assoc (get v3 k0) v2.2).getD default).text]) fun c11=>
 chk (c11.length*16≤top∧c11.length≤top) <|
 some (.nxt c11)
def WI(n:Nat)(v1:OG)(v19:(List Bs))(v2:Bool×(List (Bs×OB)))(t0:(List Bs))(k1:Nat)(s1:(List OB)):Option (Ctl ((List OB)×Bool) ((List OB)) ((List OB))):=
 (OE v1.words (get v19 k1)).bind fun v38=>
 (gd v38 (Rp (((assoc (get v19 k1) v2.2).getD default).text) t0) (default:Bool)).bind fun v39=>
 bif (bif v38 then v39 else false)then
  some (.ret ([],false))
 else
  chk (0≤1∧1≤(get v19 k1).length) <|
  (OE v1.parts (get v19 k1)).bind fun v42=>
  bif v42 then
   (Wu n (((assoc (get v19 k1) v2.2).getD default).form)).bind fun v43=>
   Tg (s1++[(OB.mk ((get v19 k1).drop 1) (((assoc (get v19 k1) v2.2).getD default).text) v43)]) fun c45=>
   chk (c45.length*104≤top∧c45.length≤top) <|
   some (.nxt c45)
  else
   Tg (s1++[(OB.mk ((get v19 k1).drop 1) (((assoc (get v19 k1) v2.2).getD default).text) (((assoc (get v19 k1) v2.2).getD default).form))]) fun c51=>
   chk (c51.length*104≤top∧c51.length≤top) <|
   some (.nxt c51)
def WJ(t1:(List OB)):Option ((List OB)×Bool):=
 some (t1,true)
def WK(n:Nat)(v1:OG)(v2:Bool×(List (Bs×OB)))(t0:(List Bs)):Option ((List OB)×Bool):=
 (Ts v1).bind fun v16=>
 (Pf n v1.form).bind fun v17=>
 (d7x [v16,v17]).bind fun v19=>
 Pg (Pr (WI n v1 v19 v2 t0) v19.length []) (WJ)
def YK(n:Nat)(a0:OG)(a1:Ox):Option ((List OB)×Bool):=
 (Xm n a0).bind fun v1=>
 (Pn n v1 v1.form a1 []).bind fun v2=>
 bif (!v2.1)then
  some ([],false)
 else
  (Pf n v1.form).bind fun v3=>
  Pg (Pr (WH v3 v2) v3.length []) (WK n v1 v2)
def Vv(a0:(List OB))(a1:Bs)(k0:Nat)(s0:Unit):Option (Ctl (Bs) (Unit) (Unit)):=
 bif (decide (((get a0 k0).name)=a1))then
  some (.ret ((get a0 k0).text))
 else
  some (.nxt ())
def Vw(a1:Bs)(t0:Unit):Option (Bs):=
 some a1
def TH(a0:(List OB))(a1:Bs):Option (Bs):=
 Pg (Pr (Vv a0 a1) a0.length ()) (Vw a1)
def Wa(self:(Ox)→(Bs)→((List (Bs×Bs)))→(Int)→(Bs)→((List Bs))→((List Ox))→((List Bs))→((List Bs))→((List Bs))→Option ((List (Bs×Bs))))(a1:Bs)(a0:Ox)(d5u:Int)(d5v:Bs)(d5w:(List Bs))(d5x:(List Ox))(d5y:(List Bs))(d5z:(List Bs))(d5A:(List Bs))(k1:Nat)(s1:(List (Bs×Bs))):Option (Ctl ((List (Bs×Bs))) ((List (Bs×Bs))) ((List (Bs×Bs)))):=
 (itoa (↑k1:Int)).bind fun v7=>
 chk (RG a1 v7) <|
 (self (get a0.subs k1) (ZS a1 v7) s1 d5u d5v d5w d5x d5y d5z d5A).bind fun v9=>
 some (.nxt v9)
def Wb(t1:(List (Bs×Bs))):Option ((List (Bs×Bs))):=
 some t1
def TS(self:(Ox)→(Bs)→((List (Bs×Bs)))→(Int)→(Bs)→((List Bs))→((List Ox))→((List Bs))→((List Bs))→((List Bs))→Option ((List (Bs×Bs))))(a1:Bs)(a0:Ox)(d5u:Int)(d5v:Bs)(d5w:(List Bs))(d5x:(List Ox))(d5y:(List Bs))(d5z:(List Bs))(d5A:(List Bs))(j0:(List (Bs×Bs))):Option ((List (Bs×Bs))):=
 Pg (Pr (Wa self a1 a0 d5u d5v d5w d5x d5y d5z d5A) a0.subs.length j0) (Wb)
def Sb:Nat→(Ox)→(Bs)→((List (Bs×Bs)))→(Int)→(Bs)→((List Bs))→((List Ox))→((List Bs))→((List Bs))→((List Bs))→Option ((List (Bs×Bs)))
 |0,_,_,_,_,_,_,_,_,_,_=>none
 |n+1,a0,a1,m1,d5u,d5v,d5w,d5x,d5y,d5z,d5A=>
  (gd (!(assoc a0.name m1).isSome) (Qu (OG.mk (Ox.mk d5u d5v d5w d5x) d5y d5z d5A) a0) default).bind fun v1=>
  bif (bif (!(assoc a0.name m1).isSome)then v1 else false)then
   Tg (OU a0.name a1 m1) fun c2=>
   TS (Sb n) a1 a0 d5u d5v d5w d5x d5y d5z d5A c2
  else
   TS (Sb n) a1 a0 d5u d5v d5w d5x d5y d5z d5A m1
def YL(n:Nat)(a0:OG):Option ((List (Bs×Bs))):=
 (Sb n a0.form [] [] a0.form.kind a0.form.name a0.form.words a0.form.subs a0.words a0.PA a0.parts).bind fun v1=>
 some v1
def Vp(a0:(List OA))(k0:Nat)(s0:Int×Int):Option (Ctl (Int×Int×Bool) (Int×Int) (Int×Int)):=
 some (.nxt ((wr .i64 (s0.1+((get a0 k0).nodes))),(max s0.2 ((get a0 k0).depth))))
def Vq(t0:Int×Int):Option (Int×Int×Bool):=
 some (t0.1,(wr .i64 (t0.2+1)),(bif (decide (t0.1≤200))then(decide (t0.2<40))else false))
def UU(a0:(List OA)):Option (Int×Int×Bool):=
 Pg (Pr (Vp a0) a0.length (1,0)) (Vq)
def Vx(OO:(Ox)→(Bs)→((List Oz))→(Int)→((List (Bs×Int)))→((List Oy))→Option (OA×Bool×Int×(List Oy)))(RY:(List OB))(RF:Int)(Sv:Int)(Yv:Int)(a0:Ox)(TT:Bs)(m13:(List (Bs×Bs)))(ZK:(List Oz))(m9:(List (Bs×Int)))(k0:Nat)(s0:Int×Int×Bs×(List Bs)×(List Ox)×Int×Int×(List Oy)×Bool):Option (Ctl (OA×Bool×Int×(List Oy)×(List (Bs×OA))) (Int×Int×Bs×(List Bs)×(List Ox)×Int×Int×(List Oy)×Bool) (Int×Int×Bs×(List Bs)×(List Ox)×Int×Int×(List Oy)×Bool)):=
 bif (decide (((get ((RY.drop ((wr .i64 (RF+Sv)).toNat)).take ((wr .i64 ((wr .i64 (RF+Sv))+Yv)).toNat-(wr .i64 (RF+Sv)).toNat)) k0).name)=a0.name))then
  chk (RG TT ((assoc a0.name m13).getD default)) <|
  (OO ((get ((RY.drop ((wr .i64 (RF+Sv)).toNat)).take ((wr .i64 ((wr .i64 (RF+Sv))+Yv)).toNat-(wr .i64 (RF+Sv)).toNat)) k0).form) (ZS TT ((assoc a0.name m13).getD default)) ZK s0.1 m9 s0.2.2.2.2.2.2.2.1).bind fun v9=>
  some (.nxt (v9.2.2.1,v9.1.form.kind,v9.1.form.name,v9.1.form.words,v9.1.form.subs,v9.1.nodes,v9.1.depth,v9.2.2.2,v9.2.1))
 else
  some (.nxt (s0.1,s0.2.1,s0.2.2.1,s0.2.2.2.1,s0.2.2.2.2.1,s0.2.2.2.2.2.1,s0.2.2.2.2.2.2.1,s0.2.2.2.2.2.2.2.1,s0.2.2.2.2.2.2.2.2))
def Vy(a0:Ox)(m2:(List (Bs×OA)))(t0:Int×Int×Bs×(List Bs)×(List Ox)×Int×Int×(List Oy)×Bool):Option (OA×Bool×Int×(List Oy)×(List (Bs×OA))):=
 Tg (OU a0.name (OA.mk (Ox.mk t0.2.1 t0.2.2.1 t0.2.2.2.1 t0.2.2.2.2.1) t0.2.2.2.2.2.1 t0.2.2.2.2.2.2.1) m2) fun c10=>
 some ((OA.mk (Ox.mk t0.2.1 t0.2.2.1 t0.2.2.2.1 t0.2.2.2.2.1) t0.2.2.2.2.2.1 t0.2.2.2.2.2.2.1),t0.2.2.2.2.2.2.2.2,t0.1,t0.2.2.2.2.2.2.2.1,c10)
def Vz(a1:(List Bs))(a0:Ox)(m15:(List (Bs×Bs)))(RF:Int)(RY:(List OB))(k1:Nat)(s1:(List Bs)):Option (Ctl (OA×Bool×Int×(List Oy)×(List (Bs×OA))) ((List Bs)) ((List Bs))):=
 (OE a1 (get a0.words k1)).bind fun v28=>
 bif v28 then
  Tg (s1++[((assoc (get a0.words k1) m15).getD default)]) fun c30=>
  chk (c30.length*16≤top∧c30.length≤top) <|
  some (.nxt c30)
 else
  chk (0≤RF∧RF.toNat≤RY.length) <|
  (TH (RY.take RF.toNat) (get a0.words k1)).bind fun v37=>
  Tg (s1++[v37]) fun c39=>
  chk (c39.length*16≤top∧c39.length≤top) <|
  some (.nxt c39)
def VA(self:(Ox)→((List Bs))→(Int)→(Bs)→((List Bs))→((List Ox))→((List Bs))→((List Bs))→((List Bs))→(Int)→(Bs)→((List Bs))→((List Ox))→((List (Bs×OA)))→((List OB))→(Int)→(Int)→(Int)→((List Oz))→(Int)→((List (Bs×Int)))→((List Oy))→(Bs)→((List (Bs×Bs)))→((List (Bs×Bs)))→Option (OA×Bool×Int×(List Oy)×(List (Bs×OA))))(a0:Ox)(j2:Bs×(List Bs))(OQ:Int)(Qo:Bs)(Qp:(List Bs))(Ph:(List Ox))(Qi:(List Bs))(Qn:(List Bs))(Qq:(List Bs))(Ub:Int)(Uc:Bs)(Ud:(List Bs))(Qa:(List Ox))(RY:(List OB))(RF:Int)(Sv:Int)(Yv:Int)(ZK:(List Oz))(m9:(List (Bs×Int)))(TT:Bs)(m13:(List (Bs×Bs)))(m15:(List (Bs×Bs)))(k3:Nat)(s3:Int×(List Oy)×(List (Bs×OA))×(List OA)×(List Ox)):Option (Ctl (OA×Bool×Int×(List Oy)×(List (Bs×OA))) (Int×(List Oy)×(List (Bs×OA))×(List OA)×(List Ox)) (Int×(List Oy)×(List (Bs×OA))×(List OA)×(List Ox))):=
 (self (get a0.subs k3) j2.2 OQ Qo Qp Ph Qi Qn Qq Ub Uc Ud Qa s3.2.2.1 RY RF Sv Yv ZK s3.1 m9 s3.2.1 TT m13 m15).bind fun v70=>
 bif (!v70.2.1)then
  some (.ret ((OA.mk (Ox.mk 0 [] [] []) 0 0),false,v70.2.2.1,v70.2.2.2.1,v70.2.2.2.2))
 else
  Tg (s3.2.2.2.1++[v70.1]) fun c72=>
  chk (c72.length*88≤top∧c72.length≤top) <|
  Tg (s3.2.2.2.2++[v70.1.form]) fun c78=>
  chk (c78.length*72≤top∧c78.length≤top) <|
  some (.nxt (v70.2.2.1,v70.2.2.2.1,v70.2.2.2.2,c72,c78))
def VB(a0:Ox)(j2:Bs×(List Bs))(t1:(List Bs))(t3:Int×(List Oy)×(List (Bs×OA))×(List OA)×(List Ox)):Option (OA×Bool×Int×(List Oy)×(List (Bs×OA))):=
 (UU t3.2.2.2.1).bind fun v83=>
 some ((OA.mk (Ox.mk a0.kind j2.1 t1 t3.2.2.2.2) v83.1 v83.2.1),v83.2.2,t3.1,t3.2.1,t3.2.2.1)
def RX(self:(Ox)→((List Bs))→(Int)→(Bs)→((List Bs))→((List Ox))→((List Bs))→((List Bs))→((List Bs))→(Int)→(Bs)→((List Bs))→((List Ox))→((List (Bs×OA)))→((List OB))→(Int)→(Int)→(Int)→((List Oz))→(Int)→((List (Bs×Int)))→((List Oy))→(Bs)→((List (Bs×Bs)))→((List (Bs×Bs)))→Option (OA×Bool×Int×(List Oy)×(List (Bs×OA))))(a0:Ox)(OQ:Int)(Qo:Bs)(Qp:(List Bs))(Ph:(List Ox))(Qi:(List Bs))(Qn:(List Bs))(Qq:(List Bs))(Ub:Int)(Uc:Bs)(Ud:(List Bs))(Qa:(List Ox))(RY:(List OB))(RF:Int)(Sv:Int)(Yv:Int)(ZK:(List Oz))(m9:(List (Bs×Int)))(TT:Bs)(m13:(List (Bs×Bs)))(m15:(List (Bs×Bs)))(d2c:Int)(l10:(List Oy))(m2:(List (Bs×OA)))(t1:(List Bs))(j2:Bs×(List Bs)):Option (OA×Bool×Int×(List Oy)×(List (Bs×OA))):=
 Pg (Pr (VA self a0 j2 OQ Qo Qp Ph Qi Qn Qq Ub Uc Ud Qa RY RF Sv Yv ZK m9 TT m13 m15) a0.subs.length (d2c,l10,m2,[],[])) (VB a0 j2 t1)
def VD(self:(Ox)→((List Bs))→(Int)→(Bs)→((List Bs))→((List Ox))→((List Bs))→((List Bs))→((List Bs))→(Int)→(Bs)→((List Bs))→((List Ox))→((List (Bs×OA)))→((List OB))→(Int)→(Int)→(Int)→((List Oz))→(Int)→((List (Bs×Int)))→((List Oy))→(Bs)→((List (Bs×Bs)))→((List (Bs×Bs)))→Option (OA×Bool×Int×(List Oy)×(List (Bs×OA))))(a0:Ox)(a1:(List Bs))(OQ:Int)(Qo:Bs)(Qp:(List Bs))(Ph:(List Ox))(Qi:(List Bs))(Qn:(List Bs))(Qq:(List Bs))(Ub:Int)(Uc:Bs)(Ud:(List Bs))(Qa:(List Ox))(RY:(List OB))(RF:Int)(Sv:Int)(Yv:Int)(ZK:(List Oz))(m9:(List (Bs×Int)))(TT:Bs)(m13:(List (Bs×Bs)))(m15:(List (Bs×Bs)))(d2c:Int)(l10:(List Oy))(m2:(List (Bs×OA)))(t1:(List Bs)):Option (OA×Bool×Int×(List Oy)×(List (Bs×OA))):=
 (Pc a0).bind fun v44=>
 bif v44 then
  (Py a1 []).bind fun v45=>
  Tg (v45++[a0.name]) fun c47=>
  chk (c47.length*16≤top∧c47.length≤top) <|
  RX self a0 OQ Qo Qp Ph Qi Qn Qq Ub Uc Ud Qa RY RF Sv Yv ZK m9 TT m13 m15 d2c l10 m2 t1 (((assoc a0.name m15).getD default),c47)
 else
  bif (decide (a0.kind=2))then
   chk (0≤RF∧0≤(wr .i64 (RF+Sv))∧RF.toNat≤(wr .i64 (RF+Sv)).toNat∧(wr .i64 (RF+Sv)).toNat≤RY.length) <|
   (TH ((RY.drop RF.toNat).take ((wr .i64 (RF+Sv)).toNat-RF.toNat)) a0.name).bind fun v56=>
   RX self a0 OQ Qo Qp Ph Qi Qn Qq Ub Uc Ud Qa RY RF Sv Yv ZK m9 TT m13 m15 d2c l10 m2 t1 (v56,a1)
  else
   RX self a0 OQ Qo Qp Ph Qi Qn Qq Ub Uc Ud Qa RY RF Sv Yv ZK m9 TT m13 m15 d2c l10 m2 t1 (a0.name,a1)
def RA(OO:(Ox)→(Bs)→((List Oz))→(Int)→((List (Bs×Int)))→((List Oy))→Option (OA×Bool×Int×(List Oy))):Nat→(Ox)→((List Bs))→(Int)→(Bs)→((List Bs))→((List Ox))→((List Bs))→((List Bs))→((List Bs))→(Int)→(Bs)→((List Bs))→((List Ox))→((List (Bs×OA)))→((List OB))→(Int)→(Int)→(Int)→((List Oz))→(Int)→((List (Bs×Int)))→((List Oy))→(Bs)→((List (Bs×Bs)))→((List (Bs×Bs)))→Option (OA×Bool×Int×(List Oy)×(List (Bs×OA)))
 |0,_,_,_,_,_,_,_,_,_,_,_,_,_,_,_,_,_,_,_,_,_,_,_,_,_=>none
 |n+1,a0,a1,OQ,Qo,Qp,Ph,Qi,Qn,Qq,Ub,Uc,Ud,Qa,m2,RY,RF,Sv,Yv,ZK,d2c,m9,l10,TT,m13,m15=>
  (Qu (OG.mk (Ox.mk OQ Qo Qp Ph) Qi Qn Qq) a0).bind fun v1=>
  bif v1 then
   bif (assoc a0.name m2).isSome then
    some (((assoc a0.name m2).getD default),true,d2c,l10,m2)
   else
    chk (0≤(wr .i64 (RF+Sv))∧0≤(wr .i64 ((wr .i64 (RF+Sv))+Yv))∧(wr .i64 (RF+Sv)).toNat≤(wr .i64 ((wr .i64 (RF+Sv))+Yv)).toNat∧(wr .i64 ((wr .i64 (RF+Sv))+Yv)).toNat≤RY.length) <|
    Pg (Pr (Vx OO RY RF Sv Yv a0 TT m13 ZK m9) (((RY.drop ((wr .i64 (RF+Sv)).toNat)).take ((wr .i64 ((wr .i64 (RF+Sv))+Yv)).toNat-(wr .i64 (RF+Sv)).toNat)).length) (d2c,((assoc a0.name m2).getD default).form.kind,((assoc a0.name m2).getD default).form.name,((assoc a0.name m2).getD default).form.words,((assoc a0.name m2).getD default).form.subs,((assoc a0.name m2).getD default).nodes,((assoc a0.name m2).getD default).depth,l10,(assoc a0.name m2).isSome)) (Vy a0 m2)
  else
   Pg (Pr (Vz a1 a0 m15 RF RY) a0.words.length []) (VD (RA OO n) a0 a1 OQ Qo Qp Ph Qi Qn Qq Ub Uc Ud Qa RY RF Sv Yv ZK m9 TT m13 m15 d2c l10 m2)
def Wc(a1:Oz)(a2:(List OB))(v1:(List Bs))(OQ:(List Oz))(m1:(List (Bs×Int)))(l2:(List Oy))(k0:Nat)(s0:Int×(List (Bs×Bs))):Option (Ctl (OA×Bool×Int×(List Oy)) (Int×(List (Bs×Bs))) (Int×(List (Bs×Bs)))):=
 chk (0≤(wr .i64 ((wr .i64 ((↑a1.from_.words.length:Int)+(↑a1.from_.PA.length:Int)))+(↑a1.from_.parts.length:Int)))∧(wr .i64 ((wr .i64 ((↑a1.from_.words.length:Int)+(↑a1.from_.PA.length:Int)))+(↑a1.from_.parts.length:Int))).toNat≤a2.length) <|
 (TH (a2.drop ((wr .i64 ((wr .i64 ((↑a1.from_.words.length:Int)+(↑a1.from_.PA.length:Int)))+(↑a1.from_.parts.length:Int))).toNat)) (get v1 k0)).bind fun v13=>
 Tg (OU (get v1 k0) v13 s0.2) fun c14=>
 bif (decide (((assoc (get v1 k0) c14).getD default)=(get v1 k0)))then
  (Ry OQ s0.1 m1 l2).bind fun v16=>
  Tg (OU (get v1 k0) v16.1 c14) fun c17=>
  some (.nxt (v16.2,c17))
 else
  some (.nxt (s0.1,c14))
def Wd(OO:(Ox)→(Bs)→((List Oz))→(Int)→((List (Bs×Int)))→((List Oy))→Option (OA×Bool×Int×(List Oy)))(n:Nat)(a1:Oz)(a2:(List OB))(OQ:(List Oz))(m1:(List (Bs×Int)))(l2:(List Oy))(a3:Bs)(t0:Int×(List (Bs×Bs))):Option (OA×Bool×Int×(List Oy)):=
 (YL n a1.from_).bind fun v19=>
 (RA OO n a1.to_ [] a1.from_.form.kind a1.from_.form.name a1.from_.form.words a1.from_.form.subs a1.from_.words a1.from_.PA a1.from_.parts a1.to_.kind a1.to_.name a1.to_.words a1.to_.subs [] a2 (↑a1.from_.words.length:Int) (↑a1.from_.PA.length:Int) (↑a1.from_.parts.length:Int) OQ t0.1 m1 l2 a3 v19 t0.2).bind fun v20=>
 some (v20.1,v20.2.1,v20.2.2.1,v20.2.2.2.1)
def Yb(OO:(Ox)→(Bs)→((List Oz))→(Int)→((List (Bs×Int)))→((List Oy))→Option (OA×Bool×Int×(List Oy)))(n:Nat)(a1:Oz)(a2:(List OB))(a3:Bs)(OQ:(List Oz))(Ph:Int)(m1:(List (Bs×Int)))(l2:(List Oy)):Option (OA×Bool×Int×(List Oy)):=
 (Pf n a1.to_).bind fun v1=>
 Pg (Pr (Wc a1 a2 v1 OQ m1 l2) v1.length (Ph,[])) (Wd OO n a1 a2 OQ m1 l2 a3)
def UL(self:(Ox)→(Bs)→((List Oz))→(Int)→((List (Bs×Int)))→((List Oy))→Option (OA×Bool×Int×(List Oy)))(n:Nat)(OQ:(List Oz))(a1:Ox)(l2:(List Oy))(a2:Bs)(m1:(List (Bs×Int)))(Ph:Int)(k0:Nat)(s0:Unit):Option (Ctl (OA×Bool×Int×(List Oy)) (Unit) (Unit)):=
 (YK n ((get OQ k0).from_) a1).bind fun v1=>
 bif (!v1.2)then
  some (.nxt ())
 else
  Tg (l2++[(Oy.mk ((assoc a2 m1).getD default) (↑k0:Int))]) fun c3=>
  chk (c3.length*16≤top∧c3.length≤top) <|
  (Yb self n (get OQ k0) v1.1 a2 OQ Ph m1 c3).bind fun v9=>
  some (.ret (v9.1,v9.2.1,v9.2.2.1,v9.2.2.2))
def SJ(self:(Ox)→(Bs)→((List Oz))→(Int)→((List (Bs×Int)))→((List Oy))→Option (OA×Bool×Int×(List Oy)))(a2:Bs)(a1:Ox)(OQ:(List Oz))(m1:(List (Bs×Int)))(k1:Nat)(s1:Int×(List Oy)×(List OA)×(List Ox)):Option (Ctl (OA×Bool×Int×(List Oy)) (Int×(List Oy)×(List OA)×(List Ox)) (Int×(List Oy)×(List OA)×(List Ox))):=
 (itoa (↑k1:Int)).bind fun v25=>
 chk (RG a2 v25) <|
 (self (get a1.subs k1) (ZS a2 v25) OQ s1.1 m1 s1.2.1).bind fun v27=>
 bif (!v27.2.1)then
  some (.ret ((OA.mk (Ox.mk 0 [] [] []) 0 0),false,v27.2.2.1,v27.2.2.2))
 else
  Tg (s1.2.2.1++[v27.1]) fun c29=>
  chk (c29.length*88≤top∧c29.length≤top) <|
  Tg (s1.2.2.2++[v27.1.form]) fun c35=>
  chk (c35.length*72≤top∧c35.length≤top) <|
  some (.nxt (v27.2.2.1,v27.2.2.2,c29,c35))
def SK(a1:Ox)(t1:Int×(List Oy)×(List OA)×(List Ox)):Option (OA×Bool×Int×(List Oy)):=
 (UU t1.2.2.1).bind fun v40=>
 some ((OA.mk (Ox.mk a1.kind a1.name a1.words t1.2.2.2) v40.1 v40.2.1),v40.2.2,t1.1,t1.2.1)
def SI(self:(Ox)→(Bs)→((List Oz))→(Int)→((List (Bs×Int)))→((List Oy))→Option (OA×Bool×Int×(List Oy)))(a2:Bs)(a1:Ox)(OQ:(List Oz))(m1:(List (Bs×Int)))(Ph:Int)(l2:(List Oy))(t0:Unit):Option (OA×Bool×Int×(List Oy)):=
 Pg (Pr (SJ self a2 a1 OQ m1) a1.subs.length (Ph,l2,[],[])) (SK a1)
def PB:Nat→(Ox)→(Bs)→((List Oz))→(Int)→((List (Bs×Int)))→((List Oy))→Option (OA×Bool×Int×(List Oy))
 |0,_,_,_,_,_,_=>none
 |n+1,a1,a2,OQ,Ph,m1,l2=>
  Pg (Pr (UL (PB n) n OQ a1 l2 a2 m1 Ph) OQ.length ()) (SI (PB n) a2 a1 OQ m1 Ph l2)
def OY(l0:(List Oy)):Option ((List Oy)):=
 chk (l0.length<4611686018427387904∧i9D l0) (some (Yp i8H l0))
def Ta(RE:(List Bs))(s0:Int):Option (Ctl (Bs×Int) (Int) (Unit)):=
 (itoa s0).bind fun v4=>
 chk (RG [118] v4) <|
 (OE RE (ZS [118] v4)).bind fun v6=>
 bif (!v6)then
  some (.ret ((ZS [118] v4),(wr .i64 (s0+1))))
 else
  some (.nxt (wr .i64 (s0+1)))
def WL(t0:Unit):Option (Bs×Int):=
 none
def Vn(n:Nat)(OQ:Int)(RE:(List Bs)):Option (Bs×Int):=
 Pg (TL (Ta RE) n OQ) (WL)
def QM(a1:(List OJ))(a0:Ox)(k0:Nat)(s2:Int):Option (Ctl (Ctl (Ox×Int) ((List Bs)) ((List Bs))) (Int) (Bs)):=
 bif (decide (0≤s2))then
  chk (0≤s2∧s2<(↑a1.length:Int)) <|
  bif (decide (((get a1 s2.toNat).from_)=(get a0.words k0)))then
   some (.brk ((get a1 s2.toNat).to_))
  else
   some (.nxt (wr .i64 (s2-1)))
 else
  some (.brk (get a0.words k0))
def Si(s0:(List Bs))(t2:Bs):Option (Ctl (Ox×Int) ((List Bs)) ((List Bs))):=
 Tg (s0++[t2]) fun c16=>
 chk (c16.length*16≤top∧c16.length≤top) <|
 some (.nxt c16)
def Sh(n:Nat)(a1:(List OJ))(a0:Ox)(k0:Nat)(s0:(List Bs)):Option (Ctl (Ox×Int) ((List Bs)) ((List Bs))):=
 Pg (TL (QM a1 a0 k0) n (wr .i64 ((↑a1.length:Int)-1))) (Si s0)
def Sj(self:(Ox)→((List OJ))→(Int)→((List Bs))→Option (Ox×Int))(a0:Ox)(j3:Int×Bs×(List OJ))(RE:(List Bs))(k4:Nat)(s4:Int×(List Ox)):Option (Ctl (Ox×Int) (Int×(List Ox)) (Int×(List Ox))):=
 (self (get a0.subs k4) j3.2.2 s4.1 RE).bind fun v38=>
 Tg (s4.2++[v38.1]) fun c40=>
 chk (c40.length*72≤top∧c40.length≤top) <|
 some (.nxt (v38.2,c40))
def Sk(a0:Ox)(j3:Int×Bs×(List OJ))(t0:(List Bs))(t4:Int×(List Ox)):Option (Ox×Int):=
 some ((Ox.mk a0.kind j3.2.1 t0 t4.2),t4.1)
def Qj(self:(Ox)→((List OJ))→(Int)→((List Bs))→Option (Ox×Int))(a0:Ox)(RE:(List Bs))(t0:(List Bs))(j3:Int×Bs×(List OJ)):Option (Ox×Int):=
 Pg (Pr (Sj self a0 j3 RE) a0.subs.length (j3.1,[])) (Sk a0 j3 t0)
def Sl(self:(Ox)→((List OJ))→(Int)→((List Bs))→Option (Ox×Int))(n:Nat)(a0:Ox)(OQ:Int)(RE:(List Bs))(a1:(List OJ))(t0:(List Bs)):Option (Ox×Int):=
 (Pc a0).bind fun v21=>
 bif v21 then
  (Vn n OQ RE).bind fun v22=>
  chk (0≤(↑a1.length:Int)∧0≤(↑a1.length:Int)) <|
  Tg (a1++[(OJ.mk a0.name v22.1)]) fun c26=>
  chk (c26.length*32≤top∧c26.length≤top) <|
  Qj self a0 RE t0 (v22.2,v22.1,c26)
 else
  Qj self a0 RE t0 (OQ,a0.name,a1)
def PD:Nat→(Ox)→((List OJ))→(Int)→((List Bs))→Option (Ox×Int)
 |0,_,_,_,_=>none
 |n+1,a0,a1,OQ,RE=>
  Pg (Pr (Sh n a1 a0) a0.words.length []) (Sl (PD n) n a0 OQ RE a1)
def Wf(v1:(List Bs))(a1:(List OJ))(k0:Nat)(k1:Nat)(s1:Unit):Option (Ctl (Ctl (Ox) (Unit) (Unit)) (Unit) (Unit)):=
 bif (decide ((get v1 k1)=((get a1 k0).from_)))then
  none
 else
  some (.nxt ())
def Wg(t1:Unit):Option (Ctl (Ox) (Unit) (Unit)):=
 some (.nxt ())
def Wh(v1:(List Bs))(a1:(List OJ))(k0:Nat)(s0:Unit):Option (Ctl (Ox) (Unit) (Unit)):=
 Pg (Pr (Wf v1 a1 k0) v1.length ()) (Wg)
def Sm(n:Nat)(a0:Ox)(a1:(List OJ))(v1:(List Bs))(t0:Unit):Option (Ox):=
 (PD n a0 a1 0 v1).bind fun v2=>
 some v2.1
def Ug(n:Nat)(a0:Ox)(a1:(List OJ)):Option (Ox):=
 (Qy n a0).bind fun v1=>
 Pg (Pr (Wh v1 a1) a1.length ()) (Sm n a0 a1 v1)
def Sy(n:Nat)(a0:Ox):Option (Ox):=
 (Ug n a0 []).bind fun v1=>
 some v1
def VX(n:Nat)(a0:(List Oz))(a1:Ox):Option (Ox×(List Oy)×Bool):=
 (Qz n a1 a0 0 [] []).bind fun v1=>
 (QN n v1.1 [] a0 v1.2 [] []).bind fun v2=>
 (PB n v1.1 [] a0 v1.2 v2 []).bind fun v3=>
 bif (!v3.2.1)then
  some ((Ox.mk 0 [] [] []),[],false)
 else
  (OY v3.2.2.2).bind fun v4=>
  (Sy n v3.1.form).bind fun v6=>
  some (v6,v4,true)
def SL(n:Nat)(a0:(List Oz))(a1:Ox):Option (Ox×OL):=
 (TQ n a0 a1).bind fun v1=>
 bif (!decide (v1.code=0))then
  some ((Ox.mk 0 [] [] []),v1)
 else
  (VX n a0 a1).bind fun v2=>
  bif (!v2.2.2)then
   (PX 1 0).bind fun v3=>
   some ((Ox.mk 0 [] [] []),v3)
  else
   some (v2.1,(OL.mk 0 0))
def Vr(n:Nat)(a0:(List Oz))(a1:Ox):Option ((List Oy)×OL):=
 (TQ n a0 a1).bind fun v1=>
 bif (!decide (v1.code=0))then
  some ([],v1)
 else
  (VX n a0 a1).bind fun v2=>
  bif (!v2.2.2)then
   (PX 1 0).bind fun v3=>
   some ([],v3)
  else
   some (v2.2.1,(OL.mk 0 0))
def PO(a0:(List Bs))(a1:(List Bs))(s0:Int):Option (Ctl (Bool) (Int) (Unit)):=
 bif (decide (s0<(↑a0.length:Int)))then
  chk (0≤s0∧s0<(↑a0.length:Int)) <|
  chk (s0<(↑a1.length:Int)) <|
  bif (!decide ((get a0 s0.toNat)=(get a1 s0.toNat)))then
   some (.ret false)
  else
   some (.nxt (wr .i64 (s0+1)))
 else
  some (.brk ())
def RB(t0:Unit):Option (Bool):=
 some true
def Ql(n:Nat)(a0:(List Bs))(a1:(List Bs)):Option (Bool):=
 bif (!decide ((↑a0.length:Int)=(↑a1.length:Int)))then
  some false
 else
  Pg (TL (PO a0 a1) n 0) (RB)
def PZ(self:(Ox)→(Ox)→Option (Bool))(a0:Ox)(a1:Ox)(s0:Int):Option (Ctl (Bool) (Int) (Unit)):=
 bif (decide (s0<(↑a0.subs.length:Int)))then
  chk (0≤s0∧s0<(↑a0.subs.length:Int)) <|
  chk (s0<(↑a1.subs.length:Int)) <|
  (self (get a0.subs s0.toNat) (get a1.subs s0.toNat)).bind fun v8=>
  bif (!v8)then
   some (.ret false)
  else
   some (.nxt (wr .i64 (s0+1)))
 else
  some (.brk ())
def RH(t0:Unit):Option (Bool):=
 some true
def Pm:Nat→(Ox)→(Ox)→Option (Bool)
 |0,_,_=>none
 |n+1,a0,a1=>
  (gd (!(bif (!decide (a0.kind=a1.kind))then true else(!decide (a0.name=a1.name)))) (Ql n a0.words a1.words) default).bind fun v1=>
  bif (bif (bif (bif (!decide (a0.kind=a1.kind))then true else(!decide (a0.name=a1.name)))then true else(!v1))then true else(!decide ((↑a0.subs.length:Int)=(↑a1.subs.length:Int))))then
   some false
  else
   Pg (TL (PZ (Pm n) a0 a1) n 0) (RH)
def Pw(n:Nat):Option (Bool):=
 (PS [100,111,103] [[120]]).bind fun v2=>
 (PS [97,110,105,109,97,108] [[120]]).bind fun v5=>
 (PS [116,97,109,101] [[120]]).bind fun v7=>
 (SN 5 v5 v7).bind fun v8=>
 (PS [100,111,103] [[121]]).bind fun v10=>
 (PS [97,110,105,109,97,108] [[118,48]]).bind fun v13=>
 (PS [116,97,109,101] [[118,48]]).bind fun v15=>
 (SN 5 v13 v15).bind fun v16=>
 (SL n [(Oz.mk (OG.mk v2 [[120]] [] []) v8)] (Ox.mk 9 [121] [] [v10])).bind fun v19=>
 (Vr n [(Oz.mk (OG.mk v2 [[120]] [] []) v8)] (Ox.mk 9 [121] [] [v10])).bind fun v21=>
 (gd (decide (v19.2.code=0)) (Pm n v19.1 (Ox.mk 9 [118,48] [] [v16])) default).bind fun v22=>
 chk (d6G (bif (bif (bif (decide (v19.2.code=0))then v22 else false)then(decide (v21.2.code=0))else false)then(decide ((↑v21.1.length:Int)=1))else false) (0<(↑v21.1.length:Int))) <|
 some (bif (bif (bif (bif (decide (v19.2.code=0))then v22 else false)then(decide (v21.2.code=0))else false)then(decide ((↑v21.1.length:Int)=1))else false)then(decide ((get v21.1 0).at_=1)&&(decide ((get v21.1 0).rule=0)))else false)
def RL(n:Nat)(a0:Ox):Option (Ox×OL):=
 (QV n a0).bind fun v1=>
 bif (!decide (v1.code=0))then
  some ((Ox.mk 0 [] [] []),v1)
 else
  (Sy n a0).bind fun v2=>
  some (v2,(OL.mk 0 0))
def Qb(n:Nat)(a0:Ox):Option (Bool):=
 (Pw n).bind fun v1=>
 bif (!v1)then
  some false
 else
  (SL n [] a0).bind fun v2=>
  (Vr n [] a0).bind fun v3=>
  (RL n a0).bind fun v4=>
  (gd (bif (decide (v2.2.code=v4.2.code)&&(decide (v2.2.index=v4.2.index)))then(decide (v3.2.code=v4.2.code)&&(decide (v3.2.index=v4.2.index)))else false) (Pm n v2.1 v4.1) default).bind fun v5=>
  some (bif (bif (bif (decide (v2.2.code=v4.2.code)&&(decide (v2.2.index=v4.2.index)))then(decide (v3.2.code=v4.2.code)&&(decide (v3.2.index=v4.2.index)))else false)then v5 else false)then(decide ((↑v3.1.length:Int)=0))else false)
def VE(a2:Int)(s0:(List Bs)×(List Bs)×(List Bs)×Int):Option (Ctl (Oz×OL) ((List Bs)×(List Bs)×(List Bs)×Int) ((List Bs)×(List Bs)×(List Bs))):=
 bif (decide (s0.2.2.2<a2))then
  (itoa s0.2.2.2).bind fun v26=>
  chk (RG [120] v26) <|
  Tg (s0.2.1++[(ZS [120] v26)]) fun c29=>
  chk (c29.length*16≤top∧c29.length≤top) <|
  Tg (s0.1++[(ZS [120] v26)]) fun c35=>
  chk (c35.length*16≤top∧c35.length≤top) <|
  Tg (s0.2.2.1++[(ZS [120] v26)]) fun c41=>
  chk (c41.length*16≤top∧c41.length≤top) <|
  some (.nxt (c35,c29,c41,(wr .i64 (s0.2.2.2+1))))
 else
  some (.brk (s0.1,s0.2.1,s0.2.2.1))
def VF(a0:Bs)(a1:Bs)(t0:(List Bs)×(List Bs)×(List Bs)):Option (Oz×OL):=
 some ((Oz.mk (OG.mk (Ox.mk 2 a0 t0.1 []) t0.2.1 [] []) (Ox.mk 2 a1 t0.2.2 [])),(OL.mk 0 0))
def VG(n:Nat)(a0:Bs)(a1:Bs)(a2:Int):Option (Oz×OL):=
 (termName a0).bind fun v1=>
 bif (!v1)then
  (PX 10 (-1)).bind fun v2=>
  some ((Oz.mk (OG.mk (Ox.mk 0 [] [] []) [] [] []) (Ox.mk 0 [] [] [])),v2)
 else
  (termName a1).bind fun v3=>
  bif (!v3)then
   (PX 10 (-2)).bind fun v4=>
   some ((Oz.mk (OG.mk (Ox.mk 0 [] [] []) [] [] []) (Ox.mk 0 [] [] [])),v4)
  else
   bif (bif (decide (a2<0))then true else(decide (3<a2)))then
    (PX 3 (-3)).bind fun v5=>
    some ((Oz.mk (OG.mk (Ox.mk 0 [] [] []) [] [] []) (Ox.mk 0 [] [] [])),v5)
   else
    Pg (TL (VE a2) n ([],[],[],0)) (VF a0 a1)
def Qv(self:(Ox)→(Bs)→(Int)→Option (Bool))(a0:Ox)(a1:Bs)(a2:Int)(s0:Int):Option (Ctl (Bool) (Int) (Unit)):=
 bif (decide (s0<(↑a0.subs.length:Int)))then
  chk (0≤s0∧s0<(↑a0.subs.length:Int)) <|
  (self (get a0.subs s0.toNat) a1 a2).bind fun v5=>
  bif v5 then
   some (.ret true)
  else
   some (.nxt (wr .i64 (s0+1)))
 else
  some (.brk ())
def Rl(t0:Unit):Option (Bool):=
 some false
def PG:Nat→(Ox)→(Bs)→(Int)→Option (Bool)
 |0,_,_,_=>none
 |n+1,a0,a1,a2=>
  bif (bif (bif (decide (a0.kind=2))then(decide (a0.name=a1))else false)then(decide ((↑a0.words.length:Int)=a2))else false)then
   some true
  else
   Pg (TL (Qv (PG n) a0 a1 a2) n 0) (Rl)
def RD(n:Nat)(a0:Bs)(a1:Bs)(a2:Int)(a3:Ox):Option (Bool):=
 (Pw n).bind fun v1=>
 bif (!v1)then
  some false
 else
  (VG n a0 a1 a2).bind fun v2=>
  (VG n a1 a0 a2).bind fun v3=>
  (RL n a3).bind fun v4=>
  (gd (!(bif (bif (!decide (v2.2.code=0))then true else(!decide (v3.2.code=0)))then true else(!decide (v4.2.code=0)))) (PG n v4.1 a1 a2) default).bind fun v5=>
  bif (bif (bif (bif (!decide (v2.2.code=0))then true else(!decide (v3.2.code=0)))then true else(!decide (v4.2.code=0)))then true else v5)then
   some true
  else
   (SL n [v2.1] a3).bind fun v7=>
   (gd ((!(!decide (v7.2.code=0)))&&(!decide (a0=a1))) (PG n v7.1 a0 a2) default).bind fun v8=>
   bif (bif (!decide (v7.2.code=0))then true else(bif (!decide (a0=a1))then v8 else false))then
    some false
   else
    (SL n [v3.1] v7.1).bind fun v10=>
    (gd (decide (v10.2.code=0)) (Pm n v10.1 v4.1) default).bind fun v11=>
    some (bif (decide (v10.2.code=0))then v11 else false)
end Go.Proofs.YtfacbpehlibilaaGreatDoor
