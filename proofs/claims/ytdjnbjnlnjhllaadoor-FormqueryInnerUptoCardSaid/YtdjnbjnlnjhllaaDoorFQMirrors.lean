import Derived.Test.YtdjnbjnlnjhllaaDoorFQStrs
import Derived.Test.YtdjnbjnlnjhllaaDoorFQCat
set_option linter.unusedVariables false
set_option linter.unusedSimpArgs false
namespace Go.Proofs.YtdjnbjnlnjhllaaDoor
open Go Go.Am
def W5(a0:Bs)(a1:(List Bs)):Option (u5):=
 some (u5.mk 2 a0 a1 [])
def R0(a0:Int)(a1:u5)(a2:u5):Option (u5):=
 some (u5.mk a0 [] [] [a1,a2])
def P7(a0:Int)(I7:Int):Option (w9):=
 some (w9.mk a0 I7)
def X7(j2:Bool):Option (Int):=
 bif j2 then
  some 2
 else
  some (-1)
def X6(a0:Int)(j1:Bool):Option (Int):=
 bif j1 then
  some 1
 else
  bif (decide (a0=5))then
   X7 (decide (a0=5))
  else
   bif (decide (a0=6))then
    X7 (decide (a0=6))
   else
    X7 (decide (a0=7))
def X5(a0:Int)(j0:Bool):Option (Int):=
 bif j0 then
  some 0
 else
  bif (decide (a0=4))then
   X6 a0 (decide (a0=4))
  else
   bif (decide (a0=8))then
    X6 a0 (decide (a0=8))
   else
    X6 a0 (decide (a0=9))
def dJ(a0:Int):Option (Int):=
 bif (decide (a0=1))then
  X5 a0 (decide (a0=1))
 else
  bif (decide (a0=2))then
   X5 a0 (decide (a0=2))
  else
   X5 a0 (decide (a0=3))
def D3(a0:u5):Option (Bool):=
 some (bif (decide (a0.kind=8))then true else(decide (a0.kind=9)))
def fT(a0:Bs)(k0:Nat)(s0:Unit):Option (Ctl (Bool) (Unit) (Unit)):=
 bif (!(bif (bif (bif (bif (decide (97≤(C8 a0 (↑k0:Int))))then(decide ((C8 a0 (↑k0:Int))≤122))else false)then true else(bif (decide (48≤(C8 a0 (↑k0:Int))))then(decide ((C8 a0 (↑k0:Int))≤57))else false))then true else(decide ((C8 a0 (↑k0:Int))=95)))then true else(decide ((C8 a0 (↑k0:Int))=45))))then
  some (.ret false)
 else
  some (.nxt ())
def fU(t0:Unit):Option (Bool):=
 some true
def termName(a0:Bs):Option (Bool):=
 chk (fJ (!(bif (decide ((↑a0.length:Int)=0))then true else(decide (30<(↑a0.length:Int))))) (0<(↑a0.length:Int))) <|
 chk (fJ (!(bif (bif (decide ((↑a0.length:Int)=0))then true else(decide (30<(↑a0.length:Int))))then true else(decide ((C8 a0 0)<97)))) (0<(↑a0.length:Int))) <|
 bif (bif (bif (bif (decide ((↑a0.length:Int)=0))then true else(decide (30<(↑a0.length:Int))))then true else(decide ((C8 a0 0)<97)))then true else(decide (122<(C8 a0 0))))then
  some false
 else
  chk (a0.length≤9223372036854775807) <|
  y4 (G9 (fT a0) a0.length ()) (fU)
def aP(a0:u5)(I7:Int)(k2:Nat)(s2:Unit):Option (Ctl (w9×Int) (Unit) (Unit)):=
 (termName (get a0.words k2)).bind fun v9=>
 bif (!v9)then
  (P7 10 I7).bind fun v10=>
  some (.ret (v10,(wr .i64 (I7+1))))
 else
  some (.nxt ())
def aR(self:(u5)→(Int)→(Int)→(Bool)→Option (w9×Int))(a0:u5)(a1:Int)(S1:Bool)(k3:Nat)(s3:Int):Option (Ctl (w9×Int) (Int) (Int)):=
 (self (get a0.subs k3) (wr .i64 (a1+1)) s3 S1).bind fun v12=>
 bif (!decide (v12.1.code=0))then
  some (.ret (v12.1,v12.2))
 else
  some (.nxt v12.2)
def aS(t3:Int):Option (w9×Int):=
 some ((w9.mk 0 0),t3)
def aQ(self:(u5)→(Int)→(Int)→(Bool)→Option (w9×Int))(a0:u5)(a1:Int)(S1:Bool)(I7:Int)(t2:Unit):Option (w9×Int):=
 y4 (G9 (aR self a0 a1 S1) a0.subs.length (wr .i64 (I7+1))) (aS)
def N6(self:(u5)→(Int)→(Int)→(Bool)→Option (w9×Int))(a0:u5)(j0:Int)(I7:Int)(a1:Int)(S1:Bool)(j1:Bool):Option (w9×Int):=
 bif (bif (!decide ((↑a0.subs.length:Int)=j0))then true else(!j1))then
  (P7 9 I7).bind fun v4=>
  some (v4,(wr .i64 (I7+1)))
 else
  (gd (!(decide (a0.kind=2))) (D3 a0) default).bind fun v5=>
  (gd (bif (bif (decide (a0.kind=2))then true else v5)then true else(decide (a0.kind=10))) (termName a0.name) default).bind fun v6=>
  bif (bif (bif (bif (decide (a0.kind=2))then true else v5)then true else(decide (a0.kind=10)))then(!v6)else false)then
   (P7 10 I7).bind fun v7=>
   some (v7,(wr .i64 (I7+1)))
  else
   bif (bif (!(bif (bif (decide (a0.kind=2))then true else v5)then true else(decide (a0.kind=10))))then(!decide (a0.name=[]))else false)then
    (P7 5 I7).bind fun v8=>
    some (v8,(wr .i64 (I7+1)))
   else
    y4 (G9 (aP a0 I7) a0.words.length ()) (aQ self a0 a1 S1 I7)
def S6(self:(u5)→(Int)→(Int)→(Bool)→Option (w9×Int))(I7:Int)(a0:u5)(a1:Int)(S1:Bool)(j0:Int):Option (w9×Int):=
 bif (decide (j0<0))then
  (P7 4 I7).bind fun v3=>
  some (v3,(wr .i64 (I7+1)))
 else
  bif (decide (a0.kind=2))then
   N6 self a0 j0 I7 a1 S1 (decide ((↑a0.words.length:Int)≤3))
  else
   bif (decide (a0.kind=3))then
    N6 self a0 j0 I7 a1 S1 (decide ((↑a0.words.length:Int)=2))
   else
    N6 self a0 j0 I7 a1 S1 (decide ((↑a0.words.length:Int)=0))
def E5:Nat→(u5)→(Int)→(Int)→(Bool)→Option (w9×Int)
 |0,_,_,_,_=>none
 |n+1,a0,a1,I7,S1=>
  bif (bif (decide (200<(wr .i64 (I7+1))))then true else(decide (40<a1)))then
   (P7 1 I7).bind fun v1=>
   some (v1,(wr .i64 (I7+1)))
  else
   (dJ a0.kind).bind fun v2=>
   bif (bif (decide (a0.kind=10))then S1 else false)then
    S6 (E5 n) I7 a0 a1 S1 0
   else
    S6 (E5 n) I7 a0 a1 S1 v2
def eB(n:Nat)(a0:u5)(a1:Bool):Option (w9):=
 (E5 n a0 1 0 a1).bind fun v1=>
 some v1.1
def M7(n:Nat)(a0:u5):Option (w9):=
 (eB n a0 false).bind fun v1=>
 some v1
def N4(a0:w6):Option ((List Bs)):=
 (kB [a0.words,a0.y5,a0.parts]).bind fun v2=>
 some v2
def E3(a0:Int)(a1:Int):Option (w9):=
 some (w9.mk a0 a1)
def K2(a1:Bs)(a0:(List Bs))(k0:Nat)(s0:Unit):Option (Ctl (Int) (Unit) (Unit)):=
 bif (decide (a1=(get a0 k0)))then
  some (.ret (↑k0:Int))
 else
  some (.nxt ())
def K3(t0:Unit):Option (Int):=
 some (-1)
def P1(a0:(List Bs))(a1:Bs):Option (Int):=
 y4 (G9 (K2 a1 a0) a0.length ()) (K3)
def x5(a0:(List Bs))(a1:Bs):Option (Bool):=
 (P1 a0 a1).bind fun v1=>
 some (decide (0≤v1))
def U2(a1:(List Bs))(a0:u5)(k0:Nat)(s0:(List Bs)):Option (Ctl ((List Bs)) ((List Bs)) ((List Bs))):=
 (x5 a1 (get a0.words k0)).bind fun v8=>
 bif (!v8)then
  aB (s0++[(get a0.words k0)]) fun c10=>
  chk (c10.length*16≤top∧c10.length≤top) <|
  some (.nxt c10)
 else
  some (.nxt s0)
def U3(self:(u5)→((List Bs))→((List Bs))→Option ((List Bs)))(a0:u5)(j1:(List Bs))(k2:Nat)(s2:(List Bs)):Option (Ctl ((List Bs)) ((List Bs)) ((List Bs))):=
 (self (get a0.subs k2) j1 s2).bind fun v26=>
 some (.nxt v26)
def U4(t2:(List Bs)):Option ((List Bs)):=
 some t2
def J6(self:(u5)→((List Bs))→((List Bs))→Option ((List Bs)))(a0:u5)(t0:(List Bs))(j1:(List Bs)):Option ((List Bs)):=
 y4 (G9 (U3 self a0 j1) a0.subs.length t0) (U4)
def U5(self:(u5)→((List Bs))→((List Bs))→Option ((List Bs)))(a0:u5)(a1:(List Bs))(t0:(List Bs)):Option ((List Bs)):=
 (D3 a0).bind fun v15=>
 bif v15 then
  chk (0≤(↑a1.length:Int)∧0≤(↑a1.length:Int)) <|
  aB (a1++[a0.name]) fun c19=>
  chk (c19.length*16≤top∧c19.length≤top) <|
  J6 self a0 t0 c19
 else
  J6 self a0 t0 a1
def D5:Nat→(u5)→((List Bs))→((List Bs))→Option ((List Bs))
 |0,_,_,_=>none
 |n+1,a0,a1,l1=>
  y4 (G9 (U2 a1 a0) a0.words.length l1) (U5 (D5 n) a0 a1)
def F6(l0:(List Bs)):Option ((List Bs)):=
 chk (l0.length<4611686018427387904) (some (qL cfB l0))
def L7(l0:(List Bs)):Option (List Bs):=
 chk (l0.length≤9223372036854775807) (some (cpt l0))
def S7(n:Nat)(a0:u5):Option ((List Bs)):=
 (D5 n a0 [] []).bind fun v1=>
 (F6 v1).bind fun v3=>
 (L7 v3).bind fun v5=>
 some (Lib.compact v3)
def aT(self:(u5)→(Bs)→Option (Bool×Bool))(a0:u5)(a1:Bs)(k1:Nat)(s1:Bool×Bool):Option (Ctl (Bool×Bool) (Bool×Bool) (Bool×Bool)):=
 (self (get a0.subs k1) a1).bind fun v2=>
 some (.nxt ((bif s1.1 then true else v2.1),(bif s1.2 then true else v2.2)))
def aU(t1:Bool×Bool):Option (Bool×Bool):=
 some (t1.1,t1.2)
def S8(self:(u5)→(Bs)→Option (Bool×Bool))(a0:u5)(a1:Bs)(j0:Bool×Bool):Option (Bool×Bool):=
 y4 (G9 (aT self a0 a1) a0.subs.length (j0.1,j0.2)) (aU)
def L8:Nat→(u5)→(Bs)→Option (Bool×Bool)
 |0,_,_=>none
 |n+1,a0,a1=>
  bif (bif (decide (a0.kind=2))then(decide (a0.name=a1))else false)then
   S8 (L8 n) a0 a1 ((decide (0<(↑a0.words.length:Int))),(decide ((↑a0.words.length:Int)=0)))
  else
   S8 (L8 n) a0 a1 (false,false)
def P2(self:(u5)→Option ((List Bs)))(a0:u5)(k1:Nat)(s1:(List Bs)):Option (Ctl ((List Bs)) ((List Bs)) ((List Bs))):=
 (self (get a0.subs k1)).bind fun v14=>
 aB (s1++v14) fun c15=>
 chk (c15.length*16≤top∧c15.length≤top) <|
 some (.nxt c15)
def P3(t1:(List Bs)):Option ((List Bs)):=
 some t1
def E7(self:(u5)→Option ((List Bs)))(a0:u5)(j0:(List Bs)):Option ((List Bs)):=
 y4 (G9 (P2 self a0) a0.subs.length j0) (P3)
def y7:Nat→(u5)→Option ((List Bs))
 |0,_=>none
 |n+1,a0=>
  (D3 a0).bind fun v1=>
  bif v1 then
   aB ([]++[a0.name]) fun c3=>
   chk (c3.length*16≤top∧c3.length≤top) <|
   E7 (y7 n) a0 c3
  else
   E7 (y7 n) a0 []
def U6(n:Nat)(v2:(List Bs))(a0:w6)(v4:(List Bs))(k0:Nat)(s0:Unit):Option (Ctl (w9) (Unit) (Unit)):=
 (termName (get v2 k0)).bind fun v17=>
 bif (!v17)then
  (E3 10 (↑k0:Int)).bind fun v18=>
  some (.ret v18)
 else
  chk (0≤(↑k0:Int)∧k0≤v2.length) <|
  (x5 (v2.take k0) (get v2 k0)).bind fun v21=>
  bif v21 then
   (E3 7 (↑k0:Int)).bind fun v22=>
   some (.ret v22)
  else
   (L8 n a0.form (get v2 k0)).bind fun v23=>
   bif (decide ((↑k0:Int)<(↑a0.words.length:Int)))then
    (x5 v4 (get v2 k0)).bind fun v24=>
    bif (!v24)then
     (E3 15 (↑k0:Int)).bind fun v25=>
     some (.ret v25)
    else
     some (.nxt ())
   else
    bif (decide ((↑k0:Int)<(wr .i64 ((↑a0.words.length:Int)+(↑a0.y5.length:Int)))))then
     bif (bif (!v23.1)then(!v23.2)else false)then
      (E3 15 (↑k0:Int)).bind fun v26=>
      some (.ret v26)
     else
      some (.nxt ())
    else
     bif v23.1 then
      (E3 5 (↑k0:Int)).bind fun v27=>
      some (.ret v27)
     else
      bif (!v23.2)then
       (E3 15 (↑k0:Int)).bind fun v28=>
       some (.ret v28)
      else
       some (.nxt ())
def U8(v29:(List Bs))(a0:w6)(k1:Nat)(s1:Unit):Option (Ctl (w9) (Unit) (Unit)):=
 chk (0≤(↑k1:Int)∧k1≤v29.length) <|
 (x5 (v29.take k1) (get v29 k1)).bind fun v37=>
 (gd (!v37) (x5 a0.words (get v29 k1)) default).bind fun v38=>
 bif (bif v37 then true else v38)then
  (E3 7 (-1)).bind fun v39=>
  some (.ret v39)
 else
  some (.nxt ())
def U9(t1:Unit):Option (w9):=
 some (w9.mk 0 0)
def U7(n:Nat)(a0:w6)(t0:Unit):Option (w9):=
 (y7 n a0.form).bind fun v29=>
 y4 (G9 (U8 v29 a0) v29.length ()) (U9)
def K9(n:Nat)(a0:w6):Option (w9):=
 (M7 n a0.form).bind fun v1=>
 bif (!decide (v1.code=0))then
  some v1
 else
  (N4 a0).bind fun v2=>
  bif (decide (300<(↑v2.length:Int)))then
   (E3 2 (-1)).bind fun v3=>
   some v3
  else
   (S7 n a0.form).bind fun v4=>
   y4 (G9 (U6 n v2 a0 v4) v2.length ()) (U7 n a0)
def X1(S1:(List Bs))(s0:Int):Option (Ctl (Bs×Int) (Int) (Unit)):=
 (itoa s0).bind fun v4=>
 chk (X8 [118] v4) <|
 (x5 S1 (qj [118] v4)).bind fun v6=>
 bif (!v6)then
  some (.ret ((qj [118] v4),(wr .i64 (s0+1))))
 else
  some (.nxt (wr .i64 (s0+1)))
def cO(t0:Unit):Option (Bs×Int):=
 none
def bO(n:Nat)(I7:Int)(S1:(List Bs)):Option (Bs×Int):=
 y4 (E9 (X1 S1) n I7) (cO)
def V1(a1:(List x6))(a0:u5)(k0:Nat)(s2:Int):Option (Ctl (Ctl (u5×Int) ((List Bs)) ((List Bs))) (Int) (Bs)):=
 bif (decide (0≤s2))then
  chk (0≤s2∧s2<(↑a1.length:Int)) <|
  bif (decide (((get a1 s2.toNat).from_)=(get a0.words k0)))then
   some (.brk ((get a1 s2.toNat).to_))
  else
   some (.nxt (wr .i64 (s2-1)))
 else
  some (.brk (get a0.words k0))
def Z7(s0:(List Bs))(t2:Bs):Option (Ctl (u5×Int) ((List Bs)) ((List Bs))):=
 aB (s0++[t2]) fun c16=>
 chk (c16.length*16≤top∧c16.length≤top) <|
 some (.nxt c16)
def Z6(n:Nat)(a1:(List x6))(a0:u5)(k0:Nat)(s0:(List Bs)):Option (Ctl (u5×Int) ((List Bs)) ((List Bs))):=
 y4 (E9 (V1 a1 a0 k0) n (wr .i64 ((↑a1.length:Int)-1))) (Z7 s0)
def Z8(self:(u5)→((List x6))→(Int)→((List Bs))→Option (u5×Int))(a0:u5)(j3:Int×Bs×(List x6))(S1:(List Bs))(k4:Nat)(s4:Int×(List u5)):Option (Ctl (u5×Int) (Int×(List u5)) (Int×(List u5))):=
 (self (get a0.subs k4) j3.2.2 s4.1 S1).bind fun v38=>
 aB (s4.2++[v38.1]) fun c40=>
 chk (c40.length*72≤top∧c40.length≤top) <|
 some (.nxt (v38.2,c40))
def Z9(a0:u5)(j3:Int×Bs×(List x6))(t0:(List Bs))(t4:Int×(List u5)):Option (u5×Int):=
 some ((u5.mk a0.kind j3.2.1 t0 t4.2),t4.1)
def P9(self:(u5)→((List x6))→(Int)→((List Bs))→Option (u5×Int))(a0:u5)(S1:(List Bs))(t0:(List Bs))(j3:Int×Bs×(List x6)):Option (u5×Int):=
 y4 (G9 (Z8 self a0 j3 S1) a0.subs.length (j3.1,[])) (Z9 a0 j3 t0)
def ah(self:(u5)→((List x6))→(Int)→((List Bs))→Option (u5×Int))(n:Nat)(a0:u5)(I7:Int)(S1:(List Bs))(a1:(List x6))(t0:(List Bs)):Option (u5×Int):=
 (D3 a0).bind fun v21=>
 bif v21 then
  (bO n I7 S1).bind fun v22=>
  chk (0≤(↑a1.length:Int)∧0≤(↑a1.length:Int)) <|
  aB (a1++[(x6.mk a0.name v22.1)]) fun c26=>
  chk (c26.length*32≤top∧c26.length≤top) <|
  P9 self a0 S1 t0 (v22.2,v22.1,c26)
 else
  P9 self a0 S1 t0 (I7,a0.name,a1)
def I9:Nat→(u5)→((List x6))→(Int)→((List Bs))→Option (u5×Int)
 |0,_,_,_,_=>none
 |n+1,a0,a1,I7,S1=>
  y4 (G9 (Z6 n a1 a0) a0.words.length []) (ah (I9 n) n a0 I7 S1 a1)
def bY(v1:(List Bs))(a1:(List x6))(k0:Nat)(k1:Nat)(s1:Unit):Option (Ctl (Ctl (u5) (Unit) (Unit)) (Unit) (Unit)):=
 bif (decide ((get v1 k1)=((get a1 k0).from_)))then
  none
 else
  some (.nxt ())
def bZ(t1:Unit):Option (Ctl (u5) (Unit) (Unit)):=
 some (.nxt ())
def cg(v1:(List Bs))(a1:(List x6))(k0:Nat)(s0:Unit):Option (Ctl (u5) (Unit) (Unit)):=
 y4 (G9 (bY v1 a1 k0) v1.length ()) (bZ)
def aj(n:Nat)(a0:u5)(a1:(List x6))(v1:(List Bs))(t0:Unit):Option (u5):=
 (I9 n a0 a1 0 v1).bind fun v2=>
 some v2.1
def cu(n:Nat)(a0:u5)(a1:(List x6)):Option (u5):=
 (S7 n a0).bind fun v1=>
 y4 (G9 (cg v1 a1) a1.length ()) (aj n a0 a1 v1)
def Z1(n:Nat)(a0:u5):Option (u5):=
 (cu n a0 []).bind fun v1=>
 some v1
def T3(a0 l0:(List Bs)):Option (List Bs):=
 bif l0.isEmpty then some a0 else none
def ak(a0:w6)(a1:u5):Option (Bool):=
 (gd (bif (decide (a1.kind=2))then(decide ((↑a1.words.length:Int)=0))else false) (x5 a0.parts a1.name) default).bind fun v1=>
 some (bif (bif (decide (a1.kind=2))then(decide ((↑a1.words.length:Int)=0))else false)then v1 else false)
def V6(a1:(List Bs))(a0:u5)(iE:(List Bs))(k0:Nat)(s0:(List Bs)):Option (Ctl (u5) ((List Bs)) ((List Bs))):=
 (x5 a1 (get a0.words k0)).bind fun v23=>
 bif v23 then
  chk (X8 [63] (get a0.words k0)) <|
  aB (s0++[(qj [63] (get a0.words k0))]) fun c26=>
  chk (c26.length*16≤top∧c26.length≤top) <|
  some (.nxt c26)
 else
  (x5 iE (get a0.words k0)).bind fun v31=>
  bif v31 then
   chk (X8 [46] (get a0.words k0)) <|
   aB (s0++[(qj [46] (get a0.words k0))]) fun c34=>
   chk (c34.length*16≤top∧c34.length≤top) <|
   some (.nxt c34)
  else
   aB (s0++[(get a0.words k0)]) fun c40=>
   chk (c40.length*16≤top∧c40.length≤top) <|
   some (.nxt c40)
def V7(self:(u5)→((List Bs))→(Int)→(Bs)→((List Bs))→((List u5))→((List Bs))→((List Bs))→((List Bs))→Option (u5))(a0:u5)(j1:Bs×(List Bs))(I7:Int)(jQ:Bs)(jR:(List Bs))(jS:(List u5))(iE:(List Bs))(jk:(List Bs))(jT:(List Bs))(k2:Nat)(s2:(List u5)):Option (Ctl (u5) ((List u5)) ((List u5))):=
 (self (get a0.subs k2) j1.2 I7 jQ jR jS iE jk jT).bind fun v65=>
 aB (s2++[v65]) fun c67=>
 chk (c67.length*72≤top∧c67.length≤top) <|
 some (.nxt c67)
def V8(a0:u5)(j1:Bs×(List Bs))(t0:(List Bs))(t2:(List u5)):Option (u5):=
 some (u5.mk a0.kind j1.1 t0 t2)
def E1(self:(u5)→((List Bs))→(Int)→(Bs)→((List Bs))→((List u5))→((List Bs))→((List Bs))→((List Bs))→Option (u5))(a0:u5)(I7:Int)(jQ:Bs)(jR:(List Bs))(jS:(List u5))(iE:(List Bs))(jk:(List Bs))(jT:(List Bs))(t0:(List Bs))(j1:Bs×(List Bs)):Option (u5):=
 y4 (G9 (V7 self a0 j1 I7 jQ jR jS iE jk jT) a0.subs.length []) (V8 a0 j1 t0)
def V9(self:(u5)→((List Bs))→(Int)→(Bs)→((List Bs))→((List u5))→((List Bs))→((List Bs))→((List Bs))→Option (u5))(a0:u5)(a1:(List Bs))(I7:Int)(jQ:Bs)(jR:(List Bs))(jS:(List u5))(iE:(List Bs))(jk:(List Bs))(jT:(List Bs))(t0:(List Bs)):Option (u5):=
 (D3 a0).bind fun v45=>
 bif v45 then
  (T3 a1 []).bind fun v46=>
  aB (v46++[a0.name]) fun c48=>
  chk (c48.length*16≤top∧c48.length≤top) <|
  chk (X8 [63] a0.name) <|
  E1 self a0 I7 jQ jR jS iE jk jT t0 ((qj [63] a0.name),c48)
 else
  (ak (w6.mk (u5.mk I7 jQ jR jS) iE jk jT) a0).bind fun v54=>
  bif v54 then
   chk (X8 [43] a0.name) <|
   E1 self a0 I7 jQ jR jS iE jk jT t0 ((qj [43] a0.name),a1)
  else
   (gd (decide (a0.kind=2)) (x5 jk a0.name) default).bind fun v56=>
   bif (bif (decide (a0.kind=2))then v56 else false)then
    chk (X8 [33] a0.name) <|
    E1 self a0 I7 jQ jR jS iE jk jT t0 ((qj [33] a0.name),a1)
   else
    E1 self a0 I7 jQ jR jS iE jk jT t0 (a0.name,a1)
def E4:Nat→(u5)→((List Bs))→(Int)→(Bs)→((List Bs))→((List u5))→((List Bs))→((List Bs))→((List Bs))→Option (u5)
 |0,_,_,_,_,_,_,_,_,_=>none
 |n+1,a0,a1,I7,jQ,jR,jS,iE,jk,jT=>
  y4 (G9 (V6 a1 a0 iE) a0.words.length []) (V9 (E4 n) a0 a1 I7 jQ jR jS iE jk jT)
def W0(a0:Bs)(a1:(List Bs))(k0:Nat)(s0:(List Bs)):Option (Ctl ((List Bs)) ((List Bs)) ((List Bs))):=
 chk (X8 a0 (get a1 k0)) <|
 aB (s0++[(qj a0 (get a1 k0))]) fun c10=>
 chk (c10.length*16≤top∧c10.length≤top) <|
 some (.nxt c10)
def bq(t0:(List Bs)):Option ((List Bs)):=
 some t0
def N7(a0:Bs)(a1:(List Bs)):Option ((List Bs)):=
 y4 (G9 (W0 a0 a1) a1.length []) (bq)
def Z2(n:Nat)(a0:w6):Option (w6):=
 (E4 n a0.form [] a0.form.kind a0.form.name a0.form.words a0.form.subs a0.words a0.y5 a0.parts).bind fun v1=>
 (N7 [46] a0.words).bind fun v2=>
 (N7 [33] a0.y5).bind fun v3=>
 (N7 [43] a0.parts).bind fun v4=>
 some (w6.mk v1 v2 v3 v4)
def K4(a1:(List Bs))(a0:(List Bs))(k0:Nat)(s0:Unit):Option (Ctl (Bool) (Unit) (Unit)):=
 chk ((↑k0:Int)<(↑a1.length:Int)) <|
 bif (!decide ((get a0 k0)=(get a1 k0)))then
  some (.ret false)
 else
  some (.nxt ())
def K5(t0:Unit):Option (Bool):=
 some true
def E8(a0:(List Bs))(a1:(List Bs)):Option (Bool):=
 bif (!decide ((↑a0.length:Int)=(↑a1.length:Int)))then
  some false
 else
  y4 (G9 (K4 a1 a0) a0.length ()) (K5)
def cw(self:(u5)→(u5)→Option (Bool))(a1:u5)(a0:u5)(k0:Nat)(s0:Unit):Option (Ctl (Bool) (Unit) (Unit)):=
 chk ((↑k0:Int)<(↑a1.subs.length:Int)) <|
 (self (get a0.subs k0) (get a1.subs k0)).bind fun v4=>
 bif (!v4)then
  some (.ret false)
 else
  some (.nxt ())
def cx(t0:Unit):Option (Bool):=
 some true
def bn:Nat→(u5)→(u5)→Option (Bool)
 |0,_,_=>none
 |n+1,a0,a1=>
  (gd (!(bif (!decide (a0.kind=a1.kind))then true else(!decide (a0.name=a1.name)))) (E8 a0.words a1.words) default).bind fun v1=>
  bif (bif (bif (bif (!decide (a0.kind=a1.kind))then true else(!decide (a0.name=a1.name)))then true else(!v1))then true else(!decide ((↑a0.subs.length:Int)=(↑a1.subs.length:Int))))then
   some false
  else
   chk (a0.subs.length≤9223372036854775807) <|
   y4 (G9 (cw (bn n) a1 a0) a0.subs.length ()) (cx)
def Q8(a1:Bs)(a2:Bs)(m0:(List (Bs×u7))):Option (Bool×(List (Bs×u7))):=
 bif (assoc a1 m0).isSome then
  some ((decide ((((assoc a1 m0).getD default).text)=a2)),m0)
 else
  aB (D1 a1 (u7.mk a1 a2 (u5.mk 0 [] [] [])) m0) fun c1=>
  some (true,c1)
def Q9(a1:u5)(a0:w6)(a2:u5)(k2:Nat)(s2:(List (Bs×u7))):Option (Ctl (Bool×(List (Bs×u7))) ((List (Bs×u7))) ((List (Bs×u7)))):=
 (gd (!(assoc (get a1.words k2) s2).isSome) (x5 a0.words (get a1.words k2)) default).bind fun v12=>
 bif (bif (assoc (get a1.words k2) s2).isSome then true else v12)then
  chk ((↑k2:Int)<(↑a2.words.length:Int)) <|
  (Q8 (get a1.words k2) (get a2.words k2) s2).bind fun v14=>
  bif (!v14.1)then
   some (.ret (false,v14.2))
  else
   some (.nxt v14.2)
 else
  chk ((↑k2:Int)<(↑a2.words.length:Int)) <|
  bif (!decide ((get a1.words k2)=(get a2.words k2)))then
   some (.ret (false,s2))
  else
   some (.nxt s2)
def W3(self:(w6)→(u5)→(u5)→((List (Bs×u7)))→Option (Bool×(List (Bs×u7))))(a2:u5)(a0:w6)(a1:u5)(k3:Nat)(s3:(List (Bs×u7))):Option (Ctl (Bool×(List (Bs×u7))) ((List (Bs×u7))) ((List (Bs×u7)))):=
 chk ((↑k3:Int)<(↑a2.subs.length:Int)) <|
 (self a0 (get a1.subs k3) (get a2.subs k3) s3).bind fun v19=>
 bif (!v19.1)then
  some (.ret (false,v19.2))
 else
  some (.nxt v19.2)
def W4(t3:(List (Bs×u7))):Option (Bool×(List (Bs×u7))):=
 some (true,t3)
def W1(self:(w6)→(u5)→(u5)→((List (Bs×u7)))→Option (Bool×(List (Bs×u7))))(a2:u5)(a0:w6)(a1:u5)(t2:(List (Bs×u7))):Option (Bool×(List (Bs×u7))):=
 y4 (G9 (W3 self a2 a0 a1) a1.subs.length t2) (W4)
def L0(self:(w6)→(u5)→(u5)→((List (Bs×u7)))→Option (Bool×(List (Bs×u7))))(a1:u5)(a0:w6)(a2:u5)(j1:(List (Bs×u7))):Option (Bool×(List (Bs×u7))):=
 y4 (G9 (Q9 a1 a0 a2) a1.words.length j1) (W1 self a2 a0 a1)
def G8(self:(w6)→(u5)→(u5)→((List (Bs×u7)))→Option (Bool×(List (Bs×u7))))(a1:u5)(a2:u5)(m0:(List (Bs×u7)))(a0:w6)(j0:Bool):Option (Bool×(List (Bs×u7))):=
 bif j0 then
  (Q8 a1.name a2.name m0).bind fun v7=>
  bif (!v7.1)then
   some (false,v7.2)
  else
   L0 self a1 a0 a2 v7.2
 else
  bif (!decide (a1.name=a2.name))then
   some (false,m0)
  else
   L0 self a1 a0 a2 m0
def B6:Nat→(w6)→(u5)→(u5)→((List (Bs×u7)))→Option (Bool×(List (Bs×u7)))
 |0,_,_,_,_=>none
 |n+1,a0,a1,a2,m0=>
  (ak a0 a1).bind fun v1=>
  bif v1 then
   bif (assoc a1.name m0).isSome then
    (bn n (((assoc a1.name m0).getD default).form) a2).bind fun v2=>
    some (v2,m0)
   else
    aB (D1 a1.name (u7.mk a1.name [] a2) m0) fun c3=>
    some (true,c3)
  else
   bif (bif (!decide (a1.kind=a2.kind))then true else(!decide ((↑a1.words.length:Int)=(↑a2.words.length:Int))))then
    some (false,m0)
   else
    (D3 a1).bind fun v5=>
    bif v5 then
     G8 (B6 n) a1 a2 m0 a0 v5
    else
     (gd (decide (a1.kind=2)) (x5 a0.y5 a1.name) default).bind fun v6=>
     G8 (B6 n) a1 a2 m0 a0 (bif (decide (a1.kind=2))then v6 else false)
def I5(a1:Bs)(l0:(List Bs))(k0:Nat)(s0:Unit):Option (Ctl (Int) (Unit) (Unit)):=
 bif (decide (a1=(get l0 k0)))then
  some (.ret (↑k0:Int))
 else
  some (.nxt ())
def I6(t0:Unit):Option (Int):=
 some (-1)
def M4(a1:Bs)(l0:(List Bs)):Option (Int):=
 chk (l0.length≤9223372036854775807) <|
 y4 (G9 (I5 a1 l0) l0.length ()) (I6)
def A8(a1:Bs)(l0:(List Bs)):Option (Bool):=
 (M4 a1 l0).bind fun v1=>
 some (decide (0≤v1))
def M1(a0:(List Bs)):Option (List Bs):=
 some a0
def bP(self:(u5)→Option (u5))(a0:u5)(k0:Nat)(s0:(List u5)):Option (Ctl (u5) ((List u5)) ((List u5))):=
 (self (get a0.subs k0)).bind fun v9=>
 aB (s0++[v9]) fun c11=>
 chk (c11.length*72≤top∧c11.length≤top) <|
 some (.nxt c11)
def bQ(a0:u5)(v1:(List Bs))(t0:(List u5)):Option (u5):=
 some (u5.mk a0.kind a0.name v1 t0)
def Z4:Nat→(u5)→Option (u5)
 |0,_=>none
 |n+1,a0=>
  (M1 a0.words).bind fun v1=>
  y4 (G9 (bP (Z4 n) a0) a0.subs.length []) (bQ a0 v1)
def aV(v3:(List Bs))(v2:Bool×(List (Bs×u7)))(k0:Nat)(s0:(List Bs)):Option (Ctl ((List u7)×Bool) ((List Bs)) ((List Bs))):=
 aB (s0++[((assoc (get v3 k0) v2.2).getD default).text]) fun c11=>
 chk (c11.length*16≤top∧c11.length≤top) <|
 some (.nxt c11)
def aX(n:Nat)(v1:w6)(v19:(List Bs))(v2:Bool×(List (Bs×u7)))(t0:(List Bs))(k1:Nat)(s1:(List u7)):Option (Ctl ((List u7)×Bool) ((List u7)) ((List u7))):=
 (x5 v1.words (get v19 k1)).bind fun v38=>
 (gd v38 (A8 (((assoc (get v19 k1) v2.2).getD default).text) t0) (default:Bool)).bind fun v39=>
 bif (bif v38 then v39 else false)then
  some (.ret ([],false))
 else
  chk (0≤1∧1≤(get v19 k1).length) <|
  (x5 v1.parts (get v19 k1)).bind fun v42=>
  bif v42 then
   (Z4 n (((assoc (get v19 k1) v2.2).getD default).form)).bind fun v43=>
   aB (s1++[(u7.mk ((get v19 k1).drop 1) (((assoc (get v19 k1) v2.2).getD default).text) v43)]) fun c45=>
   chk (c45.length*104≤top∧c45.length≤top) <|
   some (.nxt c45)
  else
   aB (s1++[(u7.mk ((get v19 k1).drop 1) (((assoc (get v19 k1) v2.2).getD default).text) (((assoc (get v19 k1) v2.2).getD default).form))]) fun c51=>
   chk (c51.length*104≤top∧c51.length≤top) <|
   some (.nxt c51)
def aY(t1:(List u7)):Option ((List u7)×Bool):=
 some (t1,true)
def aW(n:Nat)(v1:w6)(v2:Bool×(List (Bs×u7)))(t0:(List Bs)):Option ((List u7)×Bool):=
 (N4 v1).bind fun v16=>
 (y7 n v1.form).bind fun v17=>
 (kB [v16,v17]).bind fun v19=>
 y4 (G9 (aX n v1 v19 v2 t0) v19.length []) (aY)
def aq(n:Nat)(a0:w6)(a1:u5):Option ((List u7)×Bool):=
 (Z2 n a0).bind fun v1=>
 (B6 n v1 v1.form a1 []).bind fun v2=>
 bif (!v2.1)then
  some ([],false)
 else
  (y7 n v1.form).bind fun v3=>
  y4 (G9 (aV v3 v2) v3.length []) (aW n v1 v2)
def eO(n:Nat)(a0:w6)(a1:u5):Option ((List u7)×Bool×w9):=
 (K9 n a0).bind fun v1=>
 bif (!decide (v1.code=0))then
  some ([],false,v1)
 else
  (M7 n a1).bind fun v2=>
  bif (!decide (v2.code=0))then
   some ([],false,v2)
  else
   (Z1 n a1).bind fun v3=>
   (aq n a0 v3).bind fun v4=>
   some (v4.1,v4.2,(w9.mk 0 0))
def au(self:(u5)→(Int)→(Int)→(Bs)→((List Bs))→((List u5))→((List Bs))→((List Bs))→((List Bs))→((List x9))→Option (Int×(List x9)))(a0:u5)(S1:Int)(pV:Bs)(pW:(List Bs))(pX:(List u5))(pY:(List Bs))(pZ:(List Bs))(qb:(List Bs))(k1:Nat)(s1:Int×(List x9)):Option (Ctl (Int×(List x9)) (Int×(List x9)) (Int×(List x9))):=
 (self (get a0.subs k1) s1.1 S1 pV pW pX pY pZ qb s1.2).bind fun v10=>
 some (.nxt (v10.1,v10.2))
def av(t1:Int×(List x9)):Option (Int×(List x9)):=
 some (t1.1,t1.2)
def Q0(self:(u5)→(Int)→(Int)→(Bs)→((List Bs))→((List u5))→((List Bs))→((List Bs))→((List Bs))→((List x9))→Option (Int×(List x9)))(a0:u5)(S1:Int)(pV:Bs)(pW:(List Bs))(pX:(List u5))(pY:(List Bs))(pZ:(List Bs))(qb:(List Bs))(I7:Int)(j0:(List x9)):Option (Int×(List x9)):=
 y4 (G9 (au self a0 S1 pV pW pX pY pZ qb) a0.subs.length ((wr .i64 (I7+1)),j0)) (av)
def J0:Nat→(u5)→(Int)→(Int)→(Bs)→((List Bs))→((List u5))→((List Bs))→((List Bs))→((List Bs))→((List x9))→Option (Int×(List x9))
 |0,_,_,_,_,_,_,_,_,_,_=>none
 |n+1,a0,I7,S1,pV,pW,pX,pY,pZ,qb,l3=>
  (aq n (w6.mk (u5.mk S1 pV pW pX) pY pZ qb) a0).bind fun v1=>
  bif v1.2 then
   aB (l3++[(x9.mk I7 v1.1)]) fun c3=>
   chk (c3.length*32≤top∧c3.length≤top) <|
   Q0 (J0 n) a0 S1 pV pW pX pY pZ qb I7 c3
  else
   Q0 (J0 n) a0 S1 pV pW pX pY pZ qb I7 l3
def P5(n:Nat)(a0:w6)(a1:u5):Option ((List x9)×w9):=
 (K9 n a0).bind fun v1=>
 bif (!decide (v1.code=0))then
  some ([],v1)
 else
  (M7 n a1).bind fun v2=>
  bif (!decide (v2.code=0))then
   some ([],v2)
  else
   (Z1 n a1).bind fun v3=>
   (J0 n v3 0 a0.form.kind a0.form.name a0.form.words a0.form.subs a0.words a0.y5 a0.parts []).bind fun v4=>
   some (v4.2,(w9.mk 0 0))
def E2(a0:(List Bs))(a1:(List Bs))(s0:Int):Option (Ctl (Bool) (Int) (Unit)):=
 bif (decide (s0<(↑a0.length:Int)))then
  chk (0≤s0∧s0<(↑a0.length:Int)) <|
  chk (s0<(↑a1.length:Int)) <|
  bif (!decide ((get a0 s0.toNat)=(get a1 s0.toNat)))then
   some (.ret false)
  else
   some (.nxt (wr .i64 (s0+1)))
 else
  some (.brk ())
def R2(t0:Unit):Option (Bool):=
 some true
def H7(n:Nat)(a0:(List Bs))(a1:(List Bs)):Option (Bool):=
 bif (!decide ((↑a0.length:Int)=(↑a1.length:Int)))then
  some false
 else
  y4 (E9 (E2 a0 a1) n 0) (R2)
def F1(self:(u5)→(u5)→Option (Bool))(a0:u5)(a1:u5)(s0:Int):Option (Ctl (Bool) (Int) (Unit)):=
 bif (decide (s0<(↑a0.subs.length:Int)))then
  chk (0≤s0∧s0<(↑a0.subs.length:Int)) <|
  chk (s0<(↑a1.subs.length:Int)) <|
  (self (get a0.subs s0.toNat) (get a1.subs s0.toNat)).bind fun v8=>
  bif (!v8)then
   some (.ret false)
  else
   some (.nxt (wr .i64 (s0+1)))
 else
  some (.brk ())
def S2(t0:Unit):Option (Bool):=
 some true
def B0:Nat→(u5)→(u5)→Option (Bool)
 |0,_,_=>none
 |n+1,a0,a1=>
  (gd (!(bif (!decide (a0.kind=a1.kind))then true else(!decide (a0.name=a1.name)))) (H7 n a0.words a1.words) default).bind fun v1=>
  bif (bif (bif (bif (!decide (a0.kind=a1.kind))then true else(!decide (a0.name=a1.name)))then true else(!v1))then true else(!decide ((↑a0.subs.length:Int)=(↑a1.subs.length:Int))))then
   some false
  else
   y4 (E9 (F1 (B0 n) a0 a1) n 0) (S2)
def y9(n:Nat):Option (Bool):=
 (W5 [112] []).bind fun v1=>
 (W5 [113] []).bind fun v2=>
 (R0 5 v1 v2).bind fun v3=>
 (R0 5 (u5.mk 1 [] [] []) (u5.mk 4 [] [] [(u5.mk 1 [] [] [])])).bind fun v6=>
 (eO n (w6.mk v3 [] [] [[112],[113]]) v6).bind fun v7=>
 (R0 5 (u5.mk 1 [] [] []) (u5.mk 4 [] [] [(u5.mk 1 [] [] [])])).bind fun v8=>
 (P5 n (w6.mk v3 [] [] [[112],[113]]) v8).bind fun v9=>
 chk (fJ (bif (bif (bif (decide (v7.2.2.code=0))then(decide (v9.2.code=0))else false)then v7.2.1 else false)then(decide ((↑v7.1.length:Int)=2))else false) (0<(↑v7.1.length:Int))) <|
 (gd (bif (bif (bif (decide (v7.2.2.code=0))then(decide (v9.2.code=0))else false)then v7.2.1 else false)then(decide ((↑v7.1.length:Int)=2))else false) (B0 n ((get v7.1 0).form) (u5.mk 1 [] [] [])) default).bind fun v12=>
 chk (fJ (bif (bif (bif (bif (decide (v7.2.2.code=0))then(decide (v9.2.code=0))else false)then v7.2.1 else false)then(decide ((↑v7.1.length:Int)=2))else false)then v12 else false) (1<(↑v7.1.length:Int))) <|
 (gd (bif (bif (bif (bif (decide (v7.2.2.code=0))then(decide (v9.2.code=0))else false)then v7.2.1 else false)then(decide ((↑v7.1.length:Int)=2))else false)then v12 else false) (B0 n ((get v7.1 1).form) (u5.mk 4 [] [] [(u5.mk 1 [] [] [])])) default).bind fun v15=>
 chk (fJ (bif (bif (bif (bif (bif (bif (decide (v7.2.2.code=0))then(decide (v9.2.code=0))else false)then v7.2.1 else false)then(decide ((↑v7.1.length:Int)=2))else false)then v12 else false)then v15 else false)then(decide ((↑v9.1.length:Int)=1))else false) (0<(↑v9.1.length:Int))) <|
 some (bif (bif (bif (bif (bif (bif (bif (decide (v7.2.2.code=0))then(decide (v9.2.code=0))else false)then v7.2.1 else false)then(decide ((↑v7.1.length:Int)=2))else false)then v12 else false)then v15 else false)then(decide ((↑v9.1.length:Int)=1))else false)then(decide (((get v9.1 0).at_)=0))else false)
def M8(a0:Int):Option (Int):=
 bif (bif (decide (a0<1))then true else(decide (9<a0)))then
  some (-1)
 else
  chk (0≤a0∧a0<10) <|
  some (get [0,0,0,0,1,2,2,2,1,1] a0.toNat)
def R5(a0:Bs)(s0:Int):Option (Ctl (Bool) (Int) (Unit)):=
 bif (decide (s0<(↑a0.length:Int)))then
  chk (0≤s0∧s0<(↑a0.length:Int)) <|
  bif (bif (!(bif (decide (97≤(C8 a0 s0)))then(decide ((C8 a0 s0)≤122))else false))then(bif (decide (s0=0))then true else(!(bif (bif (bif (decide (48≤(C8 a0 s0)))then(decide ((C8 a0 s0)≤57))else false)then true else(decide ((C8 a0 s0)=95)))then true else(decide ((C8 a0 s0)=45)))))else false)then
   some (.ret false)
  else
   some (.nxt (wr .i64 (s0+1)))
 else
  some (.brk ())
def Y1(t0:Unit):Option (Bool):=
 some true
def K8(n:Nat)(a0:Bs):Option (Bool):=
 bif (bif (decide ((↑a0.length:Int)<1))then true else(decide (30<(↑a0.length:Int))))then
  some false
 else
  y4 (E9 (R5 a0) n 0) (Y1)
def H9(s0:(List w5)×Int×Nat)(s12:(List w5)×Int×Nat):Option (Ctl (Ctl (w9) ((List w5)×Int×Nat) (Unit)) ((List w5)×Int×Nat) ((List w5)×Nat)):=
 bif (decide (0≤s12.2.1))then
  chk (0≤s12.2.1∧s12.2.1<(↑(((get s0.1 ((wr .i64 ((↑s0.2.2:Int)-1)).toNat)).f.subs).length):Int)) <|
  chk (s12.2.2≤s12.1.length) <|
  aB ((s12.1.take s12.2.2)++[(w5.mk (get ((get s0.1 ((wr .i64 ((↑s0.2.2:Int)-1)).toNat)).f.subs) s12.2.1.toNat) (wr .i64 (((get s0.1 ((wr .i64 ((↑s0.2.2:Int)-1)).toNat)).depth)+1)))]) fun c51=>
  chk (c51.length*80≤top∧c51.length≤top) <|
  some (.nxt (c51,(wr .i64 (s12.2.1-1)),c51.length))
 else
  some (.brk (s12.1,s12.2.2))
def I0(s0:(List w5)×Int×Nat)(t12:(List w5)×Nat):Option (Ctl (w9) ((List w5)×Int×Nat) (Unit)):=
 some (.nxt (t12.1,(wr .i64 (s0.2.1+1)),t12.2))
def y3(n:Nat)(s0:(List w5)×Int×Nat)(j10:Int):Option (Ctl (w9) ((List w5)×Int×Nat) (Unit)):=
 bif (!decide (j10=0))then
  some (.ret (w9.mk j10 s0.2.1))
 else
  y4 (E9 (H9 s0) n (s0.1,(wr .i64 ((↑(((get s0.1 ((wr .i64 ((↑s0.2.2:Int)-1)).toNat)).f.subs).length):Int)-1)),(wr .i64 ((↑s0.2.2:Int)-1)).toNat)) (I0 s0)
def I3(n:Nat)(s0:(List w5)×Int×Nat)(k11:Nat)(s11:Int):Option (Ctl (Ctl (w9) ((List w5)×Int×Nat) (Unit)) (Int) (Int)):=
 (K8 n (get ((get s0.1 ((wr .i64 ((↑s0.2.2:Int)-1)).toNat)).f.words) k11)).bind fun v37=>
 bif (!v37)then
  some (.nxt 10)
 else
  some (.nxt s11)
def I4(n:Nat)(s0:(List w5)×Int×Nat)(t11:Int):Option (Ctl (w9) ((List w5)×Int×Nat) (Unit)):=
 y3 n s0 t11
def C4(n:Nat)(s0:(List w5)×Int×Nat)(j7:Int)(j9:Int×Int):Option (Ctl (w9) ((List w5)×Int×Nat) (Unit)):=
 bif (bif (decide (200≤s0.2.1))then true else(decide (40<((get s0.1 ((wr .i64 ((↑s0.2.2:Int)-1)).toNat)).depth))))then
  y3 n s0 1
 else
  bif (decide (j7<0))then
   y3 n s0 4
  else
   bif (bif (bif (!decide ((↑(((get s0.1 ((wr .i64 ((↑s0.2.2:Int)-1)).toNat)).f.subs).length):Int)=j7))then true else(decide ((↑(((get s0.1 ((wr .i64 ((↑s0.2.2:Int)-1)).toNat)).f.words).length):Int)<j9.2)))then true else(decide (j9.1<(↑(((get s0.1 ((wr .i64 ((↑s0.2.2:Int)-1)).toNat)).f.words).length):Int))))then
    y3 n s0 9
   else
    (gd (bif (bif (bif (decide (((get s0.1 ((wr .i64 ((↑s0.2.2:Int)-1)).toNat)).f.kind)=2))then true else(decide (((get s0.1 ((wr .i64 ((↑s0.2.2:Int)-1)).toNat)).f.kind)=8)))then true else(decide (((get s0.1 ((wr .i64 ((↑s0.2.2:Int)-1)).toNat)).f.kind)=9)))then true else(decide (((get s0.1 ((wr .i64 ((↑s0.2.2:Int)-1)).toNat)).f.kind)=10))) (K8 n ((get s0.1 ((wr .i64 ((↑s0.2.2:Int)-1)).toNat)).f.name)) default).bind fun v35=>
    bif (bif (bif (bif (bif (decide (((get s0.1 ((wr .i64 ((↑s0.2.2:Int)-1)).toNat)).f.kind)=2))then true else(decide (((get s0.1 ((wr .i64 ((↑s0.2.2:Int)-1)).toNat)).f.kind)=8)))then true else(decide (((get s0.1 ((wr .i64 ((↑s0.2.2:Int)-1)).toNat)).f.kind)=9)))then true else(decide (((get s0.1 ((wr .i64 ((↑s0.2.2:Int)-1)).toNat)).f.kind)=10)))then(!v35)else false)then
     y3 n s0 10
    else
     bif (bif (!(bif (bif (bif (decide (((get s0.1 ((wr .i64 ((↑s0.2.2:Int)-1)).toNat)).f.kind)=2))then true else(decide (((get s0.1 ((wr .i64 ((↑s0.2.2:Int)-1)).toNat)).f.kind)=8)))then true else(decide (((get s0.1 ((wr .i64 ((↑s0.2.2:Int)-1)).toNat)).f.kind)=9)))then true else(decide (((get s0.1 ((wr .i64 ((↑s0.2.2:Int)-1)).toNat)).f.kind)=10))))then(!decide (((get s0.1 ((wr .i64 ((↑s0.2.2:Int)-1)).toNat)).f.name)=[]))else false)then
      y3 n s0 5
     else
      y4 (G9 (I3 n s0) (((get s0.1 ((wr .i64 ((↑s0.2.2:Int)-1)).toNat)).f.words).length) 0) (I4 n s0)
def C5(n:Nat)(s0:(List w5)×Int×Nat)(j7:Int)(j8:Int):Option (Ctl (w9) ((List w5)×Int×Nat) (Unit)):=
 bif (decide (((get s0.1 ((wr .i64 ((↑s0.2.2:Int)-1)).toNat)).f.kind)=3))then
  C4 n s0 j7 (2,2)
 else
  C4 n s0 j7 (j8,0)
def E0(n:Nat)(s0:(List w5)×Int×Nat)(j7:Int):Option (Ctl (w9) ((List w5)×Int×Nat) (Unit)):=
 bif (decide (((get s0.1 ((wr .i64 ((↑s0.2.2:Int)-1)).toNat)).f.kind)=2))then
  C5 n s0 j7 3
 else
  C5 n s0 j7 0
def C2(n:Nat)(a1:Bool)(s0:(List w5)×Int×Nat):Option (Ctl (w9) ((List w5)×Int×Nat) (Unit)):=
 bif (decide (0<(↑s0.2.2:Int)))then
  chk (s0.2.2≤s0.1.length) <|
  chk (0≤(wr .i64 ((↑s0.2.2:Int)-1))∧(wr .i64 ((↑s0.2.2:Int)-1))<(↑s0.2.2:Int)) <|
  chk ((wr .i64 ((↑s0.2.2:Int)-1)).toNat≤s0.2.2) <|
  (M8 ((get s0.1 ((wr .i64 ((↑s0.2.2:Int)-1)).toNat)).f.kind)).bind fun v34=>
  bif (bif a1 then(decide (((get s0.1 ((wr .i64 ((↑s0.2.2:Int)-1)).toNat)).f.kind)=10))else false)then
   E0 n s0 0
  else
   E0 n s0 v34
 else
  some (.brk ())
def R3(t0:Unit):Option (w9):=
 some (w9.mk 0 0)
def N3(n:Nat)(a0:u5)(a1:Bool):Option (w9):=
 y4 (E9 (C2 n a1) n ([(w5.mk a0 1)],0,1)) (R3)
def H6(n:Nat)(a0:u5):Option (w9):=
 (N3 n a0 false).bind fun v1=>
 some v1
def L3(a2:(List Bs))(s0:(List Bool)×Int)(a1:u5)(s2:Bool×Int):Option (Ctl (Ctl ((List u6)) ((List Bool)×Int) ((List Bool))) (Bool×Int) (Bool)):=
 bif (decide (s2.2<(↑a2.length:Int)))then
  chk (fJ (!s2.1) (0≤s2.2)∧fJ (!s2.1) (s2.2<(↑a2.length:Int))) <|
  chk (fJ (!s2.1) (0≤s0.2)∧fJ (!s2.1) (s0.2<(↑a1.words.length:Int))) <|
  some (.nxt ((bif s2.1 then true else(decide ((get a2 s2.2.toNat)=(get a1.words s0.2.toNat)))),(wr .i64 (s2.2+1))))
 else
  some (.brk s2.1)
def T4(s0:(List Bool)×Int)(t2:Bool):Option (Ctl ((List u6)) ((List Bool)×Int) ((List Bool))):=
 aB (s0.1++[t2]) fun c28=>
 chk (c28.length*1≤top∧c28.length≤top) <|
 some (.nxt (c28,(wr .i64 (s0.2+1))))
def L2(n:Nat)(a1:u5)(a2:(List Bs))(s0:(List Bool)×Int):Option (Ctl ((List u6)) ((List Bool)×Int) ((List Bool))):=
 bif (decide (s0.2<(↑a1.words.length:Int)))then
  y4 (E9 (L3 a2 s0 a1) n (false,0)) (T4 s0)
 else
  some (.brk s0.1)
def F8(self:(u5)→((List Bs))→((List u6))→Option ((List u6)))(a1:u5)(j3:(List Bs))(s5:(List u6)×Int):Option (Ctl ((List u6)) ((List u6)×Int) ((List u6))):=
 bif (decide (s5.2<(↑a1.subs.length:Int)))then
  chk (0≤s5.2∧s5.2<(↑a1.subs.length:Int)) <|
  (self (get a1.subs s5.2.toNat) j3 s5.1).bind fun v68=>
  some (.nxt (v68,(wr .i64 (s5.2+1))))
 else
  some (.brk s5.1)
def L5(l0:(List u6))(t5:(List u6)):Option ((List u6)):=
 chk ((↑l0.length:Int)<(↑t5.length:Int)) <|
 aB (t5.set l0.length (u6.mk ((get t5 l0.length).kind) ((get t5 l0.length).name) ((get t5 l0.length).words) ((get t5 l0.length).bound) (↑t5.length:Int))) fun c73=>
 some c73
def D4(self:(u5)→((List Bs))→((List u6))→Option ((List u6)))(n:Nat)(a1:u5)(c34:(List u6))(l0:(List u6))(j3:(List Bs)):Option ((List u6)):=
 y4 (E9 (F8 self a1 j3) n (c34,0)) (L5 l0)
def L6(a2:(List Bs))(s4:(List Bs)×Int):Option (Ctl ((List u6)) ((List Bs)×Int) ((List Bs))):=
 bif (decide (s4.2<(↑a2.length:Int)))then
  chk (0≤s4.2∧s4.2<(↑a2.length:Int)) <|
  aB (s4.1++[(get a2 s4.2.toNat)]) fun c58=>
  chk (c58.length*16≤top∧c58.length≤top) <|
  some (.nxt (c58,(wr .i64 (s4.2+1))))
 else
  some (.brk s4.1)
def T5(self:(u5)→((List Bs))→((List u6))→Option ((List u6)))(n:Nat)(a1:u5)(c34:(List u6))(l0:(List u6))(t4:(List Bs)):Option ((List u6)):=
 D4 self n a1 c34 l0 t4
def L4(self:(u5)→((List Bs))→((List u6))→Option ((List u6)))(n:Nat)(l0:(List u6))(a1:u5)(a2:(List Bs))(t0:(List Bool)):Option ((List u6)):=
 aB (l0++[(u6.mk a1.kind a1.name a1.words t0 0)]) fun c34=>
 chk (c34.length*80≤top∧c34.length≤top) <|
 bif (bif (decide (a1.kind=8))then true else(decide (a1.kind=9)))then
  y4 (E9 (L6 a2) n ([a1.name],0)) (T5 self n a1 c34 l0)
 else
  D4 self n a1 c34 l0 a2
def y8:Nat→(u5)→((List Bs))→((List u6))→Option ((List u6))
 |0,_,_,_=>none
 |n+1,a1,a2,l0=>
  y4 (E9 (L2 n a1 a2) n ([],0)) (L4 (y8 n) n l0 a1 a2)
def O7(a2:(List Bs))(s0:(List Bool)×Int)(a1:u5)(s2:Bool×Int):Option (Ctl (Ctl ((List u6)) ((List Bool)×Int) ((List Bool))) (Bool×Int) (Bool)):=
 bif (decide (s2.2<(↑a2.length:Int)))then
  chk (fJ (!s2.1) (0≤s2.2)∧fJ (!s2.1) (s2.2<(↑a2.length:Int))) <|
  chk (fJ (!s2.1) (0≤s0.2)∧fJ (!s2.1) (s0.2<(↑a1.words.length:Int))) <|
  some (.nxt ((bif s2.1 then true else(decide ((get a2 s2.2.toNat)=(get a1.words s0.2.toNat)))),(wr .i64 (s2.2+1))))
 else
  some (.brk s2.1)
def W6(s0:(List Bool)×Int)(t2:Bool):Option (Ctl ((List u6)) ((List Bool)×Int) ((List Bool))):=
 aB (s0.1++[t2]) fun c28=>
 chk (c28.length*1≤top∧c28.length≤top) <|
 some (.nxt (c28,(wr .i64 (s0.2+1))))
def O6(n:Nat)(a1:u5)(a2:(List Bs))(s0:(List Bool)×Int):Option (Ctl ((List u6)) ((List Bool)×Int) ((List Bool))):=
 bif (decide (s0.2<(↑a1.words.length:Int)))then
  y4 (E9 (O7 a2 s0 a1) n (false,0)) (W6 s0)
 else
  some (.brk s0.1)
def J3(n:Nat)(a1:u5)(j3:(List Bs))(s5:(List u6)×Int):Option (Ctl ((List u6)) ((List u6)×Int) ((List u6))):=
 bif (decide (s5.2<(↑a1.subs.length:Int)))then
  chk (0≤s5.2∧s5.2<(↑a1.subs.length:Int)) <|
  (y8 n (get a1.subs s5.2.toNat) j3 s5.1).bind fun v68=>
  some (.nxt (v68,(wr .i64 (s5.2+1))))
 else
  some (.brk s5.1)
def O9(t5:(List u6)):Option ((List u6)):=
 chk (0<(↑t5.length:Int)) <|
 aB (t5.set 0 (u6.mk ((get t5 0).kind) ((get t5 0).name) ((get t5 0).words) ((get t5 0).bound) (↑t5.length:Int))) fun c73=>
 some c73
def E6(n:Nat)(a1:u5)(c34:(List u6))(j3:(List Bs)):Option ((List u6)):=
 y4 (E9 (J3 n a1 j3) n (c34,0)) (O9)
def P0(a2:(List Bs))(s4:(List Bs)×Int):Option (Ctl ((List u6)) ((List Bs)×Int) ((List Bs))):=
 bif (decide (s4.2<(↑a2.length:Int)))then
  chk (0≤s4.2∧s4.2<(↑a2.length:Int)) <|
  aB (s4.1++[(get a2 s4.2.toNat)]) fun c58=>
  chk (c58.length*16≤top∧c58.length≤top) <|
  some (.nxt (c58,(wr .i64 (s4.2+1))))
 else
  some (.brk s4.1)
def W7(n:Nat)(a1:u5)(c34:(List u6))(t4:(List Bs)):Option ((List u6)):=
 E6 n a1 c34 t4
def O8(n:Nat)(a1:u5)(a2:(List Bs))(t0:(List Bool)):Option ((List u6)):=
 aB [(u6.mk a1.kind a1.name a1.words t0 0)] fun c34=>
 chk (c34.length*80≤top∧c34.length≤top) <|
 bif (bif (decide (a1.kind=8))then true else(decide (a1.kind=9)))then
  y4 (E9 (P0 a2) n ([a1.name],0)) (W7 n a1 c34)
 else
  E6 n a1 c34 a2
def O4(n:Nat)(a1:u5)(a2:(List Bs)):Option ((List u6)):=
 y4 (E9 (O6 n a1 a2) n ([],0)) (O8 n a1 a2)
def J4(a0:Bs)(s0:Int):Option (Ctl (Bool) (Int) (Unit)):=
 bif (decide (s0<(↑a0.length:Int)))then
  chk (0≤s0∧s0<(↑a0.length:Int)) <|
  bif (!(bif (bif (decide (97≤(C8 a0 s0)))then(decide ((C8 a0 s0)≤122))else false)then true else(bif (decide (0<s0))then(bif (bif (bif (decide (48≤(C8 a0 s0)))then(decide ((C8 a0 s0)≤57))else false)then true else(decide ((C8 a0 s0)=95)))then true else(decide ((C8 a0 s0)=45)))else false)))then
   some (.ret false)
  else
   some (.nxt (wr .i64 (s0+1)))
 else
  some (.brk ())
def P4(a0:Bs)(t0:Unit):Option (Bool):=
 some (bif (decide (0<(↑a0.length:Int)))then(decide ((↑a0.length:Int)≤30))else false)
def O5(n:Nat)(a0:Bs):Option (Bool):=
 y4 (E9 (J4 a0) n 0) (P4 a0)
def L9(a0:(List Bs))(a1:Bs)(s0:Int):Option (Ctl (Int) (Int) (Unit)):=
 bif (decide (s0<(↑a0.length:Int)))then
  chk (0≤s0∧s0<(↑a0.length:Int)) <|
  bif (decide ((get a0 s0.toNat)=a1))then
   some (.ret s0)
  else
   some (.nxt (wr .i64 (s0+1)))
 else
  some (.brk ())
def T6(t0:Unit):Option (Int):=
 some (-1)
def R6(n:Nat)(a0:(List Bs))(a1:Bs):Option (Int):=
 y4 (E9 (L9 a0 a1) n 0) (T6)
def M0(l0:(List Bs))(a1:Bs)(s0:Int):Option (Ctl (Int) (Int) (Unit)):=
 bif (decide (s0<(↑l0.length:Int)))then
  chk (0≤s0∧s0<(↑l0.length:Int)) <|
  bif (decide ((get l0 s0.toNat)=a1))then
   some (.ret s0)
  else
   some (.nxt (wr .i64 (s0+1)))
 else
  some (.brk ())
def T7(t0:Unit):Option (Int):=
 some (-1)
def R7(n:Nat)(a1:Bs)(l0:(List Bs)):Option (Int):=
 y4 (E9 (M0 l0 a1) n 0) (T7)
def N8(a0:w6)(s0:(List Bs)×Int):Option (Ctl (w9) ((List Bs)×Int) ((List Bs))):=
 bif (decide (s0.2<(↑a0.words.length:Int)))then
  chk (0≤s0.2∧s0.2<(↑a0.words.length:Int)) <|
  aB (s0.1++[(get a0.words s0.2.toNat)]) fun c20=>
  chk (c20.length*16≤top∧c20.length≤top) <|
  some (.nxt (c20,(wr .i64 (s0.2+1))))
 else
  some (.brk s0.1)
def N9(a0:w6)(s1:(List Bs)×Int):Option (Ctl (w9) ((List Bs)×Int) ((List Bs))):=
 bif (decide (s1.2<(↑a0.y5.length:Int)))then
  chk (0≤s1.2∧s1.2<(↑a0.y5.length:Int)) <|
  aB (s1.1++[(get a0.y5 s1.2.toNat)]) fun c35=>
  chk (c35.length*16≤top∧c35.length≤top) <|
  some (.nxt (c35,(wr .i64 (s1.2+1))))
 else
  some (.brk s1.1)
def O1(a0:w6)(s2:(List Bs)×Int):Option (Ctl (w9) ((List Bs)×Int) ((List Bs))):=
 bif (decide (s2.2<(↑a0.parts.length:Int)))then
  chk (0≤s2.2∧s2.2<(↑a0.parts.length:Int)) <|
  aB (s2.1++[(get a0.parts s2.2.toNat)]) fun c50=>
  chk (c50.length*16≤top∧c50.length≤top) <|
  some (.nxt (c50,(wr .i64 (s2.2+1))))
 else
  some (.brk s2.1)
def D0(s3:Int)(t2:(List Bs))(s8:Int):Option (Ctl (Ctl (w9) (Int) (Unit)) (Int) (Unit)):=
 bif (decide (s8<s3))then
  chk (0≤s8∧s8<(↑t2.length:Int)) <|
  bif (decide ((get t2 s8.toNat)=(get t2 s3.toNat)))then
   some (.ret (.ret (w9.mk 7 s3)))
  else
   some (.nxt (wr .i64 (s8+1)))
 else
  some (.brk ())
def B1(s9:Bool×Bool×Int)(v55:(List u6))(s3:Int)(t2:(List Bs))(s11:Bool×Int):Option (Ctl (Ctl (Ctl (w9) (Int) (Unit)) (Bool×Bool×Int) (Bool×Bool)) (Bool×Int) (Bool)):=
 chk (0≤s9.2.2∧s9.2.2<(↑v55.length:Int)) <|
 bif (decide (s11.2<(↑(((get v55 s9.2.2.toNat).words).length):Int)))then
  chk (fJ (!s11.1) (0≤s11.2)∧fJ (!s11.1) (s11.2<(↑(((get v55 s9.2.2.toNat).words).length):Int))) <|
  chk (s3.toNat<t2.length) <|
  chk (fJ ((!s11.1)&&(decide ((get ((get v55 s9.2.2.toNat).words) s11.2.toNat)=(get t2 s3.toNat)))) (0≤s11.2)∧fJ ((!s11.1)&&(decide ((get ((get v55 s9.2.2.toNat).words) s11.2.toNat)=(get t2 s3.toNat)))) (s11.2<(↑(((get v55 s9.2.2.toNat).bound).length):Int))) <|
  some (.nxt ((bif s11.1 then true else(bif (decide ((get ((get v55 s9.2.2.toNat).words) s11.2.toNat)=(get t2 s3.toNat)))then(!(get ((get v55 s9.2.2.toNat).bound) s11.2.toNat))else false)),(wr .i64 (s11.2+1))))
 else
  some (.brk s11.1)
def F4(s9:Bool×Bool×Int)(t11:Bool):Option (Ctl (Ctl (w9) (Int) (Unit)) (Bool×Bool×Int) (Bool×Bool)):=
 some (.nxt (t11,s9.2.1,(wr .i64 (s9.2.2+1))))
def B4(n:Nat)(v55:(List u6))(s3:Int)(a0:w6)(t2:(List Bs))(s9:Bool×Bool×Int):Option (Ctl (Ctl (w9) (Int) (Unit)) (Bool×Bool×Int) (Bool×Bool)):=
 bif (decide (s9.2.2<(↑v55.length:Int)))then
  bif (decide (s3<(↑a0.words.length:Int)))then
   y4 (E9 (B1 s9 v55 s3 t2) n (s9.1,0)) (F4 s9)
  else
   chk (0≤s9.2.2∧s9.2.2<(↑v55.length:Int)) <|
   chk (s3.toNat<t2.length) <|
   bif (bif (decide (((get v55 s9.2.2.toNat).kind)=2))then(decide (((get v55 s9.2.2.toNat).name)=(get t2 s3.toNat)))else false)then
    some (.nxt (true,(bif s9.2.1 then true else(decide (0<(↑(((get v55 s9.2.2.toNat).words).length):Int)))),(wr .i64 (s9.2.2+1))))
   else
    some (.nxt (s9.1,s9.2.1,(wr .i64 (s9.2.2+1))))
 else
  some (.brk (s9.1,s9.2.1))
def G0(a0:w6)(s3:Int)(t9:Bool×Bool):Option (Ctl (w9) (Int) (Unit)):=
 bif (bif (decide ((wr .i64 ((↑a0.words.length:Int)+(↑a0.y5.length:Int)))≤s3))then t9.2 else false)then
  some (.ret (w9.mk 5 s3))
 else
  bif (!t9.1)then
   some (.ret (w9.mk 15 s3))
  else
   some (.nxt (wr .i64 (s3+1)))
def F9(n:Nat)(v55:(List u6))(s3:Int)(a0:w6)(t2:(List Bs))(t8:Unit):Option (Ctl (w9) (Int) (Unit)):=
 y4 (E9 (B4 n v55 s3 a0 t2) n (false,false,0)) (G0 a0 s3)
def B5(n:Nat)(t2:(List Bs))(v55:(List u6))(a0:w6)(s3:Int):Option (Ctl (w9) (Int) (Unit)):=
 bif (decide (s3<(↑t2.length:Int)))then
  chk (0≤s3∧s3<(↑t2.length:Int)) <|
  (O5 n (get t2 s3.toNat)).bind fun v115=>
  bif (!v115)then
   some (.ret (w9.mk 10 s3))
  else
   y4 (E9 (D0 s3 t2) n 0) (F9 n v55 s3 a0 t2)
 else
  some (.brk ())
def B2(n:Nat)(v55:(List u6))(a0:w6)(s12:(List Bs)×Int):Option (Ctl (w9) ((List Bs)×Int) (Unit)):=
 bif (decide (s12.2<(↑v55.length:Int)))then
  chk (0≤s12.2∧s12.2<(↑v55.length:Int)) <|
  bif (bif (decide (((get v55 s12.2.toNat).kind)=8))then true else(decide (((get v55 s12.2.toNat).kind)=9)))then
   (R7 n ((get v55 s12.2.toNat).name) s12.1).bind fun v195=>
   (gd (!(decide (0≤v195))) (R6 n a0.words ((get v55 s12.2.toNat).name)) default).bind fun v196=>
   bif (bif (decide (0≤v195))then true else(decide (0≤v196)))then
    some (.ret (w9.mk 7 (-1)))
   else
    aB (s12.1++[(get v55 s12.2.toNat).name]) fun c198=>
    chk (c198.length*16≤top∧c198.length≤top) <|
    some (.nxt (c198,(wr .i64 (s12.2+1))))
  else
   some (.nxt (s12.1,(wr .i64 (s12.2+1))))
 else
  some (.brk ())
def M9(t12:Unit):Option (w9):=
 some (w9.mk 0 0)
def G4(n:Nat)(v55:(List u6))(a0:w6)(t3:Unit):Option (w9):=
 y4 (E9 (B2 n v55 a0) n ([],0)) (M9)
def G3(n:Nat)(a0:w6)(t2:(List Bs)):Option (w9):=
 (O4 n a0.form []).bind fun v55=>
 y4 (E9 (B5 n t2 v55 a0) n 0) (G4 n v55 a0)
def G2(n:Nat)(a0:w6)(t1:(List Bs)):Option (w9):=
 y4 (E9 (O1 a0) n (t1,0)) (G3 n a0)
def G1(n:Nat)(a0:w6)(t0:(List Bs)):Option (w9):=
 y4 (E9 (N9 a0) n (t0,0)) (G2 n a0)
def F0(n:Nat)(a0:w6):Option (w9):=
 (H6 n a0.form).bind fun v1=>
 bif (!decide (v1.code=0))then
  some v1
 else
  bif (decide (300<(wr .i64 ((wr .i64 ((↑a0.words.length:Int)+(↑a0.y5.length:Int)))+(↑a0.parts.length:Int)))))then
   some (w9.mk 2 (-1))
  else
   y4 (E9 (N8 a0) n ([],0)) (G1 n a0)
def A9(n:Nat)(a0:w6):Option (Bool):=
 (y9 n).bind fun v1=>
 (gd v1 (K9 n a0) default).bind fun v2=>
 (gd v1 (F0 n a0) default).bind fun v3=>
 some (bif v1 then(decide (v2.code=v3.code)&&(decide (v2.index=v3.index)))else false)
def C7(n:Nat)(a0:(List u7))(a1:(List u7))(s0:Int):Option (Ctl (Bool) (Int) (Unit)):=
 bif (decide (s0<(↑a0.length:Int)))then
  chk (0≤s0∧s0<(↑a0.length:Int)) <|
  chk (s0<(↑a1.length:Int)) <|
  (gd (!(bif (!decide (((get a0 s0.toNat).name)=((get a1 s0.toNat).name)))then true else(!decide (((get a0 s0.toNat).text)=((get a1 s0.toNat).text))))) (B0 n ((get a0 s0.toNat).form) ((get a1 s0.toNat).form)) default).bind fun v7=>
  bif (bif (bif (!decide (((get a0 s0.toNat).name)=((get a1 s0.toNat).name)))then true else(!decide (((get a0 s0.toNat).text)=((get a1 s0.toNat).text))))then true else(!v7))then
   some (.ret false)
  else
   some (.nxt (wr .i64 (s0+1)))
 else
  some (.brk ())
def N0(t0:Unit):Option (Bool):=
 some true
def C6(n:Nat)(a0:(List u7))(a1:(List u7)):Option (Bool):=
 bif (!decide ((↑a0.length:Int)=(↑a1.length:Int)))then
  some false
 else
  y4 (E9 (C7 n a0 a1) n 0) (N0)
def C0(n:Nat)(v2:(List x9)×w9)(j0:Int)(v4:(List x9)×w9)(s1:Int):Option (Ctl (Bool) (Int) (Unit)):=
 bif (decide (s1<(↑v2.1.length:Int)))then
  chk (0≤(wr .i64 (s1+j0))∧(wr .i64 (s1+j0))<(↑v4.1.length:Int)) <|
  chk (0≤s1∧s1<(↑v2.1.length:Int)) <|
  (gd (!(!decide (((get v4.1 ((wr .i64 (s1+j0)).toNat)).at_)=(wr .i64 (((get v2.1 s1.toNat).at_)+1))))) (C6 n ((get v4.1 ((wr .i64 (s1+j0)).toNat)).bindings) ((get v2.1 s1.toNat).bindings)) default).bind fun v15=>
  bif (bif (!decide (((get v4.1 ((wr .i64 (s1+j0)).toNat)).at_)=(wr .i64 (((get v2.1 s1.toNat).at_)+1))))then true else(!v15))then
   some (.ret false)
  else
   some (.nxt (wr .i64 (s1+1)))
 else
  some (.brk ())
def J9(t1:Unit):Option (Bool):=
 some true
def A0(n:Nat)(v4:(List x9)×w9)(v2:(List x9)×w9)(j0:Int):Option (Bool):=
 bif (!decide ((↑v4.1.length:Int)=(wr .i64 ((↑v2.1.length:Int)+j0))))then
  some false
 else
  y4 (E9 (C0 n v2 j0 v4) n 0) (J9)
def G6(n:Nat)(a0:w6)(a1:u5):Option (Bool):=
 (y9 n).bind fun v1=>
 bif (!v1)then
  some false
 else
  (P5 n a0 a1).bind fun v2=>
  (P5 n a0 (u5.mk 4 [] [] [a1])).bind fun v4=>
  bif (bif (!decide (v2.2.code=0))then true else(!decide (v4.2.code=0)))then
   some true
  else
   chk (fJ (decide (0<(↑v4.1.length:Int))) (0<(↑v4.1.length:Int))) <|
   bif (bif (decide (0<(↑v4.1.length:Int)))then(decide (((get v4.1 0).at_)=0))else false)then
    A0 n v4 v2 1
   else
    A0 n v4 v2 0
def X2(n:Nat)(a0:u5):Option (u5×w9):=
 (M7 n a0).bind fun v1=>
 bif (!decide (v1.code=0))then
  some ((u5.mk 0 [] [] []),v1)
 else
  (Z1 n a0).bind fun v2=>
  some (v2,(w9.mk 0 0))
def B9(n:Nat)(v3:(List x9)×w9)(v4:(List x9)×w9)(s0:Int):Option (Ctl (Bool) (Int) (Unit)):=
 bif (decide (s0<(↑v3.1.length:Int)))then
  chk (0≤s0∧s0<(↑v3.1.length:Int)) <|
  chk (s0<(↑v4.1.length:Int)) <|
  (gd (!(!decide (((get v3.1 s0.toNat).at_)=((get v4.1 s0.toNat).at_)))) (C6 n ((get v3.1 s0.toNat).bindings) ((get v4.1 s0.toNat).bindings)) default).bind fun v11=>
  bif (bif (!decide (((get v3.1 s0.toNat).at_)=((get v4.1 s0.toNat).at_)))then true else(!v11))then
   some (.ret false)
  else
   some (.nxt (wr .i64 (s0+1)))
 else
  some (.brk ())
def K0(t0:Unit):Option (Bool):=
 some true
def G5(n:Nat)(a0:w6)(a1:u5):Option (Bool):=
 (y9 n).bind fun v1=>
 bif (!v1)then
  some false
 else
  (X2 n a1).bind fun v2=>
  bif (!decide (v2.2.code=0))then
   some true
  else
   (P5 n a0 a1).bind fun v3=>
   (P5 n a0 v2.1).bind fun v4=>
   bif (bif (!(decide (v3.2.code=v4.2.code)&&(decide (v3.2.index=v4.2.index))))then true else(!decide ((↑v3.1.length:Int)=(↑v4.1.length:Int))))then
    some false
   else
    y4 (E9 (B9 n v3 v4) n 0) (K0)
end Go.Proofs.YtdjnbjnlnjhllaaDoor
