import Derived.Test.YtahjhbkhcaphgaaGreatDoorFTStrs
import Derived.Test.YtahjhbkhcaphgaaGreatDoorFTCat
import Derived.Test.YtahjhbkhcaphgaaGreatDoorFTWr
set_option linter.unusedVariables false
set_option linter.unusedSimpArgs false
namespace Go.Proofs.YtahjhbkhcaphgaaGreatDoor
open Go Go.Am
def Y9(a0:Bs)(a1:(List Bs)):Option (u6):=
 some (u6.mk 2 a0 a1 [])
def T2(a0:Int)(a1:u6)(a2:u6):Option (u6):=
 some (u6.mk a0 [] [] [a1,a2])
def R7(a0:Int)(B0:Int):Option (x6):=
 some (x6.mk a0 B0)
def aq(j2:Bool):Option (Int):=
 bif j2 then
  some 2
 else
  some (-1)
def ak(a0:Int)(j1:Bool):Option (Int):=
 bif j1 then
  some 1
 else
  bif (decide (a0=5))then
   aq (decide (a0=5))
  else
   bif (decide (a0=6))then
    aq (decide (a0=6))
   else
    aq (decide (a0=7))
def aj(a0:Int)(j0:Bool):Option (Int):=
 bif j0 then
  some 0
 else
  bif (decide (a0=4))then
   ak a0 (decide (a0=4))
  else
   bif (decide (a0=8))then
    ak a0 (decide (a0=8))
   else
    ak a0 (decide (a0=9))
def eO(a0:Int):Option (Int):=
 bif (decide (a0=1))then
  aj a0 (decide (a0=1))
 else
  bif (decide (a0=2))then
   aj a0 (decide (a0=2))
  else
   aj a0 (decide (a0=3))
def E5(a0:u6):Option (Bool):=
 some (bif (decide (a0.kind=8))then true else(decide (a0.kind=9)))
def gT(a0:Bs)(k0:Nat)(s0:Unit):Option (Ctl (Bool) (Unit) (Unit)):=
 bif (!(bif (bif (bif (bif (decide (97≤(B3 a0 (↑k0:Int))))then(decide ((B3 a0 (↑k0:Int))≤122))else false)then true else(bif (decide (48≤(B3 a0 (↑k0:Int))))then(decide ((B3 a0 (↑k0:Int))≤57))else false))then true else(decide ((B3 a0 (↑k0:Int))=95)))then true else(decide ((B3 a0 (↑k0:Int))=45))))then
  some (.ret false)
 else
  some (.nxt ())
def gU(t0:Unit):Option (Bool):=
 some true
def termName(a0:Bs):Option (Bool):=
 chk (cg (!(bif (decide ((↑a0.length:Int)=0))then true else(decide (30<(↑a0.length:Int))))) (0<(↑a0.length:Int))) <|
 chk (cg (!(bif (bif (decide ((↑a0.length:Int)=0))then true else(decide (30<(↑a0.length:Int))))then true else(decide ((B3 a0 0)<97)))) (0<(↑a0.length:Int))) <|
 bif (bif (bif (bif (decide ((↑a0.length:Int)=0))then true else(decide (30<(↑a0.length:Int))))then true else(decide ((B3 a0 0)<97)))then true else(decide (122<(B3 a0 0))))then
  some false
 else
  chk (a0.length≤9223372036854775807) <|
  B2 (G2 (gT a0) a0.length ()) (gU)
def aY(a0:u6)(B0:Int)(k2:Nat)(s2:Unit):Option (Ctl (x6×Int) (Unit) (Unit)):=
 (termName (get a0.words k2)).bind fun v9=>
 bif (!v9)then
  (R7 10 B0).bind fun v10=>
  some (.ret (v10,(wr .i64 (B0+1))))
 else
  some (.nxt ())
def bf(self:(u6)→(Int)→(Int)→(Bool)→Option (x6×Int))(a0:u6)(a1:Int)(U0:Bool)(k3:Nat)(s3:Int):Option (Ctl (x6×Int) (Int) (Int)):=
 (self (get a0.subs k3) (wr .i64 (a1+1)) s3 U0).bind fun v12=>
 bif (!decide (v12.1.code=0))then
  some (.ret (v12.1,v12.2))
 else
  some (.nxt v12.2)
def bg(t3:Int):Option (x6×Int):=
 some ((x6.mk 0 0),t3)
def aZ(self:(u6)→(Int)→(Int)→(Bool)→Option (x6×Int))(a0:u6)(a1:Int)(U0:Bool)(B0:Int)(t2:Unit):Option (x6×Int):=
 B2 (G2 (bf self a0 a1 U0) a0.subs.length (wr .i64 (B0+1))) (bg)
def O6(self:(u6)→(Int)→(Int)→(Bool)→Option (x6×Int))(a0:u6)(j0:Int)(B0:Int)(a1:Int)(U0:Bool)(j1:Bool):Option (x6×Int):=
 bif (bif (!decide ((↑a0.subs.length:Int)=j0))then true else(!j1))then
  (R7 9 B0).bind fun v4=>
  some (v4,(wr .i64 (B0+1)))
 else
  (gd (!(decide (a0.kind=2))) (E5 a0) default).bind fun v5=>
  (gd (bif (bif (decide (a0.kind=2))then true else v5)then true else(decide (a0.kind=10))) (termName a0.name) default).bind fun v6=>
  bif (bif (bif (bif (decide (a0.kind=2))then true else v5)then true else(decide (a0.kind=10)))then(!v6)else false)then
   (R7 10 B0).bind fun v7=>
   some (v7,(wr .i64 (B0+1)))
  else
   bif (bif (!(bif (bif (decide (a0.kind=2))then true else v5)then true else(decide (a0.kind=10))))then(!decide (a0.name=[]))else false)then
    (R7 5 B0).bind fun v8=>
    some (v8,(wr .i64 (B0+1)))
   else
    B2 (G2 (aY a0 B0) a0.words.length ()) (aZ self a0 a1 U0 B0)
def U2(self:(u6)→(Int)→(Int)→(Bool)→Option (x6×Int))(B0:Int)(a0:u6)(a1:Int)(U0:Bool)(j0:Int):Option (x6×Int):=
 bif (decide (j0<0))then
  (R7 4 B0).bind fun v3=>
  some (v3,(wr .i64 (B0+1)))
 else
  bif (decide (a0.kind=2))then
   O6 self a0 j0 B0 a1 U0 (decide ((↑a0.words.length:Int)≤3))
  else
   bif (decide (a0.kind=3))then
    O6 self a0 j0 B0 a1 U0 (decide ((↑a0.words.length:Int)=2))
   else
    O6 self a0 j0 B0 a1 U0 (decide ((↑a0.words.length:Int)=0))
def F8:Nat→(u6)→(Int)→(Int)→(Bool)→Option (x6×Int)
 |0,_,_,_,_=>none
 |n+1,a0,a1,B0,U0=>
  bif (bif (decide (200<(wr .i64 (B0+1))))then true else(decide (40<a1)))then
   (R7 1 B0).bind fun v1=>
   some (v1,(wr .i64 (B0+1)))
  else
   (eO a0.kind).bind fun v2=>
   bif (bif (decide (a0.kind=10))then U0 else false)then
    U2 (F8 n) B0 a0 a1 U0 0
   else
    U2 (F8 n) B0 a0 a1 U0 v2
def fE(n:Nat)(a0:u6)(a1:Bool):Option (x6):=
 (F8 n a0 1 0 a1).bind fun v1=>
 some v1.1
def S6(n:Nat)(a0:u6):Option (x6):=
 (fE n a0 false).bind fun v1=>
 some v1
def U6(a0:w8):Option ((List Bs)):=
 (qW [a0.words,a0.B1,a0.parts]).bind fun v2=>
 some v2
def C2(a0:Int)(a1:Int):Option (x6):=
 some (x6.mk a0 a1)
def K8(a1:Bs)(a0:(List Bs))(k0:Nat)(s0:Unit):Option (Ctl (Int) (Unit) (Unit)):=
 bif (decide (a1=(get a0 k0)))then
  some (.ret (↑k0:Int))
 else
  some (.nxt ())
def K9(t0:Unit):Option (Int):=
 some (-1)
def Q8(a0:(List Bs))(a1:Bs):Option (Int):=
 B2 (G2 (K8 a1 a0) a0.length ()) (K9)
def x7(a0:(List Bs))(a1:Bs):Option (Bool):=
 (Q8 a0 a1).bind fun v1=>
 some (decide (0≤v1))
def W7(a1:(List Bs))(a0:u6)(k0:Nat)(s0:(List Bs)):Option (Ctl ((List Bs)) ((List Bs)) ((List Bs))):=
 (x7 a1 (get a0.words k0)).bind fun v8=>
 bif (!v8)then
  aB (s0++[(get a0.words k0)]) fun c10=>
  chk (c10.length*16≤top∧c10.length≤top) <|
  some (.nxt c10)
 else
  some (.nxt s0)
def W8(self:(u6)→((List Bs))→((List Bs))→Option ((List Bs)))(a0:u6)(j1:(List Bs))(k2:Nat)(s2:(List Bs)):Option (Ctl ((List Bs)) ((List Bs)) ((List Bs))):=
 (self (get a0.subs k2) j1 s2).bind fun v26=>
 some (.nxt v26)
def W9(t2:(List Bs)):Option ((List Bs)):=
 some t2
def K5(self:(u6)→((List Bs))→((List Bs))→Option ((List Bs)))(a0:u6)(t0:(List Bs))(j1:(List Bs)):Option ((List Bs)):=
 B2 (G2 (W8 self a0 j1) a0.subs.length t0) (W9)
def X0(self:(u6)→((List Bs))→((List Bs))→Option ((List Bs)))(a0:u6)(a1:(List Bs))(t0:(List Bs)):Option ((List Bs)):=
 (E5 a0).bind fun v15=>
 bif v15 then
  chk (0≤(↑a1.length:Int)∧0≤(↑a1.length:Int)) <|
  aB (a1++[a0.name]) fun c19=>
  chk (c19.length*16≤top∧c19.length≤top) <|
  K5 self a0 t0 c19
 else
  K5 self a0 t0 a1
def E7:Nat→(u6)→((List Bs))→((List Bs))→Option ((List Bs))
 |0,_,_,_=>none
 |n+1,a0,a1,l1=>
  B2 (G2 (W7 a1 a0) a0.words.length l1) (X0 (E7 n) a0 a1)
def G9(l0:(List Bs)):Option ((List Bs)):=
 chk (l0.length<4611686018427387904) (some (sL cfB l0))
def N0(l0:(List Bs)):Option (List Bs):=
 chk (l0.length≤9223372036854775807) (some (cpt l0))
def U3(n:Nat)(a0:u6):Option ((List Bs)):=
 (E7 n a0 [] []).bind fun v1=>
 (G9 v1).bind fun v3=>
 (N0 v3).bind fun v5=>
 some (Lib.compact v3)
def bh(self:(u6)→(Bs)→Option (Bool×Bool))(a0:u6)(a1:Bs)(k1:Nat)(s1:Bool×Bool):Option (Ctl (Bool×Bool) (Bool×Bool) (Bool×Bool)):=
 (self (get a0.subs k1) a1).bind fun v2=>
 some (.nxt ((bif s1.1 then true else v2.1),(bif s1.2 then true else v2.2)))
def bn(t1:Bool×Bool):Option (Bool×Bool):=
 some (t1.1,t1.2)
def U4(self:(u6)→(Bs)→Option (Bool×Bool))(a0:u6)(a1:Bs)(j0:Bool×Bool):Option (Bool×Bool):=
 B2 (G2 (bh self a0 a1) a0.subs.length (j0.1,j0.2)) (bn)
def N2:Nat→(u6)→(Bs)→Option (Bool×Bool)
 |0,_,_=>none
 |n+1,a0,a1=>
  bif (bif (decide (a0.kind=2))then(decide (a0.name=a1))else false)then
   U4 (N2 n) a0 a1 ((decide (0<(↑a0.words.length:Int))),(decide ((↑a0.words.length:Int)=0)))
  else
   U4 (N2 n) a0 a1 (false,false)
def Q9(self:(u6)→Option ((List Bs)))(a0:u6)(k1:Nat)(s1:(List Bs)):Option (Ctl ((List Bs)) ((List Bs)) ((List Bs))):=
 (self (get a0.subs k1)).bind fun v14=>
 aB (s1++v14) fun c15=>
 chk (c15.length*16≤top∧c15.length≤top) <|
 some (.nxt c15)
def R0(t1:(List Bs)):Option ((List Bs)):=
 some t1
def G0(self:(u6)→Option ((List Bs)))(a0:u6)(j0:(List Bs)):Option ((List Bs)):=
 B2 (G2 (Q9 self a0) a0.subs.length j0) (R0)
def B7:Nat→(u6)→Option ((List Bs))
 |0,_=>none
 |n+1,a0=>
  (E5 a0).bind fun v1=>
  bif v1 then
   aB ([]++[a0.name]) fun c3=>
   chk (c3.length*16≤top∧c3.length≤top) <|
   G0 (B7 n) a0 c3
  else
   G0 (B7 n) a0 []
def X1(n:Nat)(v2:(List Bs))(a0:w8)(v4:(List Bs))(k0:Nat)(s0:Unit):Option (Ctl (x6) (Unit) (Unit)):=
 (termName (get v2 k0)).bind fun v17=>
 bif (!v17)then
  (C2 10 (↑k0:Int)).bind fun v18=>
  some (.ret v18)
 else
  chk (0≤(↑k0:Int)∧k0≤v2.length) <|
  (x7 (v2.take k0) (get v2 k0)).bind fun v21=>
  bif v21 then
   (C2 7 (↑k0:Int)).bind fun v22=>
   some (.ret v22)
  else
   (N2 n a0.form (get v2 k0)).bind fun v23=>
   bif (decide ((↑k0:Int)<(↑a0.words.length:Int)))then
    (x7 v4 (get v2 k0)).bind fun v24=>
    bif (!v24)then
     (C2 15 (↑k0:Int)).bind fun v25=>
     some (.ret v25)
    else
     some (.nxt ())
   else
    bif (decide ((↑k0:Int)<(wr .i64 ((↑a0.words.length:Int)+(↑a0.B1.length:Int)))))then
     bif (bif (!v23.1)then(!v23.2)else false)then
      (C2 15 (↑k0:Int)).bind fun v26=>
      some (.ret v26)
     else
      some (.nxt ())
    else
     bif v23.1 then
      (C2 5 (↑k0:Int)).bind fun v27=>
      some (.ret v27)
     else
      bif (!v23.2)then
       (C2 15 (↑k0:Int)).bind fun v28=>
       some (.ret v28)
      else
       some (.nxt ())
def X3(v29:(List Bs))(a0:w8)(k1:Nat)(s1:Unit):Option (Ctl (x6) (Unit) (Unit)):=
 chk (0≤(↑k1:Int)∧k1≤v29.length) <|
 (x7 (v29.take k1) (get v29 k1)).bind fun v37=>
 (gd (!v37) (x7 a0.words (get v29 k1)) default).bind fun v38=>
 bif (bif v37 then true else v38)then
  (C2 7 (-1)).bind fun v39=>
  some (.ret v39)
 else
  some (.nxt ())
def X4(t1:Unit):Option (x6):=
 some (x6.mk 0 0)
def X2(n:Nat)(a0:w8)(t0:Unit):Option (x6):=
 (B7 n a0.form).bind fun v29=>
 B2 (G2 (X3 v29 a0) v29.length ()) (X4)
def J0(n:Nat)(a0:w8):Option (x6):=
 (S6 n a0.form).bind fun v1=>
 bif (!decide (v1.code=0))then
  some v1
 else
  (U6 a0).bind fun v2=>
  bif (decide (300<(↑v2.length:Int)))then
   (C2 2 (-1)).bind fun v3=>
   some v3
  else
   (U3 n a0.form).bind fun v4=>
   B2 (G2 (X1 n v2 a0 v4) v2.length ()) (X2 n a0)
def dA(U0:(List Bs))(s0:Int):Option (Ctl (Bs×Int) (Int) (Unit)):=
 (itoa s0).bind fun v4=>
 chk (P8 [118] v4) <|
 (x7 U0 (bX [118] v4)).bind fun v6=>
 bif (!v6)then
  some (.ret ((bX [118] v4),(wr .i64 (s0+1))))
 else
  some (.nxt (wr .i64 (s0+1)))
def dB(t0:Unit):Option (Bs×Int):=
 none
def gX(n:Nat)(B0:Int)(U0:(List Bs)):Option (Bs×Int):=
 B2 (G7 (dA U0) n B0) (dB)
def cD(a1:(List x9))(a0:u6)(k0:Nat)(s2:Int):Option (Ctl (Ctl (u6×Int) ((List Bs)) ((List Bs))) (Int) (Bs)):=
 bif (decide (0≤s2))then
  chk (0≤s2∧s2<(↑a1.length:Int)) <|
  bif (decide (((get a1 s2.toNat).from_)=(get a0.words k0)))then
   some (.brk ((get a1 s2.toNat).to_))
  else
   some (.nxt (wr .i64 (s2-1)))
 else
  some (.brk (get a0.words k0))
def cE(s0:(List Bs))(t2:Bs):Option (Ctl (u6×Int) ((List Bs)) ((List Bs))):=
 aB (s0++[t2]) fun c16=>
 chk (c16.length*16≤top∧c16.length≤top) <|
 some (.nxt c16)
def cF(n:Nat)(a1:(List x9))(a0:u6)(k0:Nat)(s0:(List Bs)):Option (Ctl (u6×Int) ((List Bs)) ((List Bs))):=
 B2 (G7 (cD a1 a0 k0) n (wr .i64 ((↑a1.length:Int)-1))) (cE s0)
def cG(self:(u6)→((List x9))→(Int)→((List Bs))→Option (u6×Int))(a0:u6)(j3:Int×Bs×(List x9))(U0:(List Bs))(k4:Nat)(s4:Int×(List u6)):Option (Ctl (u6×Int) (Int×(List u6)) (Int×(List u6))):=
 (self (get a0.subs k4) j3.2.2 s4.1 U0).bind fun v38=>
 aB (s4.2++[v38.1]) fun c40=>
 chk (c40.length*72≤top∧c40.length≤top) <|
 some (.nxt (v38.2,c40))
def cH(a0:u6)(j3:Int×Bs×(List x9))(t0:(List Bs))(t4:Int×(List u6)):Option (u6×Int):=
 some ((u6.mk a0.kind j3.2.1 t0 t4.2),t4.1)
def aK(self:(u6)→((List x9))→(Int)→((List Bs))→Option (u6×Int))(a0:u6)(U0:(List Bs))(t0:(List Bs))(j3:Int×Bs×(List x9)):Option (u6×Int):=
 B2 (G2 (cG self a0 j3 U0) a0.subs.length (j3.1,[])) (cH a0 j3 t0)
def cI(self:(u6)→((List x9))→(Int)→((List Bs))→Option (u6×Int))(n:Nat)(a0:u6)(B0:Int)(U0:(List Bs))(a1:(List x9))(t0:(List Bs)):Option (u6×Int):=
 (E5 a0).bind fun v21=>
 bif v21 then
  (gX n B0 U0).bind fun v22=>
  chk (0≤(↑a1.length:Int)∧0≤(↑a1.length:Int)) <|
  aB (a1++[(x9.mk a0.name v22.1)]) fun c26=>
  chk (c26.length*32≤top∧c26.length≤top) <|
  aK self a0 U0 t0 (v22.2,v22.1,c26)
 else
  aK self a0 U0 t0 (B0,a0.name,a1)
def V2:Nat→(u6)→((List x9))→(Int)→((List Bs))→Option (u6×Int)
 |0,_,_,_,_=>none
 |n+1,a0,a1,B0,U0=>
  B2 (G2 (cF n a1 a0) a0.words.length []) (cI (V2 n) n a0 B0 U0 a1)
def cJ(v1:(List Bs))(a1:(List x9))(k0:Nat)(k1:Nat)(s1:Unit):Option (Ctl (Ctl (u6) (Unit) (Unit)) (Unit) (Unit)):=
 bif (decide ((get v1 k1)=((get a1 k0).from_)))then
  none
 else
  some (.nxt ())
def cK(t1:Unit):Option (Ctl (u6) (Unit) (Unit)):=
 some (.nxt ())
def cL(v1:(List Bs))(a1:(List x9))(k0:Nat)(s0:Unit):Option (Ctl (u6) (Unit) (Unit)):=
 B2 (G2 (cJ v1 a1 k0) v1.length ()) (cK)
def cM(n:Nat)(a0:u6)(a1:(List x9))(v1:(List Bs))(t0:Unit):Option (u6):=
 (V2 n a0 a1 0 v1).bind fun v2=>
 some v2.1
def fO(n:Nat)(a0:u6)(a1:(List x9)):Option (u6):=
 (U3 n a0).bind fun v1=>
 B2 (G2 (cL v1 a1) a1.length ()) (cM n a0 a1 v1)
def fF(n:Nat)(a0:u6):Option (u6):=
 (fO n a0 []).bind fun v1=>
 some v1
def V3(a0 l0:(List Bs)):Option (List Bs):=
 bif l0.isEmpty then some a0 else none
def aH(a0:w8)(a1:u6):Option (Bool):=
 (gd (bif (decide (a1.kind=2))then(decide ((↑a1.words.length:Int)=0))else false) (x7 a0.parts a1.name) default).bind fun v1=>
 some (bif (bif (decide (a1.kind=2))then(decide ((↑a1.words.length:Int)=0))else false)then v1 else false)
def bw(a1:(List Bs))(a0:u6)(G5:(List Bs))(k0:Nat)(s0:(List Bs)):Option (Ctl (u6) ((List Bs)) ((List Bs))):=
 (x7 a1 (get a0.words k0)).bind fun v23=>
 bif v23 then
  chk (P8 [63] (get a0.words k0)) <|
  aB (s0++[(bX [63] (get a0.words k0))]) fun c26=>
  chk (c26.length*16≤top∧c26.length≤top) <|
  some (.nxt c26)
 else
  (x7 G5 (get a0.words k0)).bind fun v31=>
  bif v31 then
   chk (P8 [46] (get a0.words k0)) <|
   aB (s0++[(bX [46] (get a0.words k0))]) fun c34=>
   chk (c34.length*16≤top∧c34.length≤top) <|
   some (.nxt c34)
  else
   aB (s0++[(get a0.words k0)]) fun c40=>
   chk (c40.length*16≤top∧c40.length≤top) <|
   some (.nxt c40)
def bA(self:(u6)→((List Bs))→(Int)→(Bs)→((List Bs))→((List u6))→((List Bs))→((List Bs))→((List Bs))→Option (u6))(a0:u6)(j1:Bs×(List Bs))(B0:Int)(F3:Bs)(P7:(List Bs))(S4:(List u6))(G5:(List Bs))(kh:(List Bs))(lq:(List Bs))(k2:Nat)(s2:(List u6)):Option (Ctl (u6) ((List u6)) ((List u6))):=
 (self (get a0.subs k2) j1.2 B0 F3 P7 S4 G5 kh lq).bind fun v65=>
 aB (s2++[v65]) fun c67=>
 chk (c67.length*72≤top∧c67.length≤top) <|
 some (.nxt c67)
def bB(a0:u6)(j1:Bs×(List Bs))(t0:(List Bs))(t2:(List u6)):Option (u6):=
 some (u6.mk a0.kind j1.1 t0 t2)
def M0(self:(u6)→((List Bs))→(Int)→(Bs)→((List Bs))→((List u6))→((List Bs))→((List Bs))→((List Bs))→Option (u6))(a0:u6)(B0:Int)(F3:Bs)(P7:(List Bs))(S4:(List u6))(G5:(List Bs))(kh:(List Bs))(lq:(List Bs))(t0:(List Bs))(j1:Bs×(List Bs)):Option (u6):=
 B2 (G2 (bA self a0 j1 B0 F3 P7 S4 G5 kh lq) a0.subs.length []) (bB a0 j1 t0)
def bC(self:(u6)→((List Bs))→(Int)→(Bs)→((List Bs))→((List u6))→((List Bs))→((List Bs))→((List Bs))→Option (u6))(a0:u6)(a1:(List Bs))(B0:Int)(F3:Bs)(P7:(List Bs))(S4:(List u6))(G5:(List Bs))(kh:(List Bs))(lq:(List Bs))(t0:(List Bs)):Option (u6):=
 (E5 a0).bind fun v45=>
 bif v45 then
  (V3 a1 []).bind fun v46=>
  aB (v46++[a0.name]) fun c48=>
  chk (c48.length*16≤top∧c48.length≤top) <|
  chk (P8 [63] a0.name) <|
  M0 self a0 B0 F3 P7 S4 G5 kh lq t0 ((bX [63] a0.name),c48)
 else
  (aH (w8.mk (u6.mk B0 F3 P7 S4) G5 kh lq) a0).bind fun v54=>
  bif v54 then
   chk (P8 [43] a0.name) <|
   M0 self a0 B0 F3 P7 S4 G5 kh lq t0 ((bX [43] a0.name),a1)
  else
   (gd (decide (a0.kind=2)) (x7 kh a0.name) default).bind fun v56=>
   bif (bif (decide (a0.kind=2))then v56 else false)then
    chk (P8 [33] a0.name) <|
    M0 self a0 B0 F3 P7 S4 G5 kh lq t0 ((bX [33] a0.name),a1)
   else
    M0 self a0 B0 F3 P7 S4 G5 kh lq t0 (a0.name,a1)
def O8:Nat→(u6)→((List Bs))→(Int)→(Bs)→((List Bs))→((List u6))→((List Bs))→((List Bs))→((List Bs))→Option (u6)
 |0,_,_,_,_,_,_,_,_,_=>none
 |n+1,a0,a1,B0,F3,P7,S4,G5,kh,lq=>
  B2 (G2 (bw a1 a0 G5) a0.words.length []) (bC (O8 n) a0 a1 B0 F3 P7 S4 G5 kh lq)
def bD(a0:Bs)(a1:(List Bs))(k0:Nat)(s0:(List Bs)):Option (Ctl ((List Bs)) ((List Bs)) ((List Bs))):=
 chk (P8 a0 (get a1 k0)) <|
 aB (s0++[(bX a0 (get a1 k0))]) fun c10=>
 chk (c10.length*16≤top∧c10.length≤top) <|
 some (.nxt c10)
def bE(t0:(List Bs)):Option ((List Bs)):=
 some t0
def Z8(a0:Bs)(a1:(List Bs)):Option ((List Bs)):=
 B2 (G2 (bD a0 a1) a1.length []) (bE)
def eS(n:Nat)(a0:w8):Option (w8):=
 (O8 n a0.form [] a0.form.kind a0.form.name a0.form.words a0.form.subs a0.words a0.B1 a0.parts).bind fun v1=>
 (Z8 [46] a0.words).bind fun v2=>
 (Z8 [33] a0.B1).bind fun v3=>
 (Z8 [43] a0.parts).bind fun v4=>
 some (w8.mk v1 v2 v3 v4)
def L0(a1:(List Bs))(a0:(List Bs))(k0:Nat)(s0:Unit):Option (Ctl (Bool) (Unit) (Unit)):=
 chk ((↑k0:Int)<(↑a1.length:Int)) <|
 bif (!decide ((get a0 k0)=(get a1 k0)))then
  some (.ret false)
 else
  some (.nxt ())
def L1(t0:Unit):Option (Bool):=
 some true
def G1(a0:(List Bs))(a1:(List Bs)):Option (Bool):=
 bif (!decide ((↑a0.length:Int)=(↑a1.length:Int)))then
  some false
 else
  B2 (G2 (L0 a1 a0) a0.length ()) (L1)
def cR(self:(u6)→(u6)→Option (Bool))(a1:u6)(a0:u6)(k0:Nat)(s0:Unit):Option (Ctl (Bool) (Unit) (Unit)):=
 chk ((↑k0:Int)<(↑a1.subs.length:Int)) <|
 (self (get a0.subs k0) (get a1.subs k0)).bind fun v4=>
 bif (!v4)then
  some (.ret false)
 else
  some (.nxt ())
def cS(t0:Unit):Option (Bool):=
 some true
def br:Nat→(u6)→(u6)→Option (Bool)
 |0,_,_=>none
 |n+1,a0,a1=>
  (gd (!(bif (!decide (a0.kind=a1.kind))then true else(!decide (a0.name=a1.name)))) (G1 a0.words a1.words) default).bind fun v1=>
  bif (bif (bif (bif (!decide (a0.kind=a1.kind))then true else(!decide (a0.name=a1.name)))then true else(!v1))then true else(!decide ((↑a0.subs.length:Int)=(↑a1.subs.length:Int))))then
   some false
  else
   chk (a0.subs.length≤9223372036854775807) <|
   B2 (G2 (cR (br n) a1 a0) a0.subs.length ()) (cS)
def S7(a1:Bs)(a2:Bs)(m0:(List (Bs×w7))):Option (Bool×(List (Bs×w7))):=
 bif (assoc a1 m0).isSome then
  some ((decide ((((assoc a1 m0).getD default).text)=a2)),m0)
 else
  aB (y6 a1 (w7.mk a1 a2 (u6.mk 0 [] [] [])) m0) fun c1=>
  some (true,c1)
def S8(a1:u6)(a0:w8)(a2:u6)(k2:Nat)(s2:(List (Bs×w7))):Option (Ctl (Bool×(List (Bs×w7))) ((List (Bs×w7))) ((List (Bs×w7)))):=
 (gd (!(assoc (get a1.words k2) s2).isSome) (x7 a0.words (get a1.words k2)) default).bind fun v12=>
 bif (bif (assoc (get a1.words k2) s2).isSome then true else v12)then
  chk ((↑k2:Int)<(↑a2.words.length:Int)) <|
  (S7 (get a1.words k2) (get a2.words k2) s2).bind fun v14=>
  bif (!v14.1)then
   some (.ret (false,v14.2))
  else
   some (.nxt v14.2)
 else
  chk ((↑k2:Int)<(↑a2.words.length:Int)) <|
  bif (!decide ((get a1.words k2)=(get a2.words k2)))then
   some (.ret (false,s2))
  else
   some (.nxt s2)
def Y6(self:(w8)→(u6)→(u6)→((List (Bs×w7)))→Option (Bool×(List (Bs×w7))))(a2:u6)(a0:w8)(a1:u6)(k3:Nat)(s3:(List (Bs×w7))):Option (Ctl (Bool×(List (Bs×w7))) ((List (Bs×w7))) ((List (Bs×w7)))):=
 chk ((↑k3:Int)<(↑a2.subs.length:Int)) <|
 (self a0 (get a1.subs k3) (get a2.subs k3) s3).bind fun v19=>
 bif (!v19.1)then
  some (.ret (false,v19.2))
 else
  some (.nxt v19.2)
def Y7(t3:(List (Bs×w7))):Option (Bool×(List (Bs×w7))):=
 some (true,t3)
def Y5(self:(w8)→(u6)→(u6)→((List (Bs×w7)))→Option (Bool×(List (Bs×w7))))(a2:u6)(a0:w8)(a1:u6)(t2:(List (Bs×w7))):Option (Bool×(List (Bs×w7))):=
 B2 (G2 (Y6 self a2 a0 a1) a1.subs.length t2) (Y7)
def L7(self:(w8)→(u6)→(u6)→((List (Bs×w7)))→Option (Bool×(List (Bs×w7))))(a1:u6)(a0:w8)(a2:u6)(j1:(List (Bs×w7))):Option (Bool×(List (Bs×w7))):=
 B2 (G2 (S8 a1 a0 a2) a1.words.length j1) (Y5 self a2 a0 a1)
def I7(self:(w8)→(u6)→(u6)→((List (Bs×w7)))→Option (Bool×(List (Bs×w7))))(a1:u6)(a2:u6)(m0:(List (Bs×w7)))(a0:w8)(j0:Bool):Option (Bool×(List (Bs×w7))):=
 bif j0 then
  (S7 a1.name a2.name m0).bind fun v7=>
  bif (!v7.1)then
   some (false,v7.2)
  else
   L7 self a1 a0 a2 v7.2
 else
  bif (!decide (a1.name=a2.name))then
   some (false,m0)
  else
   L7 self a1 a0 a2 m0
def D4:Nat→(w8)→(u6)→(u6)→((List (Bs×w7)))→Option (Bool×(List (Bs×w7)))
 |0,_,_,_,_=>none
 |n+1,a0,a1,a2,m0=>
  (aH a0 a1).bind fun v1=>
  bif v1 then
   bif (assoc a1.name m0).isSome then
    (br n (((assoc a1.name m0).getD default).form) a2).bind fun v2=>
    some (v2,m0)
   else
    aB (y6 a1.name (w7.mk a1.name [] a2) m0) fun c3=>
    some (true,c3)
  else
   bif (bif (!decide (a1.kind=a2.kind))then true else(!decide ((↑a1.words.length:Int)=(↑a2.words.length:Int))))then
    some (false,m0)
   else
    (E5 a1).bind fun v5=>
    bif v5 then
     I7 (D4 n) a1 a2 m0 a0 v5
    else
     (gd (decide (a1.kind=2)) (x7 a0.B1 a1.name) default).bind fun v6=>
     I7 (D4 n) a1 a2 m0 a0 (bif (decide (a1.kind=2))then v6 else false)
def R3(a1:Bs)(l0:(List Bs))(k0:Nat)(s0:Unit):Option (Ctl (Int) (Unit) (Unit)):=
 bif (decide (a1=(get l0 k0)))then
  some (.ret (↑k0:Int))
 else
  some (.nxt ())
def R4(t0:Unit):Option (Int):=
 some (-1)
def V4(a1:Bs)(l0:(List Bs)):Option (Int):=
 chk (l0.length≤9223372036854775807) <|
 B2 (G2 (R3 a1 l0) l0.length ()) (R4)
def R5(a1:Bs)(l0:(List Bs)):Option (Bool):=
 (V4 a1 l0).bind fun v1=>
 some (decide (0≤v1))
def V5(a0:(List Bs)):Option (List Bs):=
 some a0
def eT(self:(u6)→Option (u6))(a0:u6)(k0:Nat)(s0:(List u6)):Option (Ctl (u6) ((List u6)) ((List u6))):=
 (self (get a0.subs k0)).bind fun v9=>
 aB (s0++[v9]) fun c11=>
 chk (c11.length*72≤top∧c11.length≤top) <|
 some (.nxt c11)
def eU(a0:u6)(v1:(List Bs))(t0:(List u6)):Option (u6):=
 some (u6.mk a0.kind a0.name v1 t0)
def dc:Nat→(u6)→Option (u6)
 |0,_=>none
 |n+1,a0=>
  (V5 a0.words).bind fun v1=>
  B2 (G2 (eT (dc n) a0) a0.subs.length []) (eU a0 v1)
def dD(v3:(List Bs))(v2:Bool×(List (Bs×w7)))(k0:Nat)(s0:(List Bs)):Option (Ctl ((List w7)×Bool) ((List Bs)) ((List Bs))):=
 aB (s0++[((assoc (get v3 k0) v2.2).getD default).text]) fun c11=>
 chk (c11.length*16≤top∧c11.length≤top) <|
 some (.nxt c11)
def dF(n:Nat)(v1:w8)(v19:(List Bs))(v2:Bool×(List (Bs×w7)))(t0:(List Bs))(k1:Nat)(s1:(List w7)):Option (Ctl ((List w7)×Bool) ((List w7)) ((List w7))):=
 (x7 v1.words (get v19 k1)).bind fun v38=>
 (gd v38 (R5 (((assoc (get v19 k1) v2.2).getD default).text) t0) (default:Bool)).bind fun v39=>
 bif (bif v38 then v39 else false)then
  some (.ret ([],false))
 else
  chk (0≤1∧1≤(get v19 k1).length) <|
  (x7 v1.parts (get v19 k1)).bind fun v42=>
  bif v42 then
   (dc n (((assoc (get v19 k1) v2.2).getD default).form)).bind fun v43=>
   aB (s1++[(w7.mk ((get v19 k1).drop 1) (((assoc (get v19 k1) v2.2).getD default).text) v43)]) fun c45=>
   chk (c45.length*104≤top∧c45.length≤top) <|
   some (.nxt c45)
  else
   aB (s1++[(w7.mk ((get v19 k1).drop 1) (((assoc (get v19 k1) v2.2).getD default).text) (((assoc (get v19 k1) v2.2).getD default).form))]) fun c51=>
   chk (c51.length*104≤top∧c51.length≤top) <|
   some (.nxt c51)
def dG(t1:(List w7)):Option ((List w7)×Bool):=
 some (t1,true)
def dH(n:Nat)(v1:w8)(v2:Bool×(List (Bs×w7)))(t0:(List Bs)):Option ((List w7)×Bool):=
 (U6 v1).bind fun v16=>
 (B7 n v1.form).bind fun v17=>
 (qW [v16,v17]).bind fun v19=>
 B2 (G2 (dF n v1 v19 v2 t0) v19.length []) (dG)
def dV(n:Nat)(a0:w8)(a1:u6):Option ((List w7)×Bool):=
 (eS n a0).bind fun v1=>
 (D4 n v1 v1.form a1 []).bind fun v2=>
 bif (!v2.1)then
  some ([],false)
 else
  (B7 n v1.form).bind fun v3=>
  B2 (G2 (dD v3 v2) v3.length []) (dH n v1 v2)
def fP(n:Nat)(a0:w8)(a1:u6):Option ((List w7)×Bool×x6):=
 (J0 n a0).bind fun v1=>
 bif (!decide (v1.code=0))then
  some ([],false,v1)
 else
  (S6 n a1).bind fun v2=>
  bif (!decide (v2.code=0))then
   some ([],false,v2)
  else
   (fF n a1).bind fun v3=>
   (dV n a0 v3).bind fun v4=>
   some (v4.1,v4.2,(x6.mk 0 0))
def cN(self:(u6)→(Int)→(Int)→(Bs)→((List Bs))→((List u6))→((List Bs))→((List Bs))→((List Bs))→((List A9))→Option (Int×(List A9)))(a0:u6)(U0:Int)(rI:Bs)(rJ:(List Bs))(rK:(List u6))(rL:(List Bs))(rM:(List Bs))(rN:(List Bs))(k1:Nat)(s1:Int×(List A9)):Option (Ctl (Int×(List A9)) (Int×(List A9)) (Int×(List A9))):=
 (self (get a0.subs k1) s1.1 U0 rI rJ rK rL rM rN s1.2).bind fun v10=>
 some (.nxt (v10.1,v10.2))
def cO(t1:Int×(List A9)):Option (Int×(List A9)):=
 some (t1.1,t1.2)
def aL(self:(u6)→(Int)→(Int)→(Bs)→((List Bs))→((List u6))→((List Bs))→((List Bs))→((List Bs))→((List A9))→Option (Int×(List A9)))(a0:u6)(U0:Int)(rI:Bs)(rJ:(List Bs))(rK:(List u6))(rL:(List Bs))(rM:(List Bs))(rN:(List Bs))(B0:Int)(j0:(List A9)):Option (Int×(List A9)):=
 B2 (G2 (cN self a0 U0 rI rJ rK rL rM rN) a0.subs.length ((wr .i64 (B0+1)),j0)) (cO)
def V6:Nat→(u6)→(Int)→(Int)→(Bs)→((List Bs))→((List u6))→((List Bs))→((List Bs))→((List Bs))→((List A9))→Option (Int×(List A9))
 |0,_,_,_,_,_,_,_,_,_,_=>none
 |n+1,a0,B0,U0,rI,rJ,rK,rL,rM,rN,l3=>
  (dV n (w8.mk (u6.mk U0 rI rJ rK) rL rM rN) a0).bind fun v1=>
  bif v1.2 then
   aB (l3++[(A9.mk B0 v1.1)]) fun c3=>
   chk (c3.length*32≤top∧c3.length≤top) <|
   aL (V6 n) a0 U0 rI rJ rK rL rM rN B0 c3
  else
   aL (V6 n) a0 U0 rI rJ rK rL rM rN B0 l3
def gY(n:Nat)(a0:w8)(a1:u6):Option ((List A9)×x6):=
 (J0 n a0).bind fun v1=>
 bif (!decide (v1.code=0))then
  some ([],v1)
 else
  (S6 n a1).bind fun v2=>
  bif (!decide (v2.code=0))then
   some ([],v2)
  else
   (fF n a1).bind fun v3=>
   (V6 n v3 0 a0.form.kind a0.form.name a0.form.words a0.form.subs a0.words a0.B1 a0.parts []).bind fun v4=>
   some (v4.2,(x6.mk 0 0))
def F5(a0:(List Bs))(a1:(List Bs))(s0:Int):Option (Ctl (Bool) (Int) (Unit)):=
 bif (decide (s0<(↑a0.length:Int)))then
  chk (0≤s0∧s0<(↑a0.length:Int)) <|
  chk (s0<(↑a1.length:Int)) <|
  bif (!decide ((get a0 s0.toNat)=(get a1 s0.toNat)))then
   some (.ret false)
  else
   some (.nxt (wr .i64 (s0+1)))
 else
  some (.brk ())
def T3(t0:Unit):Option (Bool):=
 some true
def D0(n:Nat)(a0:(List Bs))(a1:(List Bs)):Option (Bool):=
 bif (!decide ((↑a0.length:Int)=(↑a1.length:Int)))then
  some false
 else
  B2 (G7 (F5 a0 a1) n 0) (T3)
def G4(self:(u6)→(u6)→Option (Bool))(a0:u6)(a1:u6)(s0:Int):Option (Ctl (Bool) (Int) (Unit)):=
 bif (decide (s0<(↑a0.subs.length:Int)))then
  chk (0≤s0∧s0<(↑a0.subs.length:Int)) <|
  chk (s0<(↑a1.subs.length:Int)) <|
  (self (get a0.subs s0.toNat) (get a1.subs s0.toNat)).bind fun v8=>
  bif (!v8)then
   some (.ret false)
  else
   some (.nxt (wr .i64 (s0+1)))
 else
  some (.brk ())
def U1(t0:Unit):Option (Bool):=
 some true
def B9:Nat→(u6)→(u6)→Option (Bool)
 |0,_,_=>none
 |n+1,a0,a1=>
  (gd (!(bif (!decide (a0.kind=a1.kind))then true else(!decide (a0.name=a1.name)))) (D0 n a0.words a1.words) default).bind fun v1=>
  bif (bif (bif (bif (!decide (a0.kind=a1.kind))then true else(!decide (a0.name=a1.name)))then true else(!v1))then true else(!decide ((↑a0.subs.length:Int)=(↑a1.subs.length:Int))))then
   some false
  else
   B2 (G7 (G4 (B9 n) a0 a1) n 0) (U1)
def E3(n:Nat):Option (Bool):=
 (Y9 [112] []).bind fun v1=>
 (Y9 [113] []).bind fun v2=>
 (T2 5 v1 v2).bind fun v3=>
 (T2 5 (u6.mk 1 [] [] []) (u6.mk 4 [] [] [(u6.mk 1 [] [] [])])).bind fun v6=>
 (fP n (w8.mk v3 [] [] [[112],[113]]) v6).bind fun v7=>
 (T2 5 (u6.mk 1 [] [] []) (u6.mk 4 [] [] [(u6.mk 1 [] [] [])])).bind fun v8=>
 (gY n (w8.mk v3 [] [] [[112],[113]]) v8).bind fun v9=>
 chk (cg (bif (bif (bif (decide (v7.2.2.code=0))then(decide (v9.2.code=0))else false)then v7.2.1 else false)then(decide ((↑v7.1.length:Int)=2))else false) (0<(↑v7.1.length:Int))) <|
 (gd (bif (bif (bif (decide (v7.2.2.code=0))then(decide (v9.2.code=0))else false)then v7.2.1 else false)then(decide ((↑v7.1.length:Int)=2))else false) (B9 n ((get v7.1 0).form) (u6.mk 1 [] [] [])) default).bind fun v12=>
 chk (cg (bif (bif (bif (bif (decide (v7.2.2.code=0))then(decide (v9.2.code=0))else false)then v7.2.1 else false)then(decide ((↑v7.1.length:Int)=2))else false)then v12 else false) (1<(↑v7.1.length:Int))) <|
 (gd (bif (bif (bif (bif (decide (v7.2.2.code=0))then(decide (v9.2.code=0))else false)then v7.2.1 else false)then(decide ((↑v7.1.length:Int)=2))else false)then v12 else false) (B9 n ((get v7.1 1).form) (u6.mk 4 [] [] [(u6.mk 1 [] [] [])])) default).bind fun v15=>
 chk (cg (bif (bif (bif (bif (bif (bif (decide (v7.2.2.code=0))then(decide (v9.2.code=0))else false)then v7.2.1 else false)then(decide ((↑v7.1.length:Int)=2))else false)then v12 else false)then v15 else false)then(decide ((↑v9.1.length:Int)=1))else false) (0<(↑v9.1.length:Int))) <|
 some (bif (bif (bif (bif (bif (bif (bif (decide (v7.2.2.code=0))then(decide (v9.2.code=0))else false)then v7.2.1 else false)then(decide ((↑v7.1.length:Int)=2))else false)then v12 else false)then v15 else false)then(decide ((↑v9.1.length:Int)=1))else false)then(decide (((get v9.1 0).at_)=0))else false)
def V1(n:Nat)(a0:w8):Option (Bs×x6):=
 (J0 n a0).bind fun v1=>
 bif (!decide (v1.code=0))then
  some ([],v1)
 else
  (xM a0.words [32]).bind fun v2=>
  chk (P8 [91] v2) <|
  chk (P8 (bX [91] v2) [124]) <|
  (xM a0.B1 [32]).bind fun v5=>
  chk (P8 (bX (bX [91] v2) [124]) v5) <|
  chk (P8 (bX (bX (bX [91] v2) [124]) v5) [124]) <|
  (xM a0.parts [32]).bind fun v8=>
  chk (P8 (bX (bX (bX (bX [91] v2) [124]) v5) [124]) v8) <|
  chk (P8 (bX (bX (bX (bX (bX [91] v2) [124]) v5) [124]) v8) [93,32]) <|
  (gW a0.form).bind fun v11=>
  chk (P8 (bX (bX (bX (bX (bX (bX [91] v2) [124]) v5) [124]) v8) [93,32]) v11) <|
  bif (decide (4000<(↑((bX (bX (bX (bX (bX (bX (bX [91] v2) [124]) v5) [124]) v8) [93,32]) v11).length):Int)))then
   (C2 1 0).bind fun v13=>
   some ([],v13)
  else
   some ((bX (bX (bX (bX (bX (bX (bX [91] v2) [124]) v5) [124]) v8) [93,32]) v11),(x6.mk 0 0))
def N7(a0:Int):Option (Int):=
 bif (bif (decide (a0<1))then true else(decide (9<a0)))then
  some (-1)
 else
  chk (0≤a0∧a0<10) <|
  some (get [0,0,0,0,1,2,2,2,1,1] a0.toNat)
def T5(a0:Bs)(s0:Int):Option (Ctl (Bool) (Int) (Unit)):=
 bif (decide (s0<(↑a0.length:Int)))then
  chk (0≤s0∧s0<(↑a0.length:Int)) <|
  bif (bif (!(bif (decide (97≤(B3 a0 s0)))then(decide ((B3 a0 s0)≤122))else false))then(bif (decide (s0=0))then true else(!(bif (bif (bif (decide (48≤(B3 a0 s0)))then(decide ((B3 a0 s0)≤57))else false)then true else(decide ((B3 a0 s0)=95)))then true else(decide ((B3 a0 s0)=45)))))else false)then
   some (.ret false)
  else
   some (.nxt (wr .i64 (s0+1)))
 else
  some (.brk ())
def av(t0:Unit):Option (Bool):=
 some true
def L6(n:Nat)(a0:Bs):Option (Bool):=
 bif (bif (decide ((↑a0.length:Int)<1))then true else(decide (30<(↑a0.length:Int))))then
  some false
 else
  B2 (G7 (T5 a0) n 0) (av)
def J3(s0:(List w6)×Int×Nat)(s12:(List w6)×Int×Nat):Option (Ctl (Ctl (x6) ((List w6)×Int×Nat) (Unit)) ((List w6)×Int×Nat) ((List w6)×Nat)):=
 bif (decide (0≤s12.2.1))then
  chk (0≤s12.2.1∧s12.2.1<(↑(((get s0.1 ((wr .i64 ((↑s0.2.2:Int)-1)).toNat)).f.subs).length):Int)) <|
  chk (s12.2.2≤s12.1.length) <|
  aB ((s12.1.take s12.2.2)++[(w6.mk (get ((get s0.1 ((wr .i64 ((↑s0.2.2:Int)-1)).toNat)).f.subs) s12.2.1.toNat) (wr .i64 (((get s0.1 ((wr .i64 ((↑s0.2.2:Int)-1)).toNat)).depth)+1)))]) fun c51=>
  chk (c51.length*80≤top∧c51.length≤top) <|
  some (.nxt (c51,(wr .i64 (s12.2.1-1)),c51.length))
 else
  some (.brk (s12.1,s12.2.2))
def J4(s0:(List w6)×Int×Nat)(t12:(List w6)×Nat):Option (Ctl (x6) ((List w6)×Int×Nat) (Unit)):=
 some (.nxt (t12.1,(wr .i64 (s0.2.1+1)),t12.2))
def y7(n:Nat)(s0:(List w6)×Int×Nat)(j10:Int):Option (Ctl (x6) ((List w6)×Int×Nat) (Unit)):=
 bif (!decide (j10=0))then
  some (.ret (x6.mk j10 s0.2.1))
 else
  B2 (G7 (J3 s0) n (s0.1,(wr .i64 ((↑(((get s0.1 ((wr .i64 ((↑s0.2.2:Int)-1)).toNat)).f.subs).length):Int)-1)),(wr .i64 ((↑s0.2.2:Int)-1)).toNat)) (J4 s0)
def J5(n:Nat)(s0:(List w6)×Int×Nat)(k11:Nat)(s11:Int):Option (Ctl (Ctl (x6) ((List w6)×Int×Nat) (Unit)) (Int) (Int)):=
 (L6 n (get ((get s0.1 ((wr .i64 ((↑s0.2.2:Int)-1)).toNat)).f.words) k11)).bind fun v37=>
 bif (!v37)then
  some (.nxt 10)
 else
  some (.nxt s11)
def J6(n:Nat)(s0:(List w6)×Int×Nat)(t11:Int):Option (Ctl (x6) ((List w6)×Int×Nat) (Unit)):=
 y7 n s0 t11
def D9(n:Nat)(s0:(List w6)×Int×Nat)(j7:Int)(j9:Int×Int):Option (Ctl (x6) ((List w6)×Int×Nat) (Unit)):=
 bif (bif (decide (200≤s0.2.1))then true else(decide (40<((get s0.1 ((wr .i64 ((↑s0.2.2:Int)-1)).toNat)).depth))))then
  y7 n s0 1
 else
  bif (decide (j7<0))then
   y7 n s0 4
  else
   bif (bif (bif (!decide ((↑(((get s0.1 ((wr .i64 ((↑s0.2.2:Int)-1)).toNat)).f.subs).length):Int)=j7))then true else(decide ((↑(((get s0.1 ((wr .i64 ((↑s0.2.2:Int)-1)).toNat)).f.words).length):Int)<j9.2)))then true else(decide (j9.1<(↑(((get s0.1 ((wr .i64 ((↑s0.2.2:Int)-1)).toNat)).f.words).length):Int))))then
    y7 n s0 9
   else
    (gd (bif (bif (bif (decide (((get s0.1 ((wr .i64 ((↑s0.2.2:Int)-1)).toNat)).f.kind)=2))then true else(decide (((get s0.1 ((wr .i64 ((↑s0.2.2:Int)-1)).toNat)).f.kind)=8)))then true else(decide (((get s0.1 ((wr .i64 ((↑s0.2.2:Int)-1)).toNat)).f.kind)=9)))then true else(decide (((get s0.1 ((wr .i64 ((↑s0.2.2:Int)-1)).toNat)).f.kind)=10))) (L6 n ((get s0.1 ((wr .i64 ((↑s0.2.2:Int)-1)).toNat)).f.name)) default).bind fun v35=>
    bif (bif (bif (bif (bif (decide (((get s0.1 ((wr .i64 ((↑s0.2.2:Int)-1)).toNat)).f.kind)=2))then true else(decide (((get s0.1 ((wr .i64 ((↑s0.2.2:Int)-1)).toNat)).f.kind)=8)))then true else(decide (((get s0.1 ((wr .i64 ((↑s0.2.2:Int)-1)).toNat)).f.kind)=9)))then true else(decide (((get s0.1 ((wr .i64 ((↑s0.2.2:Int)-1)).toNat)).f.kind)=10)))then(!v35)else false)then
     y7 n s0 10
    else
     bif (bif (!(bif (bif (bif (decide (((get s0.1 ((wr .i64 ((↑s0.2.2:Int)-1)).toNat)).f.kind)=2))then true else(decide (((get s0.1 ((wr .i64 ((↑s0.2.2:Int)-1)).toNat)).f.kind)=8)))then true else(decide (((get s0.1 ((wr .i64 ((↑s0.2.2:Int)-1)).toNat)).f.kind)=9)))then true else(decide (((get s0.1 ((wr .i64 ((↑s0.2.2:Int)-1)).toNat)).f.kind)=10))))then(!decide (((get s0.1 ((wr .i64 ((↑s0.2.2:Int)-1)).toNat)).f.name)=[]))else false)then
      y7 n s0 5
     else
      B2 (G2 (J5 n s0) (((get s0.1 ((wr .i64 ((↑s0.2.2:Int)-1)).toNat)).f.words).length) 0) (J6 n s0)
def E0(n:Nat)(s0:(List w6)×Int×Nat)(j7:Int)(j8:Int):Option (Ctl (x6) ((List w6)×Int×Nat) (Unit)):=
 bif (decide (((get s0.1 ((wr .i64 ((↑s0.2.2:Int)-1)).toNat)).f.kind)=3))then
  D9 n s0 j7 (2,2)
 else
  D9 n s0 j7 (j8,0)
def F4(n:Nat)(s0:(List w6)×Int×Nat)(j7:Int):Option (Ctl (x6) ((List w6)×Int×Nat) (Unit)):=
 bif (decide (((get s0.1 ((wr .i64 ((↑s0.2.2:Int)-1)).toNat)).f.kind)=2))then
  E0 n s0 j7 3
 else
  E0 n s0 j7 0
def D8(n:Nat)(a1:Bool)(s0:(List w6)×Int×Nat):Option (Ctl (x6) ((List w6)×Int×Nat) (Unit)):=
 bif (decide (0<(↑s0.2.2:Int)))then
  chk (s0.2.2≤s0.1.length) <|
  chk (0≤(wr .i64 ((↑s0.2.2:Int)-1))∧(wr .i64 ((↑s0.2.2:Int)-1))<(↑s0.2.2:Int)) <|
  chk ((wr .i64 ((↑s0.2.2:Int)-1)).toNat≤s0.2.2) <|
  (N7 ((get s0.1 ((wr .i64 ((↑s0.2.2:Int)-1)).toNat)).f.kind)).bind fun v34=>
  bif (bif a1 then(decide (((get s0.1 ((wr .i64 ((↑s0.2.2:Int)-1)).toNat)).f.kind)=10))else false)then
   F4 n s0 0
  else
   F4 n s0 v34
 else
  some (.brk ())
def T4(t0:Unit):Option (x6):=
 some (x6.mk 0 0)
def O2(n:Nat)(a0:u6)(a1:Bool):Option (x6):=
 B2 (G7 (D8 n a1) n ([(w6.mk a0 1)],0,1)) (T4)
def I9(n:Nat)(a0:u6):Option (x6):=
 (O2 n a0 false).bind fun v1=>
 some v1
def M6(a2:(List Bs))(s0:(List Bool)×Int)(a1:u6)(s2:Bool×Int):Option (Ctl (Ctl ((List u7)) ((List Bool)×Int) ((List Bool))) (Bool×Int) (Bool)):=
 bif (decide (s2.2<(↑a2.length:Int)))then
  chk (cg (!s2.1) (0≤s2.2)∧cg (!s2.1) (s2.2<(↑a2.length:Int))) <|
  chk (cg (!s2.1) (0≤s0.2)∧cg (!s2.1) (s0.2<(↑a1.words.length:Int))) <|
  some (.nxt ((bif s2.1 then true else(decide ((get a2 s2.2.toNat)=(get a1.words s0.2.toNat)))),(wr .i64 (s2.2+1))))
 else
  some (.brk s2.1)
def V7(s0:(List Bool)×Int)(t2:Bool):Option (Ctl ((List u7)) ((List Bool)×Int) ((List Bool))):=
 aB (s0.1++[t2]) fun c28=>
 chk (c28.length*1≤top∧c28.length≤top) <|
 some (.nxt (c28,(wr .i64 (s0.2+1))))
def M5(n:Nat)(a1:u6)(a2:(List Bs))(s0:(List Bool)×Int):Option (Ctl ((List u7)) ((List Bool)×Int) ((List Bool))):=
 bif (decide (s0.2<(↑a1.words.length:Int)))then
  B2 (G7 (M6 a2 s0 a1) n (false,0)) (V7 s0)
 else
  some (.brk s0.1)
def H6(self:(u6)→((List Bs))→((List u7))→Option ((List u7)))(a1:u6)(j3:(List Bs))(s5:(List u7)×Int):Option (Ctl ((List u7)) ((List u7)×Int) ((List u7))):=
 bif (decide (s5.2<(↑a1.subs.length:Int)))then
  chk (0≤s5.2∧s5.2<(↑a1.subs.length:Int)) <|
  (self (get a1.subs s5.2.toNat) j3 s5.1).bind fun v68=>
  some (.nxt (v68,(wr .i64 (s5.2+1))))
 else
  some (.brk s5.1)
def M8(l0:(List u7))(t5:(List u7)):Option ((List u7)):=
 chk ((↑l0.length:Int)<(↑t5.length:Int)) <|
 aB (t5.set l0.length (u7.mk ((get t5 l0.length).kind) ((get t5 l0.length).name) ((get t5 l0.length).words) ((get t5 l0.length).bound) (↑t5.length:Int))) fun c73=>
 some c73
def E6(self:(u6)→((List Bs))→((List u7))→Option ((List u7)))(n:Nat)(a1:u6)(c34:(List u7))(l0:(List u7))(j3:(List Bs)):Option ((List u7)):=
 B2 (G7 (H6 self a1 j3) n (c34,0)) (M8 l0)
def M9(a2:(List Bs))(s4:(List Bs)×Int):Option (Ctl ((List u7)) ((List Bs)×Int) ((List Bs))):=
 bif (decide (s4.2<(↑a2.length:Int)))then
  chk (0≤s4.2∧s4.2<(↑a2.length:Int)) <|
  aB (s4.1++[(get a2 s4.2.toNat)]) fun c58=>
  chk (c58.length*16≤top∧c58.length≤top) <|
  some (.nxt (c58,(wr .i64 (s4.2+1))))
 else
  some (.brk s4.1)
def V8(self:(u6)→((List Bs))→((List u7))→Option ((List u7)))(n:Nat)(a1:u6)(c34:(List u7))(l0:(List u7))(t4:(List Bs)):Option ((List u7)):=
 E6 self n a1 c34 l0 t4
def M7(self:(u6)→((List Bs))→((List u7))→Option ((List u7)))(n:Nat)(l0:(List u7))(a1:u6)(a2:(List Bs))(t0:(List Bool)):Option ((List u7)):=
 aB (l0++[(u7.mk a1.kind a1.name a1.words t0 0)]) fun c34=>
 chk (c34.length*80≤top∧c34.length≤top) <|
 bif (bif (decide (a1.kind=8))then true else(decide (a1.kind=9)))then
  B2 (G7 (M9 a2) n ([a1.name],0)) (V8 self n a1 c34 l0)
 else
  E6 self n a1 c34 l0 a2
def B4:Nat→(u6)→((List Bs))→((List u7))→Option ((List u7))
 |0,_,_,_=>none
 |n+1,a1,a2,l0=>
  B2 (G7 (M5 n a1 a2) n ([],0)) (M7 (B4 n) n l0 a1 a2)
def Q0(a2:(List Bs))(s0:(List Bool)×Int)(a1:u6)(s2:Bool×Int):Option (Ctl (Ctl ((List u7)) ((List Bool)×Int) ((List Bool))) (Bool×Int) (Bool)):=
 bif (decide (s2.2<(↑a2.length:Int)))then
  chk (cg (!s2.1) (0≤s2.2)∧cg (!s2.1) (s2.2<(↑a2.length:Int))) <|
  chk (cg (!s2.1) (0≤s0.2)∧cg (!s2.1) (s0.2<(↑a1.words.length:Int))) <|
  some (.nxt ((bif s2.1 then true else(decide ((get a2 s2.2.toNat)=(get a1.words s0.2.toNat)))),(wr .i64 (s2.2+1))))
 else
  some (.brk s2.1)
def Z0(s0:(List Bool)×Int)(t2:Bool):Option (Ctl ((List u7)) ((List Bool)×Int) ((List Bool))):=
 aB (s0.1++[t2]) fun c28=>
 chk (c28.length*1≤top∧c28.length≤top) <|
 some (.nxt (c28,(wr .i64 (s0.2+1))))
def P9(n:Nat)(a1:u6)(a2:(List Bs))(s0:(List Bool)×Int):Option (Ctl ((List u7)) ((List Bool)×Int) ((List Bool))):=
 bif (decide (s0.2<(↑a1.words.length:Int)))then
  B2 (G7 (Q0 a2 s0 a1) n (false,0)) (Z0 s0)
 else
  some (.brk s0.1)
def K0(n:Nat)(a1:u6)(j3:(List Bs))(s5:(List u7)×Int):Option (Ctl ((List u7)) ((List u7)×Int) ((List u7))):=
 bif (decide (s5.2<(↑a1.subs.length:Int)))then
  chk (0≤s5.2∧s5.2<(↑a1.subs.length:Int)) <|
  (B4 n (get a1.subs s5.2.toNat) j3 s5.1).bind fun v68=>
  some (.nxt (v68,(wr .i64 (s5.2+1))))
 else
  some (.brk s5.1)
def Q6(t5:(List u7)):Option ((List u7)):=
 chk (0<(↑t5.length:Int)) <|
 aB (t5.set 0 (u7.mk ((get t5 0).kind) ((get t5 0).name) ((get t5 0).words) ((get t5 0).bound) (↑t5.length:Int))) fun c73=>
 some c73
def F9(n:Nat)(a1:u6)(c34:(List u7))(j3:(List Bs)):Option ((List u7)):=
 B2 (G7 (K0 n a1 j3) n (c34,0)) (Q6)
def Q7(a2:(List Bs))(s4:(List Bs)×Int):Option (Ctl ((List u7)) ((List Bs)×Int) ((List Bs))):=
 bif (decide (s4.2<(↑a2.length:Int)))then
  chk (0≤s4.2∧s4.2<(↑a2.length:Int)) <|
  aB (s4.1++[(get a2 s4.2.toNat)]) fun c58=>
  chk (c58.length*16≤top∧c58.length≤top) <|
  some (.nxt (c58,(wr .i64 (s4.2+1))))
 else
  some (.brk s4.1)
def Z1(n:Nat)(a1:u6)(c34:(List u7))(t4:(List Bs)):Option ((List u7)):=
 F9 n a1 c34 t4
def Q5(n:Nat)(a1:u6)(a2:(List Bs))(t0:(List Bool)):Option ((List u7)):=
 aB [(u7.mk a1.kind a1.name a1.words t0 0)] fun c34=>
 chk (c34.length*80≤top∧c34.length≤top) <|
 bif (bif (decide (a1.kind=8))then true else(decide (a1.kind=9)))then
  B2 (G7 (Q7 a2) n ([a1.name],0)) (Z1 n a1 c34)
 else
  F9 n a1 c34 a2
def P4(n:Nat)(a1:u6)(a2:(List Bs)):Option ((List u7)):=
 B2 (G7 (P9 n a1 a2) n ([],0)) (Q5 n a1 a2)
def K1(a0:Bs)(s0:Int):Option (Ctl (Bool) (Int) (Unit)):=
 bif (decide (s0<(↑a0.length:Int)))then
  chk (0≤s0∧s0<(↑a0.length:Int)) <|
  bif (!(bif (bif (decide (97≤(B3 a0 s0)))then(decide ((B3 a0 s0)≤122))else false)then true else(bif (decide (0<s0))then(bif (bif (bif (decide (48≤(B3 a0 s0)))then(decide ((B3 a0 s0)≤57))else false)then true else(decide ((B3 a0 s0)=95)))then true else(decide ((B3 a0 s0)=45)))else false)))then
   some (.ret false)
  else
   some (.nxt (wr .i64 (s0+1)))
 else
  some (.brk ())
def R2(a0:Bs)(t0:Unit):Option (Bool):=
 some (bif (decide (0<(↑a0.length:Int)))then(decide ((↑a0.length:Int)≤30))else false)
def P5(n:Nat)(a0:Bs):Option (Bool):=
 B2 (G7 (K1 a0) n 0) (R2 a0)
def N3(a0:(List Bs))(a1:Bs)(s0:Int):Option (Ctl (Int) (Int) (Unit)):=
 bif (decide (s0<(↑a0.length:Int)))then
  chk (0≤s0∧s0<(↑a0.length:Int)) <|
  bif (decide ((get a0 s0.toNat)=a1))then
   some (.ret s0)
  else
   some (.nxt (wr .i64 (s0+1)))
 else
  some (.brk ())
def V9(t0:Unit):Option (Int):=
 some (-1)
def T6(n:Nat)(a0:(List Bs))(a1:Bs):Option (Int):=
 B2 (G7 (N3 a0 a1) n 0) (V9)
def N4(l0:(List Bs))(a1:Bs)(s0:Int):Option (Ctl (Int) (Int) (Unit)):=
 bif (decide (s0<(↑l0.length:Int)))then
  chk (0≤s0∧s0<(↑l0.length:Int)) <|
  bif (decide ((get l0 s0.toNat)=a1))then
   some (.ret s0)
  else
   some (.nxt (wr .i64 (s0+1)))
 else
  some (.brk ())
def W0(t0:Unit):Option (Int):=
 some (-1)
def T7(n:Nat)(a1:Bs)(l0:(List Bs)):Option (Int):=
 B2 (G7 (N4 l0 a1) n 0) (W0)
def O9(a0:w8)(s0:(List Bs)×Int):Option (Ctl (x6) ((List Bs)×Int) ((List Bs))):=
 bif (decide (s0.2<(↑a0.words.length:Int)))then
  chk (0≤s0.2∧s0.2<(↑a0.words.length:Int)) <|
  aB (s0.1++[(get a0.words s0.2.toNat)]) fun c20=>
  chk (c20.length*16≤top∧c20.length≤top) <|
  some (.nxt (c20,(wr .i64 (s0.2+1))))
 else
  some (.brk s0.1)
def P0(a0:w8)(s1:(List Bs)×Int):Option (Ctl (x6) ((List Bs)×Int) ((List Bs))):=
 bif (decide (s1.2<(↑a0.B1.length:Int)))then
  chk (0≤s1.2∧s1.2<(↑a0.B1.length:Int)) <|
  aB (s1.1++[(get a0.B1 s1.2.toNat)]) fun c35=>
  chk (c35.length*16≤top∧c35.length≤top) <|
  some (.nxt (c35,(wr .i64 (s1.2+1))))
 else
  some (.brk s1.1)
def P1(a0:w8)(s2:(List Bs)×Int):Option (Ctl (x6) ((List Bs)×Int) ((List Bs))):=
 bif (decide (s2.2<(↑a0.parts.length:Int)))then
  chk (0≤s2.2∧s2.2<(↑a0.parts.length:Int)) <|
  aB (s2.1++[(get a0.parts s2.2.toNat)]) fun c50=>
  chk (c50.length*16≤top∧c50.length≤top) <|
  some (.nxt (c50,(wr .i64 (s2.2+1))))
 else
  some (.brk s2.1)
def E2(s3:Int)(t2:(List Bs))(s8:Int):Option (Ctl (Ctl (x6) (Int) (Unit)) (Int) (Unit)):=
 bif (decide (s8<s3))then
  chk (0≤s8∧s8<(↑t2.length:Int)) <|
  bif (decide ((get t2 s8.toNat)=(get t2 s3.toNat)))then
   some (.ret (.ret (x6.mk 7 s3)))
  else
   some (.nxt (wr .i64 (s8+1)))
 else
  some (.brk ())
def C8(s9:Bool×Bool×Int)(v55:(List u7))(s3:Int)(t2:(List Bs))(s11:Bool×Int):Option (Ctl (Ctl (Ctl (x6) (Int) (Unit)) (Bool×Bool×Int) (Bool×Bool)) (Bool×Int) (Bool)):=
 chk (0≤s9.2.2∧s9.2.2<(↑v55.length:Int)) <|
 bif (decide (s11.2<(↑(((get v55 s9.2.2.toNat).words).length):Int)))then
  chk (cg (!s11.1) (0≤s11.2)∧cg (!s11.1) (s11.2<(↑(((get v55 s9.2.2.toNat).words).length):Int))) <|
  chk (s3.toNat<t2.length) <|
  chk (cg ((!s11.1)&&(decide ((get ((get v55 s9.2.2.toNat).words) s11.2.toNat)=(get t2 s3.toNat)))) (0≤s11.2)∧cg ((!s11.1)&&(decide ((get ((get v55 s9.2.2.toNat).words) s11.2.toNat)=(get t2 s3.toNat)))) (s11.2<(↑(((get v55 s9.2.2.toNat).bound).length):Int))) <|
  some (.nxt ((bif s11.1 then true else(bif (decide ((get ((get v55 s9.2.2.toNat).words) s11.2.toNat)=(get t2 s3.toNat)))then(!(get ((get v55 s9.2.2.toNat).bound) s11.2.toNat))else false)),(wr .i64 (s11.2+1))))
 else
  some (.brk s11.1)
def G6(s9:Bool×Bool×Int)(t11:Bool):Option (Ctl (Ctl (x6) (Int) (Unit)) (Bool×Bool×Int) (Bool×Bool)):=
 some (.nxt (t11,s9.2.1,(wr .i64 (s9.2.2+1))))
def D2(n:Nat)(v55:(List u7))(s3:Int)(a0:w8)(t2:(List Bs))(s9:Bool×Bool×Int):Option (Ctl (Ctl (x6) (Int) (Unit)) (Bool×Bool×Int) (Bool×Bool)):=
 bif (decide (s9.2.2<(↑v55.length:Int)))then
  bif (decide (s3<(↑a0.words.length:Int)))then
   B2 (G7 (C8 s9 v55 s3 t2) n (s9.1,0)) (G6 s9)
  else
   chk (0≤s9.2.2∧s9.2.2<(↑v55.length:Int)) <|
   chk (s3.toNat<t2.length) <|
   bif (bif (decide (((get v55 s9.2.2.toNat).kind)=2))then(decide (((get v55 s9.2.2.toNat).name)=(get t2 s3.toNat)))else false)then
    some (.nxt (true,(bif s9.2.1 then true else(decide (0<(↑(((get v55 s9.2.2.toNat).words).length):Int)))),(wr .i64 (s9.2.2+1))))
   else
    some (.nxt (s9.1,s9.2.1,(wr .i64 (s9.2.2+1))))
 else
  some (.brk (s9.1,s9.2.1))
def H8(a0:w8)(s3:Int)(t9:Bool×Bool):Option (Ctl (x6) (Int) (Unit)):=
 bif (bif (decide ((wr .i64 ((↑a0.words.length:Int)+(↑a0.B1.length:Int)))≤s3))then t9.2 else false)then
  some (.ret (x6.mk 5 s3))
 else
  bif (!t9.1)then
   some (.ret (x6.mk 15 s3))
  else
   some (.nxt (wr .i64 (s3+1)))
def H7(n:Nat)(v55:(List u7))(s3:Int)(a0:w8)(t2:(List Bs))(t8:Unit):Option (Ctl (x6) (Int) (Unit)):=
 B2 (G7 (D2 n v55 s3 a0 t2) n (false,false,0)) (H8 a0 s3)
def D3(n:Nat)(t2:(List Bs))(v55:(List u7))(a0:w8)(s3:Int):Option (Ctl (x6) (Int) (Unit)):=
 bif (decide (s3<(↑t2.length:Int)))then
  chk (0≤s3∧s3<(↑t2.length:Int)) <|
  (P5 n (get t2 s3.toNat)).bind fun v115=>
  bif (!v115)then
   some (.ret (x6.mk 10 s3))
  else
   B2 (G7 (E2 s3 t2) n 0) (H7 n v55 s3 a0 t2)
 else
  some (.brk ())
def C9(n:Nat)(v55:(List u7))(a0:w8)(s12:(List Bs)×Int):Option (Ctl (x6) ((List Bs)×Int) (Unit)):=
 bif (decide (s12.2<(↑v55.length:Int)))then
  chk (0≤s12.2∧s12.2<(↑v55.length:Int)) <|
  bif (bif (decide (((get v55 s12.2.toNat).kind)=8))then true else(decide (((get v55 s12.2.toNat).kind)=9)))then
   (T7 n ((get v55 s12.2.toNat).name) s12.1).bind fun v195=>
   (gd (!(decide (0≤v195))) (T6 n a0.words ((get v55 s12.2.toNat).name)) default).bind fun v196=>
   bif (bif (decide (0≤v195))then true else(decide (0≤v196)))then
    some (.ret (x6.mk 7 (-1)))
   else
    aB (s12.1++[(get v55 s12.2.toNat).name]) fun c198=>
    chk (c198.length*16≤top∧c198.length≤top) <|
    some (.nxt (c198,(wr .i64 (s12.2+1))))
  else
   some (.nxt (s12.1,(wr .i64 (s12.2+1))))
 else
  some (.brk ())
def O1(t12:Unit):Option (x6):=
 some (x6.mk 0 0)
def I4(n:Nat)(v55:(List u7))(a0:w8)(t3:Unit):Option (x6):=
 B2 (G7 (C9 n v55 a0) n ([],0)) (O1)
def I3(n:Nat)(a0:w8)(t2:(List Bs)):Option (x6):=
 (P4 n a0.form []).bind fun v55=>
 B2 (G7 (D3 n t2 v55 a0) n 0) (I4 n v55 a0)
def I0(n:Nat)(a0:w8)(t1:(List Bs)):Option (x6):=
 B2 (G7 (P1 a0) n (t1,0)) (I3 n a0)
def H9(n:Nat)(a0:w8)(t0:(List Bs)):Option (x6):=
 B2 (G7 (P0 a0) n (t0,0)) (I0 n a0)
def G3(n:Nat)(a0:w8):Option (x6):=
 (I9 n a0.form).bind fun v1=>
 bif (!decide (v1.code=0))then
  some v1
 else
  bif (decide (300<(wr .i64 ((wr .i64 ((↑a0.words.length:Int)+(↑a0.B1.length:Int)))+(↑a0.parts.length:Int)))))then
   some (x6.mk 2 (-1))
  else
   B2 (G7 (O9 a0) n ([],0)) (H9 n a0)
def B5(a0:Bs)(a1:Bs):Option (Bool):=
 chk (cg (decide ((↑a1.length:Int)≤(↑a0.length:Int))) (0≤(↑a1.length:Int))∧cg (decide ((↑a1.length:Int)≤(↑a0.length:Int))) (a1.length≤a0.length)) <|
 some (bif (decide ((↑a1.length:Int)≤(↑a0.length:Int)))then(decide ((a0.take a1.length)=a1))else false)
def E4(a0:Bs)(a1:Bs):Option (Bs):=
 (B5 a0 a1).bind fun v1=>
 bif v1 then
  chk (0≤(↑a1.length:Int)∧a1.length≤a0.length) <|
  some (a0.drop a1.length)
 else
  some a0
def L9(a0:Bs)(a1:Bs):Option (Bs):=
 (E4 a0 a1).bind fun v1=>
 some v1
def O7(a0:Bs)(a1:Bs):Option (Bool):=
 (B5 a0 a1).bind fun v1=>
 some v1
def D7(B0:Bs)(F3:Int)(P7:Int)(S4:Int)(G5:Int):Option (Int):=
 bif (decide (F3<(↑B0.length:Int)))then
  chk (0≤F3∧F3<(↑B0.length:Int)) <|
  some (B3 B0 F3)
 else
  some 0
def C4(a1:Int)(a2:Int)(B0:Bs)(F3:Int)(P7:Int)(S4:Int)(G5:Int):Option (Int×Int):=
 bif (decide (P7=0))then
  some (a1,a2)
 else
  some (P7,S4)
def X5(B0:Bs)(F3:Int)(s0:Int):Option (Ctl (Bs×Int×Int×Int) (Int) (Int)):=
 chk (cg (bif (decide (s0<(↑B0.length:Int)))then(decide ((wr .i64 (s0-F3))<30))else false) (0≤F3)∧cg (bif (decide (s0<(↑B0.length:Int)))then(decide ((wr .i64 (s0-F3))<30))else false) (0≤(wr .i64 (s0+1)))∧cg (bif (decide (s0<(↑B0.length:Int)))then(decide ((wr .i64 (s0-F3))<30))else false) (F3.toNat≤(wr .i64 (s0+1)).toNat)∧cg (bif (decide (s0<(↑B0.length:Int)))then(decide ((wr .i64 (s0-F3))<30))else false) ((wr .i64 (s0+1)).toNat≤B0.length)) <|
 (gd (bif (decide (s0<(↑B0.length:Int)))then(decide ((wr .i64 (s0-F3))<30))else false) (termName ((B0.drop F3.toNat).take ((wr .i64 (s0+1)).toNat-F3.toNat))) default).bind fun v12=>
 bif (bif (bif (decide (s0<(↑B0.length:Int)))then(decide ((wr .i64 (s0-F3))<30))else false)then v12 else false)then
  some (.nxt (wr .i64 (s0+1)))
 else
  some (.brk s0)
def X6(F3:Int)(B0:Bs)(P7:Int)(S4:Int)(G5:Int)(t0:Int):Option (Bs×Int×Int×Int):=
 bif (decide (t0=F3))then
  (C4 11 t0 B0 t0 P7 S4 G5).bind fun v13=>
  chk (0≤F3∧0≤t0∧F3.toNat≤t0.toNat∧t0.toNat≤B0.length) <|
  some (((B0.drop F3.toNat).take (t0.toNat-F3.toNat)),t0,v13.1,v13.2)
 else
  chk (0≤F3∧0≤t0∧F3.toNat≤t0.toNat∧t0.toNat≤B0.length) <|
  some (((B0.drop F3.toNat).take (t0.toNat-F3.toNat)),t0,P7,S4)
def C1(n:Nat)(B0:Bs)(F3:Int)(P7:Int)(S4:Int)(G5:Int):Option (Bs×Int×Int×Int):=
 bif (!decide (P7=0))then
  some ([],F3,P7,S4)
 else
  B2 (G7 (X5 B0 F3) n F3) (X6 F3 B0 P7 S4 G5)
def y8(a1:Int)(B0:Bs)(F3:Int)(P7:Int)(S4:Int)(G5:Int):Option (Bool×Int×Int×Int):=
 bif (!decide (P7=0))then
  some (false,F3,P7,S4)
 else
  chk (cg (decide (F3<(↑B0.length:Int))) (0≤F3)∧cg (decide (F3<(↑B0.length:Int))) (F3<(↑B0.length:Int))) <|
  bif (bif (decide (F3<(↑B0.length:Int)))then(decide ((B3 B0 F3)=a1))else false)then
   some (true,(wr .i64 (F3+1)),P7,S4)
  else
   (C4 11 F3 B0 F3 P7 S4 G5).bind fun v4=>
   some (false,F3,v4.1,v4.2)
def N8(n:Nat)(B0:Bs)(G5:Int)(s0:Int×Int×Int×(List Bs)):Option (Ctl ((List Bs)×Int×Int×Int) (Int×Int×Int×(List Bs)) (Int×Int×Int×(List Bs))):=
 bif (decide (s0.2.1=0))then
  (C1 n B0 s0.1 s0.2.1 s0.2.2.1 G5).bind fun v11=>
  aB (s0.2.2.2++[v11.1]) fun c13=>
  chk (c13.length*16≤top∧c13.length≤top) <|
  (gd (decide ((↑c13.length:Int)<3)) (D7 B0 v11.2.1 v11.2.2.1 v11.2.2.2 G5) (default:Int)).bind fun v18=>
  bif (bif (decide ((↑c13.length:Int)<3))then(decide (v18=44))else false)then
   some (.nxt ((wr .i64 (v11.2.1+1)),v11.2.2.1,v11.2.2.2,c13))
  else
   (y8 41 B0 v11.2.1 v11.2.2.1 v11.2.2.2 G5).bind fun v19=>
   some (.brk (v19.2.1,v19.2.2.1,v19.2.2.2,c13))
 else
  some (.brk (s0.1,s0.2.1,s0.2.2.1,s0.2.2.2))
def N9(t0:Int×Int×Int×(List Bs)):Option ((List Bs)×Int×Int×Int):=
 some (t0.2.2.2,t0.1,t0.2.1,t0.2.2.1)
def K2(n:Nat)(B0:Bs)(F3:Int)(P7:Int)(S4:Int)(G5:Int):Option ((List Bs)×Int×Int×Int):=
 (D7 B0 F3 P7 S4 G5).bind fun v1=>
 bif (decide (v1=41))then
  some ([],(wr .i64 (F3+1)),P7,S4)
 else
  B2 (G7 (N8 n B0 G5) n (F3,P7,S4,[])) (N9)
def B8(C6:(Int)→(Bs)→(Int)→(Int)→(Int)→(Int)→Option (u6×Int×Int×Int×Int))(a1:Int)(B0:Bs)(F3:Int)(G5:Int)(j0:Int×Int):Option (u6×Int×Int×Int×Int):=
 (C6 (wr .i64 (a1+1)) B0 (wr .i64 (F3+1)) j0.1 j0.2 G5).bind fun v12=>
 (y8 32 B0 v12.2.1 v12.2.2.1 v12.2.2.2.1 v12.2.2.2.2).bind fun v13=>
 aB (y6 38 5 []) fun c14=>
 aB (y6 124 6 c14) fun c17=>
 aB (y6 62 7 c17) fun c19=>
 (D7 B0 v13.2.1 v13.2.2.1 v13.2.2.2 v12.2.2.2.2).bind fun v21=>
 bif (decide (((assoc v21 c19).getD default)=0))then
  (C4 11 v13.2.1 B0 v13.2.1 v13.2.2.1 v13.2.2.2 v12.2.2.2.2).bind fun v22=>
  some ((u6.mk 0 [] [] []),v13.2.1,v22.1,v22.2,v12.2.2.2.2)
 else
  (y8 32 B0 (wr .i64 (v13.2.1+1)) v13.2.2.1 v13.2.2.2 v12.2.2.2.2).bind fun v23=>
  (C6 (wr .i64 (a1+1)) B0 v23.2.1 v23.2.2.1 v23.2.2.2 v12.2.2.2.2).bind fun v24=>
  (y8 41 B0 v24.2.1 v24.2.2.1 v24.2.2.2.1 v24.2.2.2.2).bind fun v25=>
  some ((u6.mk ((assoc v21 c19).getD default) [] [] [v12.1,v24.1]),v25.2.1,v25.2.2.1,v25.2.2.2,v24.2.2.2.2)
def J1(C6:(Int)→(Bs)→(Int)→(Int)→(Int)→(Int)→Option (u6×Int×Int×Int×Int))(n:Nat)(a1:Int)(B0:Bs)(F3:Int)(P7:Int)(S4:Int)(G5:Int):Option (u6×Int×Int×Int×Int):=
 (D7 B0 (wr .i64 (F3+1)) P7 S4 G5).bind fun v1=>
 bif (bif (decide (97≤v1))then(decide (v1≤122))else false)then
  (C1 n B0 (wr .i64 (F3+1)) P7 S4 G5).bind fun v2=>
  (D7 B0 v2.2.1 v2.2.2.1 v2.2.2.2 G5).bind fun v3=>
  bif (decide (v3=32))then
   chk (cg (decide ((wr .i64 (v2.2.1+1))<(↑B0.length:Int))) (0≤(wr .i64 (v2.2.1+1)))∧cg (decide ((wr .i64 (v2.2.1+1))<(↑B0.length:Int))) ((wr .i64 (v2.2.1+1))<(↑B0.length:Int))) <|
   bif (bif (decide ((wr .i64 (v2.2.1+1))<(↑B0.length:Int)))then(decide ((B3 B0 (wr .i64 (v2.2.1+1)))=61))else false)then
    (y8 32 B0 (wr .i64 (v2.2.1+2)) v2.2.2.1 v2.2.2.2 G5).bind fun v7=>
    (C1 n B0 v7.2.1 v7.2.2.1 v7.2.2.2 G5).bind fun v8=>
    (y8 41 B0 v8.2.1 v8.2.2.1 v8.2.2.2 G5).bind fun v9=>
    some ((u6.mk 3 [] [v2.1,v8.1] []),v9.2.1,v9.2.2.1,v9.2.2.2,G5)
   else
    bif (bif (bif (!decide (v2.1=[116,114,117,101]))then(!decide (v2.1=[97,108,108]))else false)then(!decide (v2.1=[115,111,109,101]))else false)then
     (C4 11 (wr .i64 (v2.2.1+1)) B0 v2.2.1 v2.2.2.1 v2.2.2.2 G5).bind fun v11=>
     some ((u6.mk 0 [] [] []),v2.2.1,v11.1,v11.2,G5)
    else
     B8 C6 a1 B0 F3 G5 (v2.2.2.1,v2.2.2.2)
  else
   B8 C6 a1 B0 F3 G5 (v2.2.2.1,v2.2.2.2)
 else
  B8 C6 a1 B0 F3 G5 (P7,S4)
def E9(self:(Int)→(Bs)→(Int)→(Int)→(Int)→(Int)→Option (u6×Int×Int×Int×Int))(n:Nat)(B0:Bs)(v7:Bs×Int×Int×Int)(G5:Int)(a1:Int)(j0:Bool):Option (u6×Int×Int×Int×Int):=
 bif j0 then
  (y8 32 B0 v7.2.1 v7.2.2.1 v7.2.2.2 (wr .i64 (G5+1))).bind fun v10=>
  aB (y6 [97,108,108] 8 []) fun c11=>
  aB (y6 [115,111,109,101] 9 c11) fun c14=>
  (C1 n B0 v10.2.1 v10.2.2.1 v10.2.2.2 (wr .i64 (G5+1))).bind fun v16=>
  (y8 32 B0 v16.2.1 v16.2.2.1 v16.2.2.2 (wr .i64 (G5+1))).bind fun v17=>
  (self (wr .i64 (a1+1)) B0 v17.2.1 v17.2.2.1 v17.2.2.2 (wr .i64 (G5+1))).bind fun v18=>
  some ((u6.mk ((assoc v7.1 c14).getD default) v16.1 [] [v18.1]),v18.2.1,v18.2.2.1,v18.2.2.2.1,v18.2.2.2.2)
 else
  (C4 11 v7.2.1 B0 v7.2.1 v7.2.2.1 v7.2.2.2 (wr .i64 (G5+1))).bind fun v20=>
  some ((u6.mk 0 [] [] []),v7.2.1,v20.1,v20.2,(wr .i64 (G5+1)))
def y9:Nat→(Int)→(Bs)→(Int)→(Int)→(Int)→(Int)→Option (u6×Int×Int×Int×Int)
 |0,_,_,_,_,_,_=>none
 |n+1,a1,B0,F3,P7,S4,G5=>
  bif (!decide (P7=0))then
   some ((u6.mk 0 [] [] []),F3,P7,S4,G5)
  else
   (D7 B0 F3 P7 S4 G5).bind fun v1=>
   bif (!(bif (bif (decide (v1=45))then true else(decide (v1=40)))then true else(bif (decide (97≤v1))then(decide (v1≤122))else false)))then
    (C4 11 F3 B0 F3 P7 S4 G5).bind fun v2=>
    some ((u6.mk 0 [] [] []),F3,v2.1,v2.2,G5)
   else
    bif (bif (decide (200<(wr .i64 (G5+1))))then true else(decide (40<a1)))then
     (C4 1 F3 B0 F3 P7 S4 (wr .i64 (G5+1))).bind fun v3=>
     some ((u6.mk 0 [] [] []),F3,v3.1,v3.2,(wr .i64 (G5+1)))
    else
     bif (decide (v1=45))then
      (y9 n (wr .i64 (a1+1)) B0 (wr .i64 (F3+1)) P7 S4 (wr .i64 (G5+1))).bind fun v4=>
      some ((u6.mk 4 [] [] [v4.1]),v4.2.1,v4.2.2.1,v4.2.2.2.1,v4.2.2.2.2)
     else
      bif (decide (v1=40))then
       (J1 (y9 n) n a1 B0 F3 P7 S4 (wr .i64 (G5+1))).bind fun v6=>
       some (v6.1,v6.2.1,v6.2.2.1,v6.2.2.2.1,v6.2.2.2.2)
      else
       (C1 n B0 F3 P7 S4 (wr .i64 (G5+1))).bind fun v7=>
       (D7 B0 v7.2.1 v7.2.2.1 v7.2.2.2 (wr .i64 (G5+1))).bind fun v8=>
       bif (decide (v8=40))then
        (K2 n B0 (wr .i64 (v7.2.1+1)) v7.2.2.1 v7.2.2.2 (wr .i64 (G5+1))).bind fun v9=>
        some ((u6.mk 2 v7.1 v9.1 []),v9.2.1,v9.2.2.1,v9.2.2.2,(wr .i64 (G5+1)))
       else
        bif (decide (v7.1=[116,114,117,101]))then
         some ((u6.mk 1 [] [] []),v7.2.1,v7.2.2.1,v7.2.2.2,(wr .i64 (G5+1)))
        else
         bif (decide (v7.1=[97,108,108]))then
          E9 (y9 n) n B0 v7 G5 a1 (decide (v7.1=[97,108,108]))
         else
          E9 (y9 n) n B0 v7 G5 a1 (decide (v7.1=[115,111,109,101]))
def S9(v1:u6×Int×Int×Int×Int)(j0:Int×Int):Option (u6×x6):=
 bif (!decide (j0.1=0))then
  some ((u6.mk 0 [] [] []),(x6.mk j0.1 j0.2))
 else
  some (v1.1,(x6.mk 0 0))
def U7(n:Nat)(a0:Bs):Option (u6×x6):=
 bif (decide (4000<(↑a0.length:Int)))then
  some ((u6.mk 0 [] [] []),(x6.mk 1 0))
 else
  (y9 n 1 a0 0 0 0 0).bind fun v1=>
  bif (bif (decide (v1.2.2.1=0))then(decide (v1.2.1<(↑a0.length:Int)))else false)then
   (C4 11 v1.2.1 a0 v1.2.1 v1.2.2.1 v1.2.2.2.1 v1.2.2.2.2).bind fun v2=>
   S9 v1 (v2.1,v2.2)
  else
   S9 v1 (v1.2.2.1,v1.2.2.2.1)
def X9(c22:(List (List Bs)))(k0:Nat)(k2:Nat)(s2:Unit):Option (Ctl (Ctl (w8×x6) ((List Bs)×(List Bs)×(List Bs)) ((List Bs)×(List Bs)×(List Bs))) (Unit) (Unit)):=
 (termName (get (get [(get c22 0),(get c22 1),(get c22 2)] k0) k2)).bind fun v27=>
 bif (!v27)then
  (C2 11 0).bind fun v28=>
  some (.ret (.ret ((w8.mk (u6.mk 0 [] [] []) [] [] []),v28)))
 else
  some (.nxt ())
def aI(c22:(List (List Bs)))(t2:Unit):Option (Ctl (w8×x6) ((List Bs)×(List Bs)×(List Bs)) ((List Bs)×(List Bs)×(List Bs))):=
 some (.nxt ((get c22 0),(get c22 1),(get c22 2)))
def S1(v4:(List Bs))(k0:Nat)(s0:(List Bs)×(List Bs)×(List Bs)):Option (Ctl (w8×x6) ((List Bs)×(List Bs)×(List Bs)) ((List Bs)×(List Bs)×(List Bs))):=
 bif (decide ((get v4 k0)=[]))then
  some (.nxt (s0.1,s0.2.1,s0.2.2))
 else
  (qw (get v4 k0) [32]).bind fun v18=>
  chk ((↑k0:Int)<3) <|
  aB ([s0.1,s0.2.1,s0.2.2].set k0 v18) fun c22=>
  B2 (G2 (X9 c22 k0) ((get [(get c22 0),(get c22 1),(get c22 2)] k0).length) ()) (aI c22)
def aJ(n:Nat)(v2:Bs×Bs×Bool)(t0:(List Bs)×(List Bs)×(List Bs)):Option (w8×x6):=
 (U7 n v2.2.1).bind fun v29=>
 bif (!decide (v29.2.code=0))then
  (C2 v29.2.code (wr .i64 ((wr .i64 (v29.2.index+(↑v2.1.length:Int)))+2))).bind fun v30=>
  some ((w8.mk (u6.mk 0 [] [] []) [] [] []),v30)
 else
  (J0 n (w8.mk v29.1 t0.1 t0.2.1 t0.2.2)).bind fun v31=>
  bif (!decide (v31.code=0))then
   some ((w8.mk (u6.mk 0 [] [] []) [] [] []),v31)
  else
   some ((w8.mk v29.1 t0.1 t0.2.1 t0.2.2),(x6.mk 0 0))
def V0(n:Nat)(a0:Bs):Option (w8×x6):=
 bif (decide (4000<(↑a0.length:Int)))then
  (C2 1 0).bind fun v1=>
  some ((w8.mk (u6.mk 0 [] [] []) [] [] []),v1)
 else
  (Lc a0 [93,32]).bind fun v2=>
  (L9 v2.1 [91]).bind fun v3=>
  (qw v3 [124]).bind fun v4=>
  (gd (!(!v2.2.2)) (O7 v2.1 [91]) default).bind fun v5=>
  bif (bif (bif (!v2.2.2)then true else(!v5))then true else(!decide ((↑v4.length:Int)=3)))then
   (C2 11 0).bind fun v6=>
   some ((w8.mk (u6.mk 0 [] [] []) [] [] []),v6)
  else
   B2 (G2 (S1 v4) v4.length ([],[],[])) (aJ n v2)
def J2(n:Nat)(a0:u6):Option (Bool):=
 (B9 n a0 (u6.mk 0 [] [] [])).bind fun v1=>
 some v1
def B6(n:Nat)(a1:Bs)(j0:Unit):Option (Bool):=
 (V0 n a1).bind fun v9=>
 bif (!decide (v9.2.code=0))then
  (J2 n v9.1.form).bind fun v10=>
  some (bif (bif (bif v10 then(decide ((↑v9.1.words.length:Int)=0))else false)then(decide ((↑v9.1.B1.length:Int)=0))else false)then(decide ((↑v9.1.parts.length:Int)=0))else false)
 else
  (V1 n v9.1).bind fun v11=>
  some (bif (decide (v11.2.code=0))then(decide (v11.1=a1))else false)
def J7(n:Nat)(a0:w8)(a1:Bs):Option (Bool):=
 (E3 n).bind fun v1=>
 bif (!v1)then
  some false
 else
  (V1 n a0).bind fun v2=>
  (G3 n a0).bind fun v3=>
  bif (!decide (v3.code=0))then
   bif (bif (!(decide (v2.2.code=v3.code)&&(decide (v2.2.index=v3.index))))then true else(!decide (v2.1=[])))then
    some false
   else
    B6 n a1 ()
  else
   bif (decide (v2.2.code=0))then
    (V0 n v2.1).bind fun v4=>
    (gd (!(!decide (v4.2.code=0))) (B9 n v4.1.form a0.form) default).bind fun v5=>
    (gd (!(bif (!decide (v4.2.code=0))then true else(!v5))) (D0 n v4.1.words a0.words) default).bind fun v6=>
    (gd (!(bif (bif (!decide (v4.2.code=0))then true else(!v5))then true else(!v6))) (D0 n v4.1.B1 a0.B1) default).bind fun v7=>
    (gd (!(bif (bif (bif (!decide (v4.2.code=0))then true else(!v5))then true else(!v6))then true else(!v7))) (D0 n v4.1.parts a0.parts) default).bind fun v8=>
    bif (bif (bif (bif (bif (!decide (v4.2.code=0))then true else(!v5))then true else(!v6))then true else(!v7))then true else(!v8))then
     some false
    else
     B6 n a1 ()
   else
    bif (!(decide (v2.2.code=1)&&(decide (v2.2.index=0))))then
     some false
    else
     B6 n a1 ()
end Go.Proofs.YtahjhbkhcaphgaaGreatDoor
