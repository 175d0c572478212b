import Derived.Test.YtanlbioodbnakaaGreatDoorTTStrs
import Derived.Test.YtanlbioodbnakaaGreatDoorTTCat
import Derived.Test.YtanlbioodbnakaaGreatDoorTTCmp
set_option linter.unusedVariables false
set_option linter.unusedSimpArgs false
namespace Go.Proofs.YtanlbioodbnakaaGreatDoor
open Go Go.Am
def qo(a0:u6)(a1:u6):Option (Int):=
 some (wr .i64 (a0.at_-a1.at_))
def I4(a0:Bs)(a1:(List Bs)):Option (u5):=
 some (u5.mk 2 a0 a1 [])
def aX(a0:Int)(a1:u5)(a2:u5):Option (u5):=
 some (u5.mk a0 [] [] [a1,a2])
def F9(a0:Int)(a1:Int):Option (B0):=
 some (B0.mk a0 a1)
def S6(a0:Int)(B7:Int):Option (B0):=
 some (B0.mk a0 B7)
def bq(j2:Bool):Option (Int):=
 bif j2 then
  some 2
 else
  some (-1)
def bp(a0:Int)(j1:Bool):Option (Int):=
 bif j1 then
  some 1
 else
  bif (decide (a0=5))then
   bq (decide (a0=5))
  else
   bif (decide (a0=6))then
    bq (decide (a0=6))
   else
    bq (decide (a0=7))
def bn(a0:Int)(j0:Bool):Option (Int):=
 bif j0 then
  some 0
 else
  bif (decide (a0=4))then
   bp a0 (decide (a0=4))
  else
   bif (decide (a0=8))then
    bp a0 (decide (a0=8))
   else
    bp a0 (decide (a0=9))
def iT(a0:Int):Option (Int):=
 bif (decide (a0=1))then
  bn a0 (decide (a0=1))
 else
  bif (decide (a0=2))then
   bn a0 (decide (a0=2))
  else
   bn a0 (decide (a0=3))
def C7(a0:u5):Option (Bool):=
 some (bif (decide (a0.kind=8))then true else(decide (a0.kind=9)))
def kC(a0:Bs)(k0:Nat)(s0:Unit):Option (Ctl (Bool) (Unit) (Unit)):=
 bif (!(bif (bif (bif (bif (decide (97≤(dY a0 (↑k0:Int))))then(decide ((dY a0 (↑k0:Int))≤122))else false)then true else(bif (decide (48≤(dY a0 (↑k0:Int))))then(decide ((dY a0 (↑k0:Int))≤57))else false))then true else(decide ((dY a0 (↑k0:Int))=95)))then true else(decide ((dY a0 (↑k0:Int))=45))))then
  some (.ret false)
 else
  some (.nxt ())
def kD(t0:Unit):Option (Bool):=
 some true
def termName(a0:Bs):Option (Bool):=
 chk (jH (!(bif (decide ((↑a0.length:Int)=0))then true else(decide (30<(↑a0.length:Int))))) (0<(↑a0.length:Int))) <|
 chk (jH (!(bif (bif (decide ((↑a0.length:Int)=0))then true else(decide (30<(↑a0.length:Int))))then true else(decide ((dY a0 0)<97)))) (0<(↑a0.length:Int))) <|
 bif (bif (bif (bif (decide ((↑a0.length:Int)=0))then true else(decide (30<(↑a0.length:Int))))then true else(decide ((dY a0 0)<97)))then true else(decide (122<(dY a0 0))))then
  some false
 else
  chk (a0.length≤9223372036854775807) <|
  C2 (D4 (kC a0) a0.length ()) (kD)
def dh(a0:u5)(B7:Int)(k2:Nat)(s2:Unit):Option (Ctl (B0×Int) (Unit) (Unit)):=
 (termName (get a0.words k2)).bind fun v9=>
 bif (!v9)then
  (S6 10 B7).bind fun v10=>
  some (.ret (v10,(wr .i64 (B7+1))))
 else
  some (.nxt ())
def dn(self:(u5)→(Int)→(Int)→(Bool)→Option (B0×Int))(a0:u5)(a1:Int)(P5:Bool)(k3:Nat)(s3:Int):Option (Ctl (B0×Int) (Int) (Int)):=
 (self (get a0.subs k3) (wr .i64 (a1+1)) s3 P5).bind fun v12=>
 bif (!decide (v12.1.code=0))then
  some (.ret (v12.1,v12.2))
 else
  some (.nxt v12.2)
def dr(t3:Int):Option (B0×Int):=
 some ((B0.mk 0 0),t3)
def dj(self:(u5)→(Int)→(Int)→(Bool)→Option (B0×Int))(a0:u5)(a1:Int)(P5:Bool)(B7:Int)(t2:Unit):Option (B0×Int):=
 C2 (D4 (dn self a0 a1 P5) a0.subs.length (wr .i64 (B7+1))) (dr)
def Q5(self:(u5)→(Int)→(Int)→(Bool)→Option (B0×Int))(a0:u5)(j0:Int)(B7:Int)(a1:Int)(P5:Bool)(j1:Bool):Option (B0×Int):=
 bif (bif (!decide ((↑a0.subs.length:Int)=j0))then true else(!j1))then
  (S6 9 B7).bind fun v4=>
  some (v4,(wr .i64 (B7+1)))
 else
  (gd (!(decide (a0.kind=2))) (C7 a0) default).bind fun v5=>
  (gd (bif (bif (decide (a0.kind=2))then true else v5)then true else(decide (a0.kind=10))) (termName a0.name) default).bind fun v6=>
  bif (bif (bif (bif (decide (a0.kind=2))then true else v5)then true else(decide (a0.kind=10)))then(!v6)else false)then
   (S6 10 B7).bind fun v7=>
   some (v7,(wr .i64 (B7+1)))
  else
   bif (bif (!(bif (bif (decide (a0.kind=2))then true else v5)then true else(decide (a0.kind=10))))then(!decide (a0.name=[]))else false)then
    (S6 5 B7).bind fun v8=>
    some (v8,(wr .i64 (B7+1)))
   else
    C2 (D4 (dh a0 B7) a0.words.length ()) (dj self a0 a1 P5 B7)
def V3(self:(u5)→(Int)→(Int)→(Bool)→Option (B0×Int))(B7:Int)(a0:u5)(a1:Int)(P5:Bool)(j0:Int):Option (B0×Int):=
 bif (decide (j0<0))then
  (S6 4 B7).bind fun v3=>
  some (v3,(wr .i64 (B7+1)))
 else
  bif (decide (a0.kind=2))then
   Q5 self a0 j0 B7 a1 P5 (decide ((↑a0.words.length:Int)≤3))
  else
   bif (decide (a0.kind=3))then
    Q5 self a0 j0 B7 a1 P5 (decide ((↑a0.words.length:Int)=2))
   else
    Q5 self a0 j0 B7 a1 P5 (decide ((↑a0.words.length:Int)=0))
def J0:Nat→(u5)→(Int)→(Int)→(Bool)→Option (B0×Int)
 |0,_,_,_,_=>none
 |n+1,a0,a1,B7,P5=>
  bif (bif (decide (200<(wr .i64 (B7+1))))then true else(decide (40<a1)))then
   (S6 1 B7).bind fun v1=>
   some (v1,(wr .i64 (B7+1)))
  else
   (iT a0.kind).bind fun v2=>
   bif (bif (decide (a0.kind=10))then P5 else false)then
    V3 (J0 n) B7 a0 a1 P5 0
   else
    V3 (J0 n) B7 a0 a1 P5 v2
def jt(n:Nat)(a0:u5)(a1:Bool):Option (B0):=
 (J0 n a0 1 0 a1).bind fun v1=>
 some v1.1
def P2(n:Nat)(a0:u5):Option (B0):=
 (jt n a0 false).bind fun v1=>
 some v1
def P7(a0:A8):Option ((List Bs)):=
 (pK [a0.words,a0.E9,a0.parts]).bind fun v2=>
 some v2
def I5(a0:Int)(a1:Int):Option (B0):=
 some (B0.mk a0 a1)
def N6(a1:Bs)(a0:(List Bs))(k0:Nat)(s0:Unit):Option (Ctl (Int) (Unit) (Unit)):=
 bif (decide (a1=(get a0 k0)))then
  some (.ret (↑k0:Int))
 else
  some (.nxt ())
def N7(t0:Unit):Option (Int):=
 some (-1)
def R7(a0:(List Bs))(a1:Bs):Option (Int):=
 C2 (D4 (N6 a1 a0) a0.length ()) (N7)
def A9(a0:(List Bs))(a1:Bs):Option (Bool):=
 (R7 a0 a1).bind fun v1=>
 some (decide (0≤v1))
def R2(a1:(List Bs))(a0:u5)(k0:Nat)(s0:(List Bs)):Option (Ctl ((List Bs)) ((List Bs)) ((List Bs))):=
 (A9 a1 (get a0.words k0)).bind fun v8=>
 bif (!v8)then
  P6 (s0++[(get a0.words k0)]) fun c10=>
  chk (c10.length*16≤top∧c10.length≤top) <|
  some (.nxt c10)
 else
  some (.nxt s0)
def R3(self:(u5)→((List Bs))→((List Bs))→Option ((List Bs)))(a0:u5)(j1:(List Bs))(k2:Nat)(s2:(List Bs)):Option (Ctl ((List Bs)) ((List Bs)) ((List Bs))):=
 (self (get a0.subs k2) j1 s2).bind fun v26=>
 some (.nxt v26)
def R4(t2:(List Bs)):Option ((List Bs)):=
 some t2
def G8(self:(u5)→((List Bs))→((List Bs))→Option ((List Bs)))(a0:u5)(t0:(List Bs))(j1:(List Bs)):Option ((List Bs)):=
 C2 (D4 (R3 self a0 j1) a0.subs.length t0) (R4)
def R5(self:(u5)→((List Bs))→((List Bs))→Option ((List Bs)))(a0:u5)(a1:(List Bs))(t0:(List Bs)):Option ((List Bs)):=
 (C7 a0).bind fun v15=>
 bif v15 then
  chk (0≤(↑a1.length:Int)∧0≤(↑a1.length:Int)) <|
  P6 (a1++[a0.name]) fun c19=>
  chk (c19.length*16≤top∧c19.length≤top) <|
  G8 self a0 t0 c19
 else
  G8 self a0 t0 a1
def F0:Nat→(u5)→((List Bs))→((List Bs))→Option ((List Bs))
 |0,_,_,_=>none
 |n+1,a0,a1,l1=>
  C2 (D4 (R2 a1 a0) a0.words.length l1) (R5 (F0 n) a0 a1)
def H6(l0:(List Bs)):Option ((List Bs)):=
 chk (l0.length<4611686018427387904) (some (jT cfB l0))
def K2(l0:(List Bs)):Option (List Bs):=
 chk (l0.length≤9223372036854775807) (some (cpt l0))
def K3(n:Nat)(a0:u5):Option ((List Bs)):=
 (F0 n a0 [] []).bind fun v1=>
 (H6 v1).bind fun v3=>
 (K2 v3).bind fun v5=>
 some (Lib.compact v3)
def dx(self:(u5)→(Bs)→Option (Bool×Bool))(a0:u5)(a1:Bs)(k1:Nat)(s1:Bool×Bool):Option (Ctl (Bool×Bool) (Bool×Bool) (Bool×Bool)):=
 (self (get a0.subs k1) a1).bind fun v2=>
 some (.nxt ((bif s1.1 then true else v2.1),(bif s1.2 then true else v2.2)))
def dy(t1:Bool×Bool):Option (Bool×Bool):=
 some (t1.1,t1.2)
def V4(self:(u5)→(Bs)→Option (Bool×Bool))(a0:u5)(a1:Bs)(j0:Bool×Bool):Option (Bool×Bool):=
 C2 (D4 (dx self a0 a1) a0.subs.length (j0.1,j0.2)) (dy)
def O5:Nat→(u5)→(Bs)→Option (Bool×Bool)
 |0,_,_=>none
 |n+1,a0,a1=>
  bif (bif (decide (a0.kind=2))then(decide (a0.name=a1))else false)then
   V4 (O5 n) a0 a1 ((decide (0<(↑a0.words.length:Int))),(decide ((↑a0.words.length:Int)=0)))
  else
   V4 (O5 n) a0 a1 (false,false)
def R8(self:(u5)→Option ((List Bs)))(a0:u5)(k1:Nat)(s1:(List Bs)):Option (Ctl ((List Bs)) ((List Bs)) ((List Bs))):=
 (self (get a0.subs k1)).bind fun v14=>
 P6 (s1++v14) fun c15=>
 chk (c15.length*16≤top∧c15.length≤top) <|
 some (.nxt c15)
def R9(t1:(List Bs)):Option ((List Bs)):=
 some t1
def J1(self:(u5)→Option ((List Bs)))(a0:u5)(j0:(List Bs)):Option ((List Bs)):=
 C2 (D4 (R8 self a0) a0.subs.length j0) (R9)
def C4:Nat→(u5)→Option ((List Bs))
 |0,_=>none
 |n+1,a0=>
  (C7 a0).bind fun v1=>
  bif v1 then
   P6 ([]++[a0.name]) fun c3=>
   chk (c3.length*16≤top∧c3.length≤top) <|
   J1 (C4 n) a0 c3
  else
   J1 (C4 n) a0 []
def Y9(n:Nat)(v2:(List Bs))(a0:A8)(v4:(List Bs))(k0:Nat)(s0:Unit):Option (Ctl (B0) (Unit) (Unit)):=
 (termName (get v2 k0)).bind fun v17=>
 bif (!v17)then
  (I5 10 (↑k0:Int)).bind fun v18=>
  some (.ret v18)
 else
  chk (0≤(↑k0:Int)∧k0≤v2.length) <|
  (A9 (v2.take k0) (get v2 k0)).bind fun v21=>
  bif v21 then
   (I5 7 (↑k0:Int)).bind fun v22=>
   some (.ret v22)
  else
   (O5 n a0.form (get v2 k0)).bind fun v23=>
   bif (decide ((↑k0:Int)<(↑a0.words.length:Int)))then
    (A9 v4 (get v2 k0)).bind fun v24=>
    bif (!v24)then
     (I5 15 (↑k0:Int)).bind fun v25=>
     some (.ret v25)
    else
     some (.nxt ())
   else
    bif (decide ((↑k0:Int)<(wr .i64 ((↑a0.words.length:Int)+(↑a0.E9.length:Int)))))then
     bif (bif (!v23.1)then(!v23.2)else false)then
      (I5 15 (↑k0:Int)).bind fun v26=>
      some (.ret v26)
     else
      some (.nxt ())
    else
     bif v23.1 then
      (I5 5 (↑k0:Int)).bind fun v27=>
      some (.ret v27)
     else
      bif (!v23.2)then
       (I5 15 (↑k0:Int)).bind fun v28=>
       some (.ret v28)
      else
       some (.nxt ())
def Z1(v29:(List Bs))(a0:A8)(k1:Nat)(s1:Unit):Option (Ctl (B0) (Unit) (Unit)):=
 chk (0≤(↑k1:Int)∧k1≤v29.length) <|
 (A9 (v29.take k1) (get v29 k1)).bind fun v37=>
 (gd (!v37) (A9 a0.words (get v29 k1)) default).bind fun v38=>
 bif (bif v37 then true else v38)then
  (I5 7 (-1)).bind fun v39=>
  some (.ret v39)
 else
  some (.nxt ())
def Z2(t1:Unit):Option (B0):=
 some (B0.mk 0 0)
def Z0(n:Nat)(a0:A8)(t0:Unit):Option (B0):=
 (C4 n a0.form).bind fun v29=>
 C2 (D4 (Z1 v29 a0) v29.length ()) (Z2)
def Z8(n:Nat)(a0:A8):Option (B0):=
 (P2 n a0.form).bind fun v1=>
 bif (!decide (v1.code=0))then
  some v1
 else
  (P7 a0).bind fun v2=>
  bif (decide (300<(↑v2.length:Int)))then
   (I5 2 (-1)).bind fun v3=>
   some v3
  else
   (K3 n a0.form).bind fun v4=>
   C2 (D4 (Y9 n v2 a0 v4) v2.length ()) (Z0 n a0)
def F5(a0:A8)(a1:u5):Option (Bool):=
 (gd (bif (decide (a1.kind=2))then(decide ((↑a1.words.length:Int)=0))else false) (A9 a0.parts a1.name) default).bind fun v1=>
 some (bif (bif (decide (a1.kind=2))then(decide ((↑a1.words.length:Int)=0))else false)then v1 else false)
def S0(a0:(List Bs)):Option (List Bs):=
 some a0
def G1(a0 l0:(List Bs)):Option (List Bs):=
 bif l0.isEmpty then some a0 else none
def fu(self:(u5)→((List Bs))→(Int)→(Bs)→((List Bs))→((List u5))→((List Bs))→((List Bs))→((List Bs))→((List (Bs×(List Bs))))→Option (Unit))(a0:u5)(j1:(List Bs))(B7:Int)(I8:Bs)(I9:(List Bs))(E0:(List u5))(K8:(List Bs))(L5:(List Bs))(L7:(List Bs))(m2:(List (Bs×(List Bs))))(k2:Nat)(s2:Unit):Option (Ctl (Unit) (Unit) (Unit)):=
 (self (get a0.subs k2) j1 B7 I8 I9 E0 K8 L5 L7 m2).bind fun v11=>
 some (.nxt ())
def fz(t2:Unit):Option (Unit):=
 some ()
def Y2(self:(u5)→((List Bs))→(Int)→(Bs)→((List Bs))→((List u5))→((List Bs))→((List Bs))→((List Bs))→((List (Bs×(List Bs))))→Option (Unit))(a0:u5)(B7:Int)(I8:Bs)(I9:(List Bs))(E0:(List u5))(K8:(List Bs))(L5:(List Bs))(L7:(List Bs))(m2:(List (Bs×(List Bs))))(j1:(List Bs)):Option (Unit):=
 C2 (D4 (fu self a0 j1 B7 I8 I9 E0 K8 L5 L7 m2) a0.subs.length ()) (fz)
def Y1(self:(u5)→((List Bs))→(Int)→(Bs)→((List Bs))→((List u5))→((List Bs))→((List Bs))→((List Bs))→((List (Bs×(List Bs))))→Option (Unit))(a0:u5)(a1:(List Bs))(B7:Int)(I8:Bs)(I9:(List Bs))(E0:(List u5))(K8:(List Bs))(L5:(List Bs))(L7:(List Bs))(m2:(List (Bs×(List Bs))))(j0:Unit):Option (Unit):=
 (C7 a0).bind fun v3=>
 bif v3 then
  (G1 a1 []).bind fun v4=>
  P6 (v4++[a0.name]) fun c6=>
  chk (c6.length*16≤top∧c6.length≤top) <|
  Y2 self a0 B7 I8 I9 E0 K8 L5 L7 m2 c6
 else
  Y2 self a0 B7 I8 I9 E0 K8 L5 L7 m2 a1
def M7:Nat→(u5)→((List Bs))→(Int)→(Bs)→((List Bs))→((List u5))→((List Bs))→((List Bs))→((List Bs))→((List (Bs×(List Bs))))→Option (Unit)
 |0,_,_,_,_,_,_,_,_,_,_=>none
 |n+1,a0,a1,B7,I8,I9,E0,K8,L5,L7,m2=>
  (F5 (A8.mk (u5.mk B7 I8 I9 E0) K8 L5 L7) a0).bind fun v1=>
  bif v1 then
   none
  else
   Y1 (M7 n) a0 a1 B7 I8 I9 E0 K8 L5 L7 m2 ()
def gL(n:Nat)(a0:A8):Option ((List (Bs×(List Bs)))):=
 (M7 n a0.form [] a0.form.kind a0.form.name a0.form.words a0.form.subs a0.words a0.E9 a0.parts []).bind fun v1=>
 some []
def fU(C1:(u5)→((List Bs))→(Int)→(Bs)→((List Bs))→((List u5))→((List Bs))→((List Bs))→((List Bs))→(Int)→(Bs)→((List Bs))→((List u5))→((List (Bs×(List Bs))))→((List Bs))→Option (Bool))(a0:u5)(P5:Int)(mK:Bs)(mL:(List Bs))(tL:(List u5))(tM:(List Bs))(tN:(List Bs))(tO:(List Bs))(tP:Int)(tQ:Bs)(tR:(List Bs))(jd:(List u5))(m3:(List (Bs×(List Bs))))(U8:(List Bs))(av:(List Bs)):Option (Bool):=
 (C1 a0 av P5 mK mL tL tM tN tO tP tQ tR jd m3 U8).bind fun v1=>
 some v1
def N4(C1:(u5)→((List Bs))→(Int)→(Bs)→((List Bs))→((List u5))→((List Bs))→((List Bs))→((List Bs))→(Int)→(Bs)→((List Bs))→((List u5))→((List (Bs×(List Bs))))→((List Bs))→Option (Bool))(a0:(List u5))(P5:Int)(mK:Bs)(mL:(List Bs))(tL:(List u5))(tM:(List Bs))(tN:(List Bs))(tO:(List Bs))(tP:Int)(tQ:Bs)(tR:(List Bs))(jd:(List u5))(m3:(List (Bs×(List Bs))))(U8:(List Bs))(av:(List Bs))(k0:Nat)(s0:Unit):Option (Ctl (Int) (Unit) (Unit)):=
 (fU C1 (get a0 k0) P5 mK mL tL tM tN tO tP tQ tR jd m3 U8 av).bind fun v1=>
 bif v1 then
  some (.ret (↑k0:Int))
 else
  some (.nxt ())
def N5(t0:Unit):Option (Int):=
 some (-1)
def K5(C1:(u5)→((List Bs))→(Int)→(Bs)→((List Bs))→((List u5))→((List Bs))→((List Bs))→((List Bs))→(Int)→(Bs)→((List Bs))→((List u5))→((List (Bs×(List Bs))))→((List Bs))→Option (Bool))(a0:(List u5))(P5:Int)(mK:Bs)(mL:(List Bs))(tL:(List u5))(tM:(List Bs))(tN:(List Bs))(tO:(List Bs))(tP:Int)(tQ:Bs)(tR:(List Bs))(jd:(List u5))(m3:(List (Bs×(List Bs))))(U8:(List Bs))(av:(List Bs)):Option (Int):=
 C2 (D4 (N4 C1 a0 P5 mK mL tL tM tN tO tP tQ tR jd m3 U8 av) a0.length ()) (N5)
def H9(C1:(u5)→((List Bs))→(Int)→(Bs)→((List Bs))→((List u5))→((List Bs))→((List Bs))→((List Bs))→(Int)→(Bs)→((List Bs))→((List u5))→((List (Bs×(List Bs))))→((List Bs))→Option (Bool))(a0:(List u5))(P5:Int)(mK:Bs)(mL:(List Bs))(tL:(List u5))(tM:(List Bs))(tN:(List Bs))(tO:(List Bs))(tP:Int)(tQ:Bs)(tR:(List Bs))(jd:(List u5))(m3:(List (Bs×(List Bs))))(U8:(List Bs))(av:(List Bs)):Option (Bool):=
 (K5 C1 a0 P5 mK mL tL tM tN tO tP tQ tR jd m3 U8 av).bind fun v1=>
 some (decide (0≤v1))
def aQ(Y3:(List Bs))(a0:u5)(a1:(List Bs))(k2:Nat)(s2:Unit):Option (Ctl (Bool) (Unit) (Unit)):=
 (A9 Y3 (get a0.words k2)).bind fun v5=>
 (gd v5 (A9 a1 (get a0.words k2)) default).bind fun v6=>
 bif (bif v5 then(!v6)else false)then
  some (.ret true)
 else
  some (.nxt ())
def U0(self:(u5)→((List Bs))→(Int)→(Bs)→((List Bs))→((List u5))→((List Bs))→((List Bs))→((List Bs))→(Int)→(Bs)→((List Bs))→((List u5))→((List (Bs×(List Bs))))→((List Bs))→Option (Bool))(a0:u5)(B7:Int)(I8:Bs)(I9:(List Bs))(E0:(List u5))(K8:(List Bs))(L5:(List Bs))(L7:(List Bs))(cN:Int)(cO:Bs)(cP:(List Bs))(J7:(List u5))(m2:(List (Bs×(List Bs))))(Y3:(List Bs))(j3:(List Bs)):Option (Bool):=
 (H9 self a0.subs B7 I8 I9 E0 K8 L5 L7 cN cO cP J7 m2 Y3 j3).bind fun v15=>
 some v15
def aR(self:(u5)→((List Bs))→(Int)→(Bs)→((List Bs))→((List u5))→((List Bs))→((List Bs))→((List Bs))→(Int)→(Bs)→((List Bs))→((List u5))→((List (Bs×(List Bs))))→((List Bs))→Option (Bool))(a0:u5)(a1:(List Bs))(B7:Int)(I8:Bs)(I9:(List Bs))(E0:(List u5))(K8:(List Bs))(L5:(List Bs))(L7:(List Bs))(cN:Int)(cO:Bs)(cP:(List Bs))(J7:(List u5))(m2:(List (Bs×(List Bs))))(Y3:(List Bs))(t2:Unit):Option (Bool):=
 (C7 a0).bind fun v7=>
 bif v7 then
  (G1 a1 []).bind fun v8=>
  P6 (v8++[a0.name]) fun c10=>
  chk (c10.length*16≤top∧c10.length≤top) <|
  U0 self a0 B7 I8 I9 E0 K8 L5 L7 cN cO cP J7 m2 Y3 c10
 else
  U0 self a0 B7 I8 I9 E0 K8 L5 L7 cN cO cP J7 m2 Y3 a1
def T9(self:(u5)→((List Bs))→(Int)→(Bs)→((List Bs))→((List u5))→((List Bs))→((List Bs))→((List Bs))→(Int)→(Bs)→((List Bs))→((List u5))→((List (Bs×(List Bs))))→((List Bs))→Option (Bool))(Y3:(List Bs))(a0:u5)(a1:(List Bs))(B7:Int)(I8:Bs)(I9:(List Bs))(E0:(List u5))(K8:(List Bs))(L5:(List Bs))(L7:(List Bs))(cN:Int)(cO:Bs)(cP:(List Bs))(J7:(List u5))(m2:(List (Bs×(List Bs))))(j0:Unit):Option (Bool):=
 C2 (D4 (aQ Y3 a0 a1) a0.words.length ()) (aR self a0 a1 B7 I8 I9 E0 K8 L5 L7 cN cO cP J7 m2 Y3)
def dO(a1:(List Bs))(a0:u5)(m2:(List (Bs×(List Bs))))(k1:Nat)(s1:Unit):Option (Ctl (Bool) (Unit) (Unit)):=
 (A9 a1 (get ((assoc a0.name m2).getD default) k1)).bind fun v2=>
 bif (!v2)then
  some (.ret true)
 else
  some (.nxt ())
def dP(self:(u5)→((List Bs))→(Int)→(Bs)→((List Bs))→((List u5))→((List Bs))→((List Bs))→((List Bs))→(Int)→(Bs)→((List Bs))→((List u5))→((List (Bs×(List Bs))))→((List Bs))→Option (Bool))(Y3:(List Bs))(a0:u5)(a1:(List Bs))(B7:Int)(I8:Bs)(I9:(List Bs))(E0:(List u5))(K8:(List Bs))(L5:(List Bs))(L7:(List Bs))(cN:Int)(cO:Bs)(cP:(List Bs))(J7:(List u5))(m2:(List (Bs×(List Bs))))(t1:Unit):Option (Bool):=
 T9 self Y3 a0 a1 B7 I8 I9 E0 K8 L5 L7 cN cO cP J7 m2 ()
def G4:Nat→(u5)→((List Bs))→(Int)→(Bs)→((List Bs))→((List u5))→((List Bs))→((List Bs))→((List Bs))→(Int)→(Bs)→((List Bs))→((List u5))→((List (Bs×(List Bs))))→((List Bs))→Option (Bool)
 |0,_,_,_,_,_,_,_,_,_,_,_,_,_,_,_=>none
 |n+1,a0,a1,B7,I8,I9,E0,K8,L5,L7,cN,cO,cP,J7,m2,Y3=>
  (F5 (A8.mk (u5.mk B7 I8 I9 E0) K8 L5 L7) a0).bind fun v1=>
  bif v1 then
   C2 (D4 (dO a1 a0 m2) (((assoc a0.name m2).getD default).length) ()) (dP (G4 n) Y3 a0 a1 B7 I8 I9 E0 K8 L5 L7 cN cO cP J7 m2)
  else
   T9 (G4 n) Y3 a0 a1 B7 I8 I9 E0 K8 L5 L7 cN cO cP J7 m2 ()
def bZ(n:Nat)(a0:u7):Option (Bool):=
 (gL n a0.from_).bind fun v1=>
 (C4 n a0.from_.form).bind fun v2=>
 (G4 n a0.to_ [] a0.from_.form.kind a0.from_.form.name a0.from_.form.words a0.from_.form.subs a0.from_.words a0.from_.E9 a0.from_.parts a0.to_.kind a0.to_.name a0.to_.words a0.to_.subs v1 v2).bind fun v3=>
 some v3
def dQ(v27:(List Bs))(a0:(List u7))(k0:Nat)(k2:Nat)(s2:Unit):Option (Ctl (Ctl (B0) (Unit) (Unit)) (Unit) (Unit)):=
 chk (0≤(↑k2:Int)∧k2≤v27.length) <|
 (A9 (v27.take k2) (get v27 k2)).bind fun v35=>
 (gd (!v35) (A9 ((get a0 k0).from_.words) (get v27 k2)) default).bind fun v36=>
 bif (bif v35 then true else v36)then
  (F9 7 (↑k0:Int)).bind fun v37=>
  some (.ret (.ret v37))
 else
  some (.nxt ())
def aT(n:Nat)(a0:(List u7))(k0:Nat)(t2:Unit):Option (Ctl (B0) (Unit) (Unit)):=
 (bZ n (get a0 k0)).bind fun v38=>
 bif v38 then
  (F9 15 (↑k0:Int)).bind fun v39=>
  some (.ret v39)
 else
  some (.nxt ())
def aS(n:Nat)(a0:(List u7))(k0:Nat)(s0:Unit):Option (Ctl (B0) (Unit) (Unit)):=
 (Z8 n ((get a0 k0).from_)).bind fun v21=>
 bif (!decide (v21.code=0))then
  (F9 v21.code (↑k0:Int)).bind fun v22=>
  some (.ret v22)
 else
  (F5 ((get a0 k0).from_) ((get a0 k0).from_.form)).bind fun v23=>
  bif v23 then
   (F9 5 (↑k0:Int)).bind fun v24=>
   some (.ret v24)
  else
   (P2 n ((get a0 k0).to_)).bind fun v25=>
   bif (!decide (v25.code=0))then
    (F9 v25.code (↑k0:Int)).bind fun v26=>
    some (.ret v26)
   else
    (C4 n ((get a0 k0).to_)).bind fun v27=>
    C2 (D4 (dQ v27 a0 k0) v27.length ()) (aT n a0 k0)
def dR(t0:Unit):Option (B0):=
 some (B0.mk 0 0)
def bh(n:Nat)(a0:(List u7)):Option (B0):=
 bif (decide (40<(↑a0.length:Int)))then
  (F9 2 (-1)).bind fun v1=>
  some v1
 else
  C2 (D4 (aS n a0) a0.length ()) (dR)
def ft(n:Nat)(a0:(List u7))(a1:u5):Option (B0):=
 (bh n a0).bind fun v1=>
 bif (!decide (v1.code=0))then
  some v1
 else
  (P2 n a1).bind fun v2=>
  some v2
def T8(B7:(List u7))(E0:Int)(m1:(List (Bs×Int)))(l2:(List u6)):Option (Bs×Int):=
 (itoa (wr .i64 (E0+1))).bind fun v1=>
 chk (M4 [63] v1) <|
 some ((mG [63] v1),(wr .i64 (E0+1)))
def W3(a1:u5)(m3:(List (Bs×Bs)))(k0:Nat)(s0:(List Bs)):Option (Ctl (u5×Int) ((List Bs)) ((List Bs))):=
 bif (assoc (get a1.words k0) m3).isSome then
  P6 (s0++[((assoc (get a1.words k0) m3).getD default)]) fun c14=>
  chk (c14.length*16≤top∧c14.length≤top) <|
  some (.nxt c14)
 else
  P6 (s0++[(get a1.words k0)]) fun c20=>
  chk (c20.length*16≤top∧c20.length≤top) <|
  some (.nxt c20)
def W5(self:(u5)→((List u7))→(Int)→((List (Bs×Int)))→((List u6))→((List (Bs×Bs)))→Option (u5×Int))(a1:u5)(B7:(List u7))(m1:(List (Bs×Int)))(l2:(List u6))(c27:(List (Bs×Bs)))(k1:Nat)(s1:Int×(List u5)):Option (Ctl (u5×Int) (Int×(List u5)) (Int×(List u5))):=
 (self (get a1.subs k1) B7 s1.1 m1 l2 c27).bind fun v36=>
 P6 (s1.2++[v36.1]) fun c38=>
 chk (c38.length*72≤top∧c38.length≤top) <|
 some (.nxt (v36.2,c38))
def W6(a1:u5)(v26:Bs×Int)(t0:(List Bs))(t1:Int×(List u5)):Option (u5×Int):=
 some ((u5.mk a1.kind v26.1 t0 t1.2),t1.1)
def W7(self:(u5)→((List u7))→(Int)→((List (Bs×Int)))→((List u6))→((List (Bs×Bs)))→Option (u5×Int))(a1:u5)(B7:(List u7))(m1:(List (Bs×Int)))(l2:(List u6))(m3:(List (Bs×Bs)))(k2:Nat)(s2:Int×(List u5)):Option (Ctl (u5×Int) (Int×(List u5)) (Int×(List u5))):=
 (self (get a1.subs k2) B7 s2.1 m1 l2 m3).bind fun v50=>
 P6 (s2.2++[v50.1]) fun c52=>
 chk (c52.length*72≤top∧c52.length≤top) <|
 some (.nxt (v50.2,c52))
def W8(a1:u5)(t0:(List Bs))(t2:Int×(List u5)):Option (u5×Int):=
 some ((u5.mk a1.kind a1.name t0 t2.2),t2.1)
def W4(self:(u5)→((List u7))→(Int)→((List (Bs×Int)))→((List u6))→((List (Bs×Bs)))→Option (u5×Int))(a1:u5)(B7:(List u7))(E0:Int)(m1:(List (Bs×Int)))(l2:(List u6))(m3:(List (Bs×Bs)))(t0:(List Bs)):Option (u5×Int):=
 (C7 a1).bind fun v25=>
 bif v25 then
  (T8 B7 E0 m1 l2).bind fun v26=>
  P6 (C5 a1.name v26.1 m3) fun c27=>
  C2 (D4 (W5 self a1 B7 m1 l2 c27) a1.subs.length (v26.2,[])) (W6 a1 v26 t0)
 else
  C2 (D4 (W7 self a1 B7 m1 l2 m3) a1.subs.length (E0,[])) (W8 a1 t0)
def H8:Nat→(u5)→((List u7))→(Int)→((List (Bs×Int)))→((List u6))→((List (Bs×Bs)))→Option (u5×Int)
 |0,_,_,_,_,_,_=>none
 |n+1,a1,B7,E0,m1,l2,m3=>
  C2 (D4 (W3 a1 m3) a1.words.length []) (W4 (H8 n) a1 B7 E0 m1 l2 m3)
def aK(a1:u5)(k0:Nat)(s0:(List Bs)):Option (Ctl (u5×Int) ((List Bs)) ((List Bs))):=
 bif false then
  P6 (s0++[([]:Bs)]) fun c14=>
  chk (c14.length*16≤top∧c14.length≤top) <|
  some (.nxt c14)
 else
  P6 (s0++[(get a1.words k0)]) fun c20=>
  chk (c20.length*16≤top∧c20.length≤top) <|
  some (.nxt c20)
def aM(n:Nat)(a1:u5)(B7:(List u7))(m1:(List (Bs×Int)))(l2:(List u6))(c27:(List (Bs×Bs)))(k1:Nat)(s1:Int×(List u5)):Option (Ctl (u5×Int) (Int×(List u5)) (Int×(List u5))):=
 (H8 n (get a1.subs k1) B7 s1.1 m1 l2 c27).bind fun v37=>
 P6 (s1.2++[v37.1]) fun c39=>
 chk (c39.length*72≤top∧c39.length≤top) <|
 some (.nxt (v37.2,c39))
def aN(a1:u5)(v26:Bs×Int)(t0:(List Bs))(t1:Int×(List u5)):Option (u5×Int):=
 some ((u5.mk a1.kind v26.1 t0 t1.2),t1.1)
def aO(self:(u5)→((List u7))→(Int)→((List (Bs×Int)))→((List u6))→Option (u5×Int))(a1:u5)(B7:(List u7))(m1:(List (Bs×Int)))(l2:(List u6))(k2:Nat)(s2:Int×(List u5)):Option (Ctl (u5×Int) (Int×(List u5)) (Int×(List u5))):=
 (self (get a1.subs k2) B7 s2.1 m1 l2).bind fun v51=>
 P6 (s2.2++[v51.1]) fun c53=>
 chk (c53.length*72≤top∧c53.length≤top) <|
 some (.nxt (v51.2,c53))
def aP(a1:u5)(t0:(List Bs))(t2:Int×(List u5)):Option (u5×Int):=
 some ((u5.mk a1.kind a1.name t0 t2.2),t2.1)
def aL(self:(u5)→((List u7))→(Int)→((List (Bs×Int)))→((List u6))→Option (u5×Int))(n:Nat)(a1:u5)(B7:(List u7))(E0:Int)(m1:(List (Bs×Int)))(l2:(List u6))(t0:(List Bs)):Option (u5×Int):=
 (C7 a1).bind fun v25=>
 bif v25 then
  (T8 B7 E0 m1 l2).bind fun v26=>
  P6 (C5 a1.name v26.1 []) fun c27=>
  C2 (D4 (aM n a1 B7 m1 l2 c27) a1.subs.length (v26.2,[])) (aN a1 v26 t0)
 else
  C2 (D4 (aO self a1 B7 m1 l2) a1.subs.length (E0,[])) (aP a1 t0)
def N2:Nat→(u5)→((List u7))→(Int)→((List (Bs×Int)))→((List u6))→Option (u5×Int)
 |0,_,_,_,_,_=>none
 |n+1,a1,B7,E0,m1,l2=>
  C2 (D4 (aK a1) a1.words.length []) (aL (N2 n) n a1 B7 E0 m1 l2)
def Z4(self:(u5)→(Bs)→((List u7))→(Int)→((List (Bs×Int)))→((List u6))→Option ((List (Bs×Int))))(a2:Bs)(a1:u5)(B7:(List u7))(E0:Int)(l2:(List u6))(k0:Nat)(s0:(List (Bs×Int))):Option (Ctl ((List (Bs×Int))) ((List (Bs×Int))) ((List (Bs×Int)))):=
 (itoa (↑k0:Int)).bind fun v6=>
 chk (M4 a2 v6) <|
 (self (get a1.subs k0) (mG a2 v6) B7 E0 s0 l2).bind fun v8=>
 some (.nxt v8)
def Z5(t0:(List (Bs×Int))):Option ((List (Bs×Int))):=
 some t0
def O4:Nat→(u5)→(Bs)→((List u7))→(Int)→((List (Bs×Int)))→((List u6))→Option ((List (Bs×Int)))
 |0,_,_,_,_,_,_=>none
 |n+1,a1,a2,B7,E0,m1,l2=>
  P6 (C5 a2 (↑m1.length:Int) m1) fun c1=>
  C2 (D4 (Z4 (O4 n) a2 a1 B7 E0 l2) a1.subs.length c1) (Z5)
def aF(a1:(List Bs))(a0:u5)(K8:(List Bs))(k0:Nat)(s0:(List Bs)):Option (Ctl (u5) ((List Bs)) ((List Bs))):=
 (A9 a1 (get a0.words k0)).bind fun v23=>
 bif v23 then
  chk (M4 [63] (get a0.words k0)) <|
  P6 (s0++[(mG [63] (get a0.words k0))]) fun c26=>
  chk (c26.length*16≤top∧c26.length≤top) <|
  some (.nxt c26)
 else
  (A9 K8 (get a0.words k0)).bind fun v31=>
  bif v31 then
   chk (M4 [46] (get a0.words k0)) <|
   P6 (s0++[(mG [46] (get a0.words k0))]) fun c34=>
   chk (c34.length*16≤top∧c34.length≤top) <|
   some (.nxt c34)
  else
   P6 (s0++[(get a0.words k0)]) fun c40=>
   chk (c40.length*16≤top∧c40.length≤top) <|
   some (.nxt c40)
def aG(self:(u5)→((List Bs))→(Int)→(Bs)→((List Bs))→((List u5))→((List Bs))→((List Bs))→((List Bs))→Option (u5))(a0:u5)(j1:Bs×(List Bs))(B7:Int)(I8:Bs)(I9:(List Bs))(E0:(List u5))(K8:(List Bs))(L5:(List Bs))(L7:(List Bs))(k2:Nat)(s2:(List u5)):Option (Ctl (u5) ((List u5)) ((List u5))):=
 (self (get a0.subs k2) j1.2 B7 I8 I9 E0 K8 L5 L7).bind fun v65=>
 P6 (s2++[v65]) fun c67=>
 chk (c67.length*72≤top∧c67.length≤top) <|
 some (.nxt c67)
def aH(a0:u5)(j1:Bs×(List Bs))(t0:(List Bs))(t2:(List u5)):Option (u5):=
 some (u5.mk a0.kind j1.1 t0 t2)
def I0(self:(u5)→((List Bs))→(Int)→(Bs)→((List Bs))→((List u5))→((List Bs))→((List Bs))→((List Bs))→Option (u5))(a0:u5)(B7:Int)(I8:Bs)(I9:(List Bs))(E0:(List u5))(K8:(List Bs))(L5:(List Bs))(L7:(List Bs))(t0:(List Bs))(j1:Bs×(List Bs)):Option (u5):=
 C2 (D4 (aG self a0 j1 B7 I8 I9 E0 K8 L5 L7) a0.subs.length []) (aH a0 j1 t0)
def aI(self:(u5)→((List Bs))→(Int)→(Bs)→((List Bs))→((List u5))→((List Bs))→((List Bs))→((List Bs))→Option (u5))(a0:u5)(a1:(List Bs))(B7:Int)(I8:Bs)(I9:(List Bs))(E0:(List u5))(K8:(List Bs))(L5:(List Bs))(L7:(List Bs))(t0:(List Bs)):Option (u5):=
 (C7 a0).bind fun v45=>
 bif v45 then
  (G1 a1 []).bind fun v46=>
  P6 (v46++[a0.name]) fun c48=>
  chk (c48.length*16≤top∧c48.length≤top) <|
  chk (M4 [63] a0.name) <|
  I0 self a0 B7 I8 I9 E0 K8 L5 L7 t0 ((mG [63] a0.name),c48)
 else
  (F5 (A8.mk (u5.mk B7 I8 I9 E0) K8 L5 L7) a0).bind fun v54=>
  bif v54 then
   chk (M4 [43] a0.name) <|
   I0 self a0 B7 I8 I9 E0 K8 L5 L7 t0 ((mG [43] a0.name),a1)
  else
   (gd (decide (a0.kind=2)) (A9 L5 a0.name) default).bind fun v56=>
   bif (bif (decide (a0.kind=2))then v56 else false)then
    chk (M4 [33] a0.name) <|
    I0 self a0 B7 I8 I9 E0 K8 L5 L7 t0 ((mG [33] a0.name),a1)
   else
    I0 self a0 B7 I8 I9 E0 K8 L5 L7 t0 (a0.name,a1)
def I6:Nat→(u5)→((List Bs))→(Int)→(Bs)→((List Bs))→((List u5))→((List Bs))→((List Bs))→((List Bs))→Option (u5)
 |0,_,_,_,_,_,_,_,_,_=>none
 |n+1,a0,a1,B7,I8,I9,E0,K8,L5,L7=>
  C2 (D4 (aF a1 a0 K8) a0.words.length []) (aI (I6 n) a0 a1 B7 I8 I9 E0 K8 L5 L7)
def aJ(a0:Bs)(a1:(List Bs))(k0:Nat)(s0:(List Bs)):Option (Ctl ((List Bs)) ((List Bs)) ((List Bs))):=
 chk (M4 a0 (get a1 k0)) <|
 P6 (s0++[(mG a0 (get a1 k0))]) fun c10=>
 chk (c10.length*16≤top∧c10.length≤top) <|
 some (.nxt c10)
def dS(t0:(List Bs)):Option ((List Bs)):=
 some t0
def Q6(a0:Bs)(a1:(List Bs)):Option ((List Bs)):=
 C2 (D4 (aJ a0 a1) a1.length []) (dS)
def bU(n:Nat)(a0:A8):Option (A8):=
 (I6 n a0.form [] a0.form.kind a0.form.name a0.form.words a0.form.subs a0.words a0.E9 a0.parts).bind fun v1=>
 (Q6 [46] a0.words).bind fun v2=>
 (Q6 [33] a0.E9).bind fun v3=>
 (Q6 [43] a0.parts).bind fun v4=>
 some (A8.mk v1 v2 v3 v4)
def N8(a1:(List Bs))(a0:(List Bs))(k0:Nat)(s0:Unit):Option (Ctl (Bool) (Unit) (Unit)):=
 chk ((↑k0:Int)<(↑a1.length:Int)) <|
 bif (!decide ((get a0 k0)=(get a1 k0)))then
  some (.ret false)
 else
  some (.nxt ())
def N9(t0:Unit):Option (Bool):=
 some true
def J2(a0:(List Bs))(a1:(List Bs)):Option (Bool):=
 bif (!decide ((↑a0.length:Int)=(↑a1.length:Int)))then
  some false
 else
  C2 (D4 (N8 a1 a0) a0.length ()) (N9)
def gD(self:(u5)→(u5)→Option (Bool))(a1:u5)(a0:u5)(k0:Nat)(s0:Unit):Option (Ctl (Bool) (Unit) (Unit)):=
 chk ((↑k0:Int)<(↑a1.subs.length:Int)) <|
 (self (get a0.subs k0) (get a1.subs k0)).bind fun v4=>
 bif (!v4)then
  some (.ret false)
 else
  some (.nxt ())
def gF(t0:Unit):Option (Bool):=
 some true
def dN:Nat→(u5)→(u5)→Option (Bool)
 |0,_,_=>none
 |n+1,a0,a1=>
  (gd (!(bif (!decide (a0.kind=a1.kind))then true else(!decide (a0.name=a1.name)))) (J2 a0.words a1.words) default).bind fun v1=>
  bif (bif (bif (bif (!decide (a0.kind=a1.kind))then true else(!decide (a0.name=a1.name)))then true else(!v1))then true else(!decide ((↑a0.subs.length:Int)=(↑a1.subs.length:Int))))then
   some false
  else
   chk (a0.subs.length≤9223372036854775807) <|
   C2 (D4 (gD (dN n) a1 a0) a0.subs.length ()) (gF)
def T7(a1:Bs)(a2:Bs)(m0:(List (Bs×w6))):Option (Bool×(List (Bs×w6))):=
 bif (assoc a1 m0).isSome then
  some ((decide ((((assoc a1 m0).getD default).text)=a2)),m0)
 else
  P6 (C5 a1 (w6.mk a1 a2 (u5.mk 0 [] [] [])) m0) fun c1=>
  some (true,c1)
def Z9(a1:u5)(a0:A8)(a2:u5)(k2:Nat)(s2:(List (Bs×w6))):Option (Ctl (Bool×(List (Bs×w6))) ((List (Bs×w6))) ((List (Bs×w6)))):=
 (gd (!(assoc (get a1.words k2) s2).isSome) (A9 a0.words (get a1.words k2)) default).bind fun v12=>
 bif (bif (assoc (get a1.words k2) s2).isSome then true else v12)then
  chk ((↑k2:Int)<(↑a2.words.length:Int)) <|
  (T7 (get a1.words k2) (get a2.words k2) s2).bind fun v14=>
  bif (!v14.1)then
   some (.ret (false,v14.2))
  else
   some (.nxt v14.2)
 else
  chk ((↑k2:Int)<(↑a2.words.length:Int)) <|
  bif (!decide ((get a1.words k2)=(get a2.words k2)))then
   some (.ret (false,s2))
  else
   some (.nxt s2)
def aj(self:(A8)→(u5)→(u5)→((List (Bs×w6)))→Option (Bool×(List (Bs×w6))))(a2:u5)(a0:A8)(a1:u5)(k3:Nat)(s3:(List (Bs×w6))):Option (Ctl (Bool×(List (Bs×w6))) ((List (Bs×w6))) ((List (Bs×w6)))):=
 chk ((↑k3:Int)<(↑a2.subs.length:Int)) <|
 (self a0 (get a1.subs k3) (get a2.subs k3) s3).bind fun v19=>
 bif (!v19.1)then
  some (.ret (false,v19.2))
 else
  some (.nxt v19.2)
def ak(t3:(List (Bs×w6))):Option (Bool×(List (Bs×w6))):=
 some (true,t3)
def ah(self:(A8)→(u5)→(u5)→((List (Bs×w6)))→Option (Bool×(List (Bs×w6))))(a2:u5)(a0:A8)(a1:u5)(t2:(List (Bs×w6))):Option (Bool×(List (Bs×w6))):=
 C2 (D4 (aj self a2 a0 a1) a1.subs.length t2) (ak)
def K9(self:(A8)→(u5)→(u5)→((List (Bs×w6)))→Option (Bool×(List (Bs×w6))))(a1:u5)(a0:A8)(a2:u5)(j1:(List (Bs×w6))):Option (Bool×(List (Bs×w6))):=
 C2 (D4 (Z9 a1 a0 a2) a1.words.length j1) (ah self a2 a0 a1)
def G7(self:(A8)→(u5)→(u5)→((List (Bs×w6)))→Option (Bool×(List (Bs×w6))))(a1:u5)(a2:u5)(m0:(List (Bs×w6)))(a0:A8)(j0:Bool):Option (Bool×(List (Bs×w6))):=
 bif j0 then
  (T7 a1.name a2.name m0).bind fun v7=>
  bif (!v7.1)then
   some (false,v7.2)
  else
   K9 self a1 a0 a2 v7.2
 else
  bif (!decide (a1.name=a2.name))then
   some (false,m0)
  else
   K9 self a1 a0 a2 m0
def E8:Nat→(A8)→(u5)→(u5)→((List (Bs×w6)))→Option (Bool×(List (Bs×w6)))
 |0,_,_,_,_=>none
 |n+1,a0,a1,a2,m0=>
  (F5 a0 a1).bind fun v1=>
  bif v1 then
   bif (assoc a1.name m0).isSome then
    (dN n (((assoc a1.name m0).getD default).form) a2).bind fun v2=>
    some (v2,m0)
   else
    P6 (C5 a1.name (w6.mk a1.name [] a2) m0) fun c3=>
    some (true,c3)
  else
   bif (bif (!decide (a1.kind=a2.kind))then true else(!decide ((↑a1.words.length:Int)=(↑a2.words.length:Int))))then
    some (false,m0)
   else
    (C7 a1).bind fun v5=>
    bif v5 then
     G7 (E8 n) a1 a2 m0 a0 v5
    else
     (gd (decide (a1.kind=2)) (A9 a0.E9 a1.name) default).bind fun v6=>
     G7 (E8 n) a1 a2 m0 a0 (bif (decide (a1.kind=2))then v6 else false)
def L2(a1:Bs)(l0:(List Bs))(k0:Nat)(s0:Unit):Option (Ctl (Int) (Unit) (Unit)):=
 bif (decide (a1=(get l0 k0)))then
  some (.ret (↑k0:Int))
 else
  some (.nxt ())
def L3(t0:Unit):Option (Int):=
 some (-1)
def O6(a1:Bs)(l0:(List Bs)):Option (Int):=
 chk (l0.length≤9223372036854775807) <|
 C2 (D4 (L2 a1 l0) l0.length ()) (L3)
def E5(a1:Bs)(l0:(List Bs)):Option (Bool):=
 (O6 a1 l0).bind fun v1=>
 some (decide (0≤v1))
def eU(self:(u5)→Option (u5))(a0:u5)(k0:Nat)(s0:(List u5)):Option (Ctl (u5) ((List u5)) ((List u5))):=
 (self (get a0.subs k0)).bind fun v9=>
 P6 (s0++[v9]) fun c11=>
 chk (c11.length*72≤top∧c11.length≤top) <|
 some (.nxt c11)
def eV(a0:u5)(v1:(List Bs))(t0:(List u5)):Option (u5):=
 some (u5.mk a0.kind a0.name v1 t0)
def bV:Nat→(u5)→Option (u5)
 |0,_=>none
 |n+1,a0=>
  (S0 a0.words).bind fun v1=>
  C2 (D4 (eU (bV n) a0) a0.subs.length []) (eV a0 v1)
def dz(v3:(List Bs))(v2:Bool×(List (Bs×w6)))(k0:Nat)(s0:(List Bs)):Option (Ctl ((List w6)×Bool) ((List Bs)) ((List Bs))):=
 P6 (s0++[((assoc (get v3 k0) v2.2).getD default).text]) fun c11=>
 chk (c11.length*16≤top∧c11.length≤top) <|
 some (.nxt c11)
def dF(n:Nat)(v1:A8)(v19:(List Bs))(v2:Bool×(List (Bs×w6)))(t0:(List Bs))(k1:Nat)(s1:(List w6)):Option (Ctl ((List w6)×Bool) ((List w6)) ((List w6))):=
 (A9 v1.words (get v19 k1)).bind fun v38=>
 (gd v38 (E5 (((assoc (get v19 k1) v2.2).getD default).text) t0) (default:Bool)).bind fun v39=>
 bif (bif v38 then v39 else false)then
  some (.ret ([],false))
 else
  chk (0≤1∧1≤(get v19 k1).length) <|
  (A9 v1.parts (get v19 k1)).bind fun v42=>
  bif v42 then
   (bV n (((assoc (get v19 k1) v2.2).getD default).form)).bind fun v43=>
   P6 (s1++[(w6.mk ((get v19 k1).drop 1) (((assoc (get v19 k1) v2.2).getD default).text) v43)]) fun c45=>
   chk (c45.length*104≤top∧c45.length≤top) <|
   some (.nxt c45)
  else
   P6 (s1++[(w6.mk ((get v19 k1).drop 1) (((assoc (get v19 k1) v2.2).getD default).text) (((assoc (get v19 k1) v2.2).getD default).form))]) fun c51=>
   chk (c51.length*104≤top∧c51.length≤top) <|
   some (.nxt c51)
def dG(t1:(List w6)):Option ((List w6)×Bool):=
 some (t1,true)
def dD(n:Nat)(v1:A8)(v2:Bool×(List (Bs×w6)))(t0:(List Bs)):Option ((List w6)×Bool):=
 (P7 v1).bind fun v16=>
 (C4 n v1.form).bind fun v17=>
 (pK [v16,v17]).bind fun v19=>
 C2 (D4 (dF n v1 v19 v2 t0) v19.length []) (dG)
def eZ(n:Nat)(a0:A8)(a1:u5):Option ((List w6)×Bool):=
 (bU n a0).bind fun v1=>
 (E8 n v1 v1.form a1 []).bind fun v2=>
 bif (!v2.1)then
  some ([],false)
 else
  (C4 n v1.form).bind fun v3=>
  C2 (D4 (dz v3 v2) v3.length []) (dD n v1 v2)
def bJ(a0:(List w6))(a1:Bs)(k0:Nat)(s0:Unit):Option (Ctl (Bs) (Unit) (Unit)):=
 bif (decide (((get a0 k0).name)=a1))then
  some (.ret ((get a0 k0).text))
 else
  some (.nxt ())
def fA(a1:Bs)(t0:Unit):Option (Bs):=
 some a1
def U1(a0:(List w6))(a1:Bs):Option (Bs):=
 C2 (D4 (bJ a0 a1) a0.length ()) (fA a1)
def fV(self:(u5)→(Bs)→((List (Bs×Bs)))→(Int)→(Bs)→((List Bs))→((List u5))→((List Bs))→((List Bs))→((List Bs))→Option ((List (Bs×Bs))))(a1:Bs)(a0:u5)(nS:Int)(nT:Bs)(nU:(List Bs))(wK:(List u5))(wL:(List Bs))(wM:(List Bs))(wN:(List Bs))(k1:Nat)(s1:(List (Bs×Bs))):Option (Ctl ((List (Bs×Bs))) ((List (Bs×Bs))) ((List (Bs×Bs)))):=
 (itoa (↑k1:Int)).bind fun v7=>
 chk (M4 a1 v7) <|
 (self (get a0.subs k1) (mG a1 v7) s1 nS nT nU wK wL wM wN).bind fun v9=>
 some (.nxt v9)
def fW(t1:(List (Bs×Bs))):Option ((List (Bs×Bs))):=
 some t1
def cI(self:(u5)→(Bs)→((List (Bs×Bs)))→(Int)→(Bs)→((List Bs))→((List u5))→((List Bs))→((List Bs))→((List Bs))→Option ((List (Bs×Bs))))(a1:Bs)(a0:u5)(nS:Int)(nT:Bs)(nU:(List Bs))(wK:(List u5))(wL:(List Bs))(wM:(List Bs))(wN:(List Bs))(j0:(List (Bs×Bs))):Option ((List (Bs×Bs))):=
 C2 (D4 (fV self a1 a0 nS nT nU wK wL wM wN) a0.subs.length j0) (fW)
def S5:Nat→(u5)→(Bs)→((List (Bs×Bs)))→(Int)→(Bs)→((List Bs))→((List u5))→((List Bs))→((List Bs))→((List Bs))→Option ((List (Bs×Bs)))
 |0,_,_,_,_,_,_,_,_,_,_=>none
 |n+1,a0,a1,m1,nS,nT,nU,wK,wL,wM,wN=>
  (gd (!(assoc a0.name m1).isSome) (F5 (A8.mk (u5.mk nS nT nU wK) wL wM wN) a0) default).bind fun v1=>
  bif (bif (!(assoc a0.name m1).isSome)then v1 else false)then
   P6 (C5 a0.name a1 m1) fun c2=>
   cI (S5 n) a1 a0 nS nT nU wK wL wM wN c2
  else
   cI (S5 n) a1 a0 nS nT nU wK wL wM wN m1
def iE(n:Nat)(a0:A8):Option ((List (Bs×Bs))):=
 (S5 n a0.form [] [] a0.form.kind a0.form.name a0.form.words a0.form.subs a0.words a0.E9 a0.parts).bind fun v1=>
 some v1
def eX(a0:(List w5))(k0:Nat)(s0:Int×Int):Option (Ctl (Int×Int×Bool) (Int×Int) (Int×Int)):=
 some (.nxt ((wr .i64 (s0.1+((get a0 k0).nodes))),(max s0.2 ((get a0 k0).depth))))
def eY(t0:Int×Int):Option (Int×Int×Bool):=
 some (t0.1,(wr .i64 (t0.2+1)),(bif (decide (t0.1≤200))then(decide (t0.2<40))else false))
def eC(a0:(List w5)):Option (Int×Int×Bool):=
 C2 (D4 (eX a0) a0.length (1,0)) (eY)
def fB(B8:(u5)→(Bs)→((List u7))→(Int)→((List (Bs×Int)))→((List u6))→Option (w5×Bool×Int×(List u6)))(Y3:(List w6))(U8:Int)(av:Int)(jZ:Int)(a0:u5)(cJ:Bs)(m13:(List (Bs×Bs)))(mM:(List u7))(m9:(List (Bs×Int)))(k0:Nat)(s0:Int×Int×Bs×(List Bs)×(List u5)×Int×Int×(List u6)×Bool):Option (Ctl (w5×Bool×Int×(List u6)×(List (Bs×w5))) (Int×Int×Bs×(List Bs)×(List u5)×Int×Int×(List u6)×Bool) (Int×Int×Bs×(List Bs)×(List u5)×Int×Int×(List u6)×Bool)):=
 bif (decide (((get ((Y3.drop ((wr .i64 (U8+av)).toNat)).take ((wr .i64 ((wr .i64 (U8+av))+jZ)).toNat-(wr .i64 (U8+av)).toNat)) k0).name)=a0.name))then
  chk (M4 cJ ((assoc a0.name m13).getD default)) <|
  (B8 ((get ((Y3.drop ((wr .i64 (U8+av)).toNat)).take ((wr .i64 ((wr .i64 (U8+av))+jZ)).toNat-(wr .i64 (U8+av)).toNat)) k0).form) (mG cJ ((assoc a0.name m13).getD default)) mM s0.1 m9 s0.2.2.2.2.2.2.2.1).bind fun v9=>
  some (.nxt (v9.2.2.1,v9.1.form.kind,v9.1.form.name,v9.1.form.words,v9.1.form.subs,v9.1.nodes,v9.1.depth,v9.2.2.2,v9.2.1))
 else
  some (.nxt (s0.1,s0.2.1,s0.2.2.1,s0.2.2.2.1,s0.2.2.2.2.1,s0.2.2.2.2.2.1,s0.2.2.2.2.2.2.1,s0.2.2.2.2.2.2.2.1,s0.2.2.2.2.2.2.2.2))
def fC(a0:u5)(m2:(List (Bs×w5)))(t0:Int×Int×Bs×(List Bs)×(List u5)×Int×Int×(List u6)×Bool):Option (w5×Bool×Int×(List u6)×(List (Bs×w5))):=
 P6 (C5 a0.name (w5.mk (u5.mk t0.2.1 t0.2.2.1 t0.2.2.2.1 t0.2.2.2.2.1) t0.2.2.2.2.2.1 t0.2.2.2.2.2.2.1) m2) fun c10=>
 some ((w5.mk (u5.mk t0.2.1 t0.2.2.1 t0.2.2.2.1 t0.2.2.2.2.1) t0.2.2.2.2.2.1 t0.2.2.2.2.2.2.1),t0.2.2.2.2.2.2.2.2,t0.1,t0.2.2.2.2.2.2.2.1,c10)
def bK(a1:(List Bs))(a0:u5)(m15:(List (Bs×Bs)))(U8:Int)(Y3:(List w6))(k1:Nat)(s1:(List Bs)):Option (Ctl (w5×Bool×Int×(List u6)×(List (Bs×w5))) ((List Bs)) ((List Bs))):=
 (A9 a1 (get a0.words k1)).bind fun v28=>
 bif v28 then
  P6 (s1++[((assoc (get a0.words k1) m15).getD default)]) fun c30=>
  chk (c30.length*16≤top∧c30.length≤top) <|
  some (.nxt c30)
 else
  chk (0≤U8∧U8.toNat≤Y3.length) <|
  (U1 (Y3.take U8.toNat) (get a0.words k1)).bind fun v37=>
  P6 (s1++[v37]) fun c39=>
  chk (c39.length*16≤top∧c39.length≤top) <|
  some (.nxt c39)
def fD(self:(u5)→((List Bs))→(Int)→(Bs)→((List Bs))→((List u5))→((List Bs))→((List Bs))→((List Bs))→(Int)→(Bs)→((List Bs))→((List u5))→((List (Bs×w5)))→((List w6))→(Int)→(Int)→(Int)→((List u7))→(Int)→((List (Bs×Int)))→((List u6))→(Bs)→((List (Bs×Bs)))→((List (Bs×Bs)))→Option (w5×Bool×Int×(List u6)×(List (Bs×w5))))(a0:u5)(j2:Bs×(List Bs))(B7:Int)(I8:Bs)(I9:(List Bs))(E0:(List u5))(K8:(List Bs))(L5:(List Bs))(L7:(List Bs))(cN:Int)(cO:Bs)(cP:(List Bs))(J7:(List u5))(Y3:(List w6))(U8:Int)(av:Int)(jZ:Int)(mM:(List u7))(m9:(List (Bs×Int)))(cJ:Bs)(m13:(List (Bs×Bs)))(m15:(List (Bs×Bs)))(k3:Nat)(s3:Int×(List u6)×(List (Bs×w5))×(List w5)×(List u5)):Option (Ctl (w5×Bool×Int×(List u6)×(List (Bs×w5))) (Int×(List u6)×(List (Bs×w5))×(List w5)×(List u5)) (Int×(List u6)×(List (Bs×w5))×(List w5)×(List u5))):=
 (self (get a0.subs k3) j2.2 B7 I8 I9 E0 K8 L5 L7 cN cO cP J7 s3.2.2.1 Y3 U8 av jZ mM s3.1 m9 s3.2.1 cJ m13 m15).bind fun v70=>
 bif (!v70.2.1)then
  some (.ret ((w5.mk (u5.mk 0 [] [] []) 0 0),false,v70.2.2.1,v70.2.2.2.1,v70.2.2.2.2))
 else
  P6 (s3.2.2.2.1++[v70.1]) fun c72=>
  chk (c72.length*88≤top∧c72.length≤top) <|
  P6 (s3.2.2.2.2++[v70.1.form]) fun c78=>
  chk (c78.length*72≤top∧c78.length≤top) <|
  some (.nxt (v70.2.2.1,v70.2.2.2.1,v70.2.2.2.2,c72,c78))
def fF(a0:u5)(j2:Bs×(List Bs))(t1:(List Bs))(t3:Int×(List u6)×(List (Bs×w5))×(List w5)×(List u5)):Option (w5×Bool×Int×(List u6)×(List (Bs×w5))):=
 (eC t3.2.2.2.1).bind fun v83=>
 some ((w5.mk (u5.mk a0.kind j2.1 t1 t3.2.2.2.2) v83.1 v83.2.1),v83.2.2,t3.1,t3.2.1,t3.2.2.1)
def P8(self:(u5)→((List Bs))→(Int)→(Bs)→((List Bs))→((List u5))→((List Bs))→((List Bs))→((List Bs))→(Int)→(Bs)→((List Bs))→((List u5))→((List (Bs×w5)))→((List w6))→(Int)→(Int)→(Int)→((List u7))→(Int)→((List (Bs×Int)))→((List u6))→(Bs)→((List (Bs×Bs)))→((List (Bs×Bs)))→Option (w5×Bool×Int×(List u6)×(List (Bs×w5))))(a0:u5)(B7:Int)(I8:Bs)(I9:(List Bs))(E0:(List u5))(K8:(List Bs))(L5:(List Bs))(L7:(List Bs))(cN:Int)(cO:Bs)(cP:(List Bs))(J7:(List u5))(Y3:(List w6))(U8:Int)(av:Int)(jZ:Int)(mM:(List u7))(m9:(List (Bs×Int)))(cJ:Bs)(m13:(List (Bs×Bs)))(m15:(List (Bs×Bs)))(qw:Int)(l10:(List u6))(m2:(List (Bs×w5)))(t1:(List Bs))(j2:Bs×(List Bs)):Option (w5×Bool×Int×(List u6)×(List (Bs×w5))):=
 C2 (D4 (fD self a0 j2 B7 I8 I9 E0 K8 L5 L7 cN cO cP J7 Y3 U8 av jZ mM m9 cJ m13 m15) a0.subs.length (qw,l10,m2,[],[])) (fF a0 j2 t1)
def bL(self:(u5)→((List Bs))→(Int)→(Bs)→((List Bs))→((List u5))→((List Bs))→((List Bs))→((List Bs))→(Int)→(Bs)→((List Bs))→((List u5))→((List (Bs×w5)))→((List w6))→(Int)→(Int)→(Int)→((List u7))→(Int)→((List (Bs×Int)))→((List u6))→(Bs)→((List (Bs×Bs)))→((List (Bs×Bs)))→Option (w5×Bool×Int×(List u6)×(List (Bs×w5))))(a0:u5)(a1:(List Bs))(B7:Int)(I8:Bs)(I9:(List Bs))(E0:(List u5))(K8:(List Bs))(L5:(List Bs))(L7:(List Bs))(cN:Int)(cO:Bs)(cP:(List Bs))(J7:(List u5))(Y3:(List w6))(U8:Int)(av:Int)(jZ:Int)(mM:(List u7))(m9:(List (Bs×Int)))(cJ:Bs)(m13:(List (Bs×Bs)))(m15:(List (Bs×Bs)))(qw:Int)(l10:(List u6))(m2:(List (Bs×w5)))(t1:(List Bs)):Option (w5×Bool×Int×(List u6)×(List (Bs×w5))):=
 (C7 a0).bind fun v44=>
 bif v44 then
  (G1 a1 []).bind fun v45=>
  P6 (v45++[a0.name]) fun c47=>
  chk (c47.length*16≤top∧c47.length≤top) <|
  P8 self a0 B7 I8 I9 E0 K8 L5 L7 cN cO cP J7 Y3 U8 av jZ mM m9 cJ m13 m15 qw l10 m2 t1 (((assoc a0.name m15).getD default),c47)
 else
  bif (decide (a0.kind=2))then
   chk (0≤U8∧0≤(wr .i64 (U8+av))∧U8.toNat≤(wr .i64 (U8+av)).toNat∧(wr .i64 (U8+av)).toNat≤Y3.length) <|
   (U1 ((Y3.drop U8.toNat).take ((wr .i64 (U8+av)).toNat-U8.toNat)) a0.name).bind fun v56=>
   P8 self a0 B7 I8 I9 E0 K8 L5 L7 cN cO cP J7 Y3 U8 av jZ mM m9 cJ m13 m15 qw l10 m2 t1 (v56,a1)
  else
   P8 self a0 B7 I8 I9 E0 K8 L5 L7 cN cO cP J7 Y3 U8 av jZ mM m9 cJ m13 m15 qw l10 m2 t1 (a0.name,a1)
def P3(B8:(u5)→(Bs)→((List u7))→(Int)→((List (Bs×Int)))→((List u6))→Option (w5×Bool×Int×(List u6))):Nat→(u5)→((List Bs))→(Int)→(Bs)→((List Bs))→((List u5))→((List Bs))→((List Bs))→((List Bs))→(Int)→(Bs)→((List Bs))→((List u5))→((List (Bs×w5)))→((List w6))→(Int)→(Int)→(Int)→((List u7))→(Int)→((List (Bs×Int)))→((List u6))→(Bs)→((List (Bs×Bs)))→((List (Bs×Bs)))→Option (w5×Bool×Int×(List u6)×(List (Bs×w5)))
 |0,_,_,_,_,_,_,_,_,_,_,_,_,_,_,_,_,_,_,_,_,_,_,_,_,_=>none
 |n+1,a0,a1,B7,I8,I9,E0,K8,L5,L7,cN,cO,cP,J7,m2,Y3,U8,av,jZ,mM,qw,m9,l10,cJ,m13,m15=>
  (F5 (A8.mk (u5.mk B7 I8 I9 E0) K8 L5 L7) a0).bind fun v1=>
  bif v1 then
   bif (assoc a0.name m2).isSome then
    some (((assoc a0.name m2).getD default),true,qw,l10,m2)
   else
    chk (0≤(wr .i64 (U8+av))∧0≤(wr .i64 ((wr .i64 (U8+av))+jZ))∧(wr .i64 (U8+av)).toNat≤(wr .i64 ((wr .i64 (U8+av))+jZ)).toNat∧(wr .i64 ((wr .i64 (U8+av))+jZ)).toNat≤Y3.length) <|
    C2 (D4 (fB B8 Y3 U8 av jZ a0 cJ m13 mM m9) (((Y3.drop ((wr .i64 (U8+av)).toNat)).take ((wr .i64 ((wr .i64 (U8+av))+jZ)).toNat-(wr .i64 (U8+av)).toNat)).length) (qw,((assoc a0.name m2).getD default).form.kind,((assoc a0.name m2).getD default).form.name,((assoc a0.name m2).getD default).form.words,((assoc a0.name m2).getD default).form.subs,((assoc a0.name m2).getD default).nodes,((assoc a0.name m2).getD default).depth,l10,(assoc a0.name m2).isSome)) (fC a0 m2)
  else
   C2 (D4 (bK a1 a0 m15 U8 Y3) a0.words.length []) (bL (P3 B8 n) a0 a1 B7 I8 I9 E0 K8 L5 L7 cN cO cP J7 Y3 U8 av jZ mM m9 cJ m13 m15 qw l10 m2)
def fX(a1:u7)(a2:(List w6))(v1:(List Bs))(B7:(List u7))(m1:(List (Bs×Int)))(l2:(List u6))(k0:Nat)(s0:Int×(List (Bs×Bs))):Option (Ctl (w5×Bool×Int×(List u6)) (Int×(List (Bs×Bs))) (Int×(List (Bs×Bs)))):=
 chk (0≤(wr .i64 ((wr .i64 ((↑a1.from_.words.length:Int)+(↑a1.from_.E9.length:Int)))+(↑a1.from_.parts.length:Int)))∧(wr .i64 ((wr .i64 ((↑a1.from_.words.length:Int)+(↑a1.from_.E9.length:Int)))+(↑a1.from_.parts.length:Int))).toNat≤a2.length) <|
 (U1 (a2.drop ((wr .i64 ((wr .i64 ((↑a1.from_.words.length:Int)+(↑a1.from_.E9.length:Int)))+(↑a1.from_.parts.length:Int))).toNat)) (get v1 k0)).bind fun v13=>
 P6 (C5 (get v1 k0) v13 s0.2) fun c14=>
 bif (decide (((assoc (get v1 k0) c14).getD default)=(get v1 k0)))then
  (T8 B7 s0.1 m1 l2).bind fun v16=>
  P6 (C5 (get v1 k0) v16.1 c14) fun c17=>
  some (.nxt (v16.2,c17))
 else
  some (.nxt (s0.1,c14))
def cG(B8:(u5)→(Bs)→((List u7))→(Int)→((List (Bs×Int)))→((List u6))→Option (w5×Bool×Int×(List u6)))(n:Nat)(a1:u7)(a2:(List w6))(B7:(List u7))(m1:(List (Bs×Int)))(l2:(List u6))(a3:Bs)(t0:Int×(List (Bs×Bs))):Option (w5×Bool×Int×(List u6)):=
 (iE n a1.from_).bind fun v19=>
 (P3 B8 n a1.to_ [] a1.from_.form.kind a1.from_.form.name a1.from_.form.words a1.from_.form.subs a1.from_.words a1.from_.E9 a1.from_.parts a1.to_.kind a1.to_.name a1.to_.words a1.to_.subs [] a2 (↑a1.from_.words.length:Int) (↑a1.from_.E9.length:Int) (↑a1.from_.parts.length:Int) B7 t0.1 m1 l2 a3 v19 t0.2).bind fun v20=>
 some (v20.1,v20.2.1,v20.2.2.1,v20.2.2.2.1)
def cW(B8:(u5)→(Bs)→((List u7))→(Int)→((List (Bs×Int)))→((List u6))→Option (w5×Bool×Int×(List u6)))(n:Nat)(a1:u7)(a2:(List w6))(a3:Bs)(B7:(List u7))(E0:Int)(m1:(List (Bs×Int)))(l2:(List u6)):Option (w5×Bool×Int×(List u6)):=
 (C4 n a1.to_).bind fun v1=>
 C2 (D4 (fX a1 a2 v1 B7 m1 l2) v1.length (E0,[])) (cG B8 n a1 a2 B7 m1 l2 a3)
def U2(self:(u5)→(Bs)→((List u7))→(Int)→((List (Bs×Int)))→((List u6))→Option (w5×Bool×Int×(List u6)))(n:Nat)(B7:(List u7))(a1:u5)(l2:(List u6))(a2:Bs)(m1:(List (Bs×Int)))(E0:Int)(k0:Nat)(s0:Unit):Option (Ctl (w5×Bool×Int×(List u6)) (Unit) (Unit)):=
 (eZ n ((get B7 k0).from_) a1).bind fun v1=>
 bif (!v1.2)then
  some (.nxt ())
 else
  P6 (l2++[(u6.mk ((assoc a2 m1).getD default) (↑k0:Int))]) fun c3=>
  chk (c3.length*16≤top∧c3.length≤top) <|
  (cW self n (get B7 k0) v1.1 a2 B7 E0 m1 c3).bind fun v9=>
  some (.ret (v9.1,v9.2.1,v9.2.2.1,v9.2.2.2))
def aV(self:(u5)→(Bs)→((List u7))→(Int)→((List (Bs×Int)))→((List u6))→Option (w5×Bool×Int×(List u6)))(a2:Bs)(a1:u5)(B7:(List u7))(m1:(List (Bs×Int)))(k1:Nat)(s1:Int×(List u6)×(List w5)×(List u5)):Option (Ctl (w5×Bool×Int×(List u6)) (Int×(List u6)×(List w5)×(List u5)) (Int×(List u6)×(List w5)×(List u5))):=
 (itoa (↑k1:Int)).bind fun v25=>
 chk (M4 a2 v25) <|
 (self (get a1.subs k1) (mG a2 v25) B7 s1.1 m1 s1.2.1).bind fun v27=>
 bif (!v27.2.1)then
  some (.ret ((w5.mk (u5.mk 0 [] [] []) 0 0),false,v27.2.2.1,v27.2.2.2))
 else
  P6 (s1.2.2.1++[v27.1]) fun c29=>
  chk (c29.length*88≤top∧c29.length≤top) <|
  P6 (s1.2.2.2++[v27.1.form]) fun c35=>
  chk (c35.length*72≤top∧c35.length≤top) <|
  some (.nxt (v27.2.2.1,v27.2.2.2,c29,c35))
def aW(a1:u5)(t1:Int×(List u6)×(List w5)×(List u5)):Option (w5×Bool×Int×(List u6)):=
 (eC t1.2.2.1).bind fun v40=>
 some ((w5.mk (u5.mk a1.kind a1.name a1.words t1.2.2.2) v40.1 v40.2.1),v40.2.2,t1.1,t1.2.1)
def aU(self:(u5)→(Bs)→((List u7))→(Int)→((List (Bs×Int)))→((List u6))→Option (w5×Bool×Int×(List u6)))(a2:Bs)(a1:u5)(B7:(List u7))(m1:(List (Bs×Int)))(E0:Int)(l2:(List u6))(t0:Unit):Option (w5×Bool×Int×(List u6)):=
 C2 (D4 (aV self a2 a1 B7 m1) a1.subs.length (E0,l2,[],[])) (aW a1)
def G5:Nat→(u5)→(Bs)→((List u7))→(Int)→((List (Bs×Int)))→((List u6))→Option (w5×Bool×Int×(List u6))
 |0,_,_,_,_,_,_=>none
 |n+1,a1,a2,B7,E0,m1,l2=>
  C2 (D4 (U2 (G5 n) n B7 a1 l2 a2 m1 E0) B7.length ()) (aU (G5 n) a2 a1 B7 m1 E0 l2)
def D9(l0:(List u6)):Option ((List u6)):=
 chk (l0.length<4611686018427387904∧PE l0) (some (jT PD l0))
def aZ(P5:(List Bs))(s0:Int):Option (Ctl (Bs×Int) (Int) (Unit)):=
 (itoa s0).bind fun v4=>
 chk (M4 [118] v4) <|
 (A9 P5 (mG [118] v4)).bind fun v6=>
 bif (!v6)then
  some (.ret ((mG [118] v4),(wr .i64 (s0+1))))
 else
  some (.nxt (wr .i64 (s0+1)))
def hZ(t0:Unit):Option (Bs×Int):=
 none
def eS(n:Nat)(B7:Int)(P5:(List Bs)):Option (Bs×Int):=
 C2 (Y4 (aZ P5) n B7) (hZ)
def aq(a1:(List B3))(a0:u5)(k0:Nat)(s2:Int):Option (Ctl (Ctl (u5×Int) ((List Bs)) ((List Bs))) (Int) (Bs)):=
 bif (decide (0≤s2))then
  chk (0≤s2∧s2<(↑a1.length:Int)) <|
  bif (decide (((get a1 s2.toNat).from_)=(get a0.words k0)))then
   some (.brk ((get a1 s2.toNat).to_))
  else
   some (.nxt (wr .i64 (s2-1)))
 else
  some (.brk (get a0.words k0))
def cx(s0:(List Bs))(t2:Bs):Option (Ctl (u5×Int) ((List Bs)) ((List Bs))):=
 P6 (s0++[t2]) fun c16=>
 chk (c16.length*16≤top∧c16.length≤top) <|
 some (.nxt c16)
def cw(n:Nat)(a1:(List B3))(a0:u5)(k0:Nat)(s0:(List Bs)):Option (Ctl (u5×Int) ((List Bs)) ((List Bs))):=
 C2 (Y4 (aq a1 a0 k0) n (wr .i64 ((↑a1.length:Int)-1))) (cx s0)
def cA(self:(u5)→((List B3))→(Int)→((List Bs))→Option (u5×Int))(a0:u5)(j3:Int×Bs×(List B3))(P5:(List Bs))(k4:Nat)(s4:Int×(List u5)):Option (Ctl (u5×Int) (Int×(List u5)) (Int×(List u5))):=
 (self (get a0.subs k4) j3.2.2 s4.1 P5).bind fun v38=>
 P6 (s4.2++[v38.1]) fun c40=>
 chk (c40.length*72≤top∧c40.length≤top) <|
 some (.nxt (v38.2,c40))
def cB(a0:u5)(j3:Int×Bs×(List B3))(t0:(List Bs))(t4:Int×(List u5)):Option (u5×Int):=
 some ((u5.mk a0.kind j3.2.1 t0 t4.2),t4.1)
def S8(self:(u5)→((List B3))→(Int)→((List Bs))→Option (u5×Int))(a0:u5)(P5:(List Bs))(t0:(List Bs))(j3:Int×Bs×(List B3)):Option (u5×Int):=
 C2 (D4 (cA self a0 j3 P5) a0.subs.length (j3.1,[])) (cB a0 j3 t0)
def cC(self:(u5)→((List B3))→(Int)→((List Bs))→Option (u5×Int))(n:Nat)(a0:u5)(B7:Int)(P5:(List Bs))(a1:(List B3))(t0:(List Bs)):Option (u5×Int):=
 (C7 a0).bind fun v21=>
 bif v21 then
  (eS n B7 P5).bind fun v22=>
  chk (0≤(↑a1.length:Int)∧0≤(↑a1.length:Int)) <|
  P6 (a1++[(B3.mk a0.name v22.1)]) fun c26=>
  chk (c26.length*32≤top∧c26.length≤top) <|
  S8 self a0 P5 t0 (v22.2,v22.1,c26)
 else
  S8 self a0 P5 t0 (B7,a0.name,a1)
def M1:Nat→(u5)→((List B3))→(Int)→((List Bs))→Option (u5×Int)
 |0,_,_,_,_=>none
 |n+1,a0,a1,B7,P5=>
  C2 (D4 (cw n a1 a0) a0.words.length []) (cC (M1 n) n a0 B7 P5 a1)
def fY(v1:(List Bs))(a1:(List B3))(k0:Nat)(k1:Nat)(s1:Unit):Option (Ctl (Ctl (u5) (Unit) (Unit)) (Unit) (Unit)):=
 bif (decide ((get v1 k1)=((get a1 k0).from_)))then
  none
 else
  some (.nxt ())
def fZ(t1:Unit):Option (Ctl (u5) (Unit) (Unit)):=
 some (.nxt ())
def ga(v1:(List Bs))(a1:(List B3))(k0:Nat)(s0:Unit):Option (Ctl (u5) (Unit) (Unit)):=
 C2 (D4 (fY v1 a1 k0) v1.length ()) (fZ)
def cD(n:Nat)(a0:u5)(a1:(List B3))(v1:(List Bs))(t0:Unit):Option (u5):=
 (M1 n a0 a1 0 v1).bind fun v2=>
 some v2.1
def gG(n:Nat)(a0:u5)(a1:(List B3)):Option (u5):=
 (K3 n a0).bind fun v1=>
 C2 (D4 (ga v1 a1) a1.length ()) (cD n a0 a1 v1)
def gT(n:Nat)(a0:u5):Option (u5):=
 (gG n a0 []).bind fun v1=>
 some v1
def fT(n:Nat)(a0:(List u7))(a1:u5):Option (u5×(List u6)×Bool):=
 (N2 n a1 a0 0 [] []).bind fun v1=>
 (O4 n v1.1 [] a0 v1.2 [] []).bind fun v2=>
 (G5 n v1.1 [] a0 v1.2 v2 []).bind fun v3=>
 bif (!v3.2.1)then
  some ((u5.mk 0 [] [] []),[],false)
 else
  (D9 v3.2.2.2).bind fun v4=>
  (gT n v3.1.form).bind fun v6=>
  some (v6,v4,true)
def cH(n:Nat)(a0:(List u7))(a1:u5):Option (u5×B0):=
 (ft n a0 a1).bind fun v1=>
 bif (!decide (v1.code=0))then
  some ((u5.mk 0 [] [] []),v1)
 else
  (fT n a0 a1).bind fun v2=>
  bif (!v2.2.2)then
   (F9 1 0).bind fun v3=>
   some ((u5.mk 0 [] [] []),v3)
  else
   some (v2.1,(B0.mk 0 0))
def kK(n:Nat)(a0:(List u7))(a1:u5):Option ((List u6)×B0):=
 (ft n a0 a1).bind fun v1=>
 bif (!decide (v1.code=0))then
  some ([],v1)
 else
  (fT n a0 a1).bind fun v2=>
  bif (!v2.2.2)then
   (F9 1 0).bind fun v3=>
   some ([],v3)
  else
   some (v2.2.1,(B0.mk 0 0))
def U3(a0:(List Bs))(a1:(List Bs))(s0:Int):Option (Ctl (Bool) (Int) (Unit)):=
 bif (decide (s0<(↑a0.length:Int)))then
  chk (0≤s0∧s0<(↑a0.length:Int)) <|
  chk (s0<(↑a1.length:Int)) <|
  bif (!decide ((get a0 s0.toNat)=(get a1 s0.toNat)))then
   some (.ret false)
  else
   some (.nxt (wr .i64 (s0+1)))
 else
  some (.brk ())
def U4(t0:Unit):Option (Bool):=
 some true
def au(n:Nat)(a0:(List Bs))(a1:(List Bs)):Option (Bool):=
 bif (!decide ((↑a0.length:Int)=(↑a1.length:Int)))then
  some false
 else
  C2 (Y4 (U3 a0 a1) n 0) (U4)
def V0(self:(u5)→(u5)→Option (Bool))(a0:u5)(a1:u5)(s0:Int):Option (Ctl (Bool) (Int) (Unit)):=
 bif (decide (s0<(↑a0.subs.length:Int)))then
  chk (0≤s0∧s0<(↑a0.subs.length:Int)) <|
  chk (s0<(↑a1.subs.length:Int)) <|
  (self (get a0.subs s0.toNat) (get a1.subs s0.toNat)).bind fun v8=>
  bif (!v8)then
   some (.ret false)
  else
   some (.nxt (wr .i64 (s0+1)))
 else
  some (.brk ())
def V1(t0:Unit):Option (Bool):=
 some true
def M8:Nat→(u5)→(u5)→Option (Bool)
 |0,_,_=>none
 |n+1,a0,a1=>
  (gd (!(bif (!decide (a0.kind=a1.kind))then true else(!decide (a0.name=a1.name)))) (au n a0.words a1.words) default).bind fun v1=>
  bif (bif (bif (bif (!decide (a0.kind=a1.kind))then true else(!decide (a0.name=a1.name)))then true else(!v1))then true else(!decide ((↑a0.subs.length:Int)=(↑a1.subs.length:Int))))then
   some false
  else
   C2 (Y4 (V0 (M8 n) a0 a1) n 0) (V1)
def H7(n:Nat):Option (Bool):=
 (I4 [100,111,103] [[120]]).bind fun v2=>
 (I4 [97,110,105,109,97,108] [[120]]).bind fun v5=>
 (I4 [116,97,109,101] [[120]]).bind fun v7=>
 (aX 5 v5 v7).bind fun v8=>
 (I4 [100,111,103] [[121]]).bind fun v10=>
 (I4 [97,110,105,109,97,108] [[118,48]]).bind fun v13=>
 (I4 [116,97,109,101] [[118,48]]).bind fun v15=>
 (aX 5 v13 v15).bind fun v16=>
 (cH n [(u7.mk (A8.mk v2 [[120]] [] []) v8)] (u5.mk 9 [121] [] [v10])).bind fun v19=>
 (kK n [(u7.mk (A8.mk v2 [[120]] [] []) v8)] (u5.mk 9 [121] [] [v10])).bind fun v21=>
 (gd (decide (v19.2.code=0)) (M8 n v19.1 (u5.mk 9 [118,48] [] [v16])) default).bind fun v22=>
 chk (jH (bif (bif (bif (decide (v19.2.code=0))then v22 else false)then(decide (v21.2.code=0))else false)then(decide ((↑v21.1.length:Int)=1))else false) (0<(↑v21.1.length:Int))) <|
 some (bif (bif (bif (bif (decide (v19.2.code=0))then v22 else false)then(decide (v21.2.code=0))else false)then(decide ((↑v21.1.length:Int)=1))else false)then(decide ((get v21.1 0).at_=1)&&(decide ((get v21.1 0).rule=0)))else false)
def bA(a0:Int)(B7:Int):Option (B0):=
 some (B0.mk a0 B7)
def I7(a0:Int)(B7:Int):Option (B0):=
 some (B0.mk a0 B7)
def cU(a0:Bs):Option (Bool):=
 some false
def V5(a0:Bs)(a1:Bs):Option (Int):=
 (cU a0).bind fun v1=>
 (cU a1).bind fun v2=>
 bif v1 then
  bif v2 then
   some 0
  else
   some (-1)
 else
  bif v2 then
   some 1
  else
   bif (Op.bytesLess a0 a1)then
    some (-1)
   else
    bif (!(Op.bytesLess a0 a1||decide (a0=a1)))then
     some 1
    else
     some 0
def kL(a0:Int):Option (Bool):=
 some false
def aD(a0:Int)(a1:Int):Option (Int):=
 (kL a0).bind fun v1=>
 (kL a1).bind fun v2=>
 bif v1 then
  bif v2 then
   some 0
  else
   some (-1)
 else
  bif v2 then
   some 1
  else
   bif (decide (a0<a1))then
    some (-1)
   else
    bif (decide (a1<a0))then
     some 1
    else
     some 0
def kH(a0:(List Int))(k0:Nat)(s0:Unit):Option (Ctl (Int) (Unit) (Unit)):=
 bif (!decide ((get a0 k0)=0))then
  some (.ret (get a0 k0))
 else
  some (.nxt ())
def kI(t0:Unit):Option (Int):=
 some 0
def oK(a0:(List Int)):Option (Int):=
 C2 (D4 (kH a0) a0.length ()) (kI)
def aA(a0:w7)(a1:w7):Option (Int):=
 (V5 a0.name a1.name).bind fun v1=>
 (aD a0.arity a1.arity).bind fun v2=>
 (oK [v1,v2]).bind fun v4=>
 some v4
def U6(a1:(List Int))(a0:(List Int))(k0:Nat)(s0:Unit):Option (Ctl (Int) (Unit) (Unit)):=
 bif (decide ((↑a1.length:Int)≤(↑k0:Int)))then
  some (.ret 1)
 else
  chk ((↑k0:Int)<(↑a1.length:Int)) <|
  (aD (get a0 k0) (get a1 k0)).bind fun v2=>
  bif (!decide (v2=0))then
   some (.ret v2)
  else
   some (.nxt ())
def U7(a0:(List Int))(a1:(List Int))(t0:Unit):Option (Int):=
 bif (decide ((↑a0.length:Int)<(↑a1.length:Int)))then
  some (-1)
 else
  some 0
def E2(a0:(List Int))(a1:(List Int)):Option (Int):=
 C2 (D4 (U6 a1 a0) a0.length ()) (U7 a0 a1)
def K4(a0:B4)(k0:Nat)(s0:Unit):Option (Ctl (B0) (Unit) (Unit)):=
 (termName ((get a0.constants k0).name)).bind fun v8=>
 bif (!v8)then
  (bA 10 (↑k0:Int)).bind fun v9=>
  some (.ret v9)
 else
  chk (jH (decide (0<(↑k0:Int))) (0≤(wr .i64 ((↑k0:Int)-1)))∧jH (decide (0<(↑k0:Int))) ((wr .i64 ((↑k0:Int)-1))<(↑a0.constants.length:Int))) <|
  bif (bif (decide (0<(↑k0:Int)))then(!Op.bytesLess ((get a0.constants ((wr .i64 ((↑k0:Int)-1)).toNat)).name) ((get a0.constants k0).name))else false)then
   (bA 13 (↑k0:Int)).bind fun v13=>
   some (.ret v13)
  else
   bif (bif (decide (((get a0.constants k0).value)<0))then true else(decide (a0.size≤((get a0.constants k0).value))))then
    (bA 3 (↑k0:Int)).bind fun v14=>
    some (.ret v14)
   else
    some (.nxt ())
def V6(a0:B4)(k1:Nat)(k5:Nat)(k7:Nat)(s7:Unit):Option (Ctl (Ctl (Ctl (B0) (Unit) (Unit)) (Unit) (Unit)) (Unit) (Unit)):=
 bif (bif (decide ((get (get ((get a0.relations k1).tuples) k5) k7)<0))then true else(decide (a0.size≤(get (get ((get a0.relations k1).tuples) k5) k7))))then
  (I7 3 (↑k1:Int)).bind fun v57=>
  some (.ret (.ret (.ret v57)))
 else
  some (.nxt ())
def dJ(k5:Nat)(a0:B4)(k1:Nat)(t7:Unit):Option (Ctl (Ctl (B0) (Unit) (Unit)) (Unit) (Unit)):=
 chk (jH (decide (0<(↑k5:Int))) (0≤(wr .i64 ((↑k5:Int)-1)))∧jH (decide (0<(↑k5:Int))) ((wr .i64 ((↑k5:Int)-1))<(↑(((get a0.relations k1).tuples).length):Int))) <|
 (gd (decide (0<(↑k5:Int))) (E2 (get ((get a0.relations k1).tuples) ((wr .i64 ((↑k5:Int)-1)).toNat)) (get ((get a0.relations k1).tuples) k5)) default).bind fun v61=>
 bif (bif (decide (0<(↑k5:Int)))then(decide (0≤v61))else false)then
  (I7 13 (↑k1:Int)).bind fun v62=>
  some (.ret (.ret v62))
 else
  some (.nxt ())
def Q8(a0:B4)(k1:Nat)(k5:Nat)(s5:Unit):Option (Ctl (Ctl (B0) (Unit) (Unit)) (Unit) (Unit)):=
 bif (!decide ((↑((get ((get a0.relations k1).tuples) k5).length):Int)=((get a0.relations k1).arity)))then
  (I7 9 (↑k1:Int)).bind fun v55=>
  some (.ret (.ret v55))
 else
  C2 (D4 (V6 a0 k1 k5) ((get ((get a0.relations k1).tuples) k5).length) ()) (dJ k5 a0 k1)
def bf(t5:Unit):Option (Ctl (B0) (Unit) (Unit)):=
 some (.nxt ())
def V7(a0:B4)(k1:Nat)(s1:Unit):Option (Ctl (B0) (Unit) (Unit)):=
 (termName ((get a0.relations k1).name)).bind fun v39=>
 bif (!v39)then
  (I7 10 (↑k1:Int)).bind fun v40=>
  some (.ret v40)
 else
  bif (bif (decide (((get a0.relations k1).arity)<0))then true else(decide (3<((get a0.relations k1).arity))))then
   (I7 3 (↑k1:Int)).bind fun v41=>
   some (.ret v41)
  else
   chk (jH (decide (0<(↑k1:Int))) (0≤(wr .i64 ((↑k1:Int)-1)))∧jH (decide (0<(↑k1:Int))) ((wr .i64 ((↑k1:Int)-1))<(↑a0.relations.length:Int))) <|
   (gd (decide (0<(↑k1:Int))) (aA (get a0.relations ((wr .i64 ((↑k1:Int)-1)).toNat)) (get a0.relations k1)) default).bind fun v45=>
   bif (bif (decide (0<(↑k1:Int)))then(decide (0≤v45))else false)then
    (I7 13 (↑k1:Int)).bind fun v46=>
    some (.ret v46)
   else
    C2 (D4 (Q8 a0 k1) (((get a0.relations k1).tuples).length) ()) (bf)
def dK(t1:Unit):Option (B0):=
 some (B0.mk 0 0)
def bg(a0:B4)(t0:Unit):Option (B0):=
 C2 (D4 (V7 a0) a0.relations.length ()) (dK)
def cF(a0:B4):Option (B0):=
 bif (bif (decide (a0.size<1))then true else(decide (6<a0.size)))then
  some (B0.mk 3 0)
 else
  bif (bif (decide (300<(↑a0.constants.length:Int)))then true else(decide (300<(↑a0.relations.length:Int))))then
   some (B0.mk 2 0)
  else
   C2 (D4 (K4 a0) a0.constants.length ()) (bg a0)
def Y0(a2:Int)(s0:(List Bs)×(List Bs)×(List Bs)×Int):Option (Ctl (u7×B0) ((List Bs)×(List Bs)×(List Bs)×Int) ((List Bs)×(List Bs)×(List Bs))):=
 bif (decide (s0.2.2.2<a2))then
  (itoa s0.2.2.2).bind fun v26=>
  chk (M4 [120] v26) <|
  P6 (s0.2.1++[(mG [120] v26)]) fun c29=>
  chk (c29.length*16≤top∧c29.length≤top) <|
  P6 (s0.1++[(mG [120] v26)]) fun c35=>
  chk (c35.length*16≤top∧c35.length≤top) <|
  P6 (s0.2.2.1++[(mG [120] v26)]) fun c41=>
  chk (c41.length*16≤top∧c41.length≤top) <|
  some (.nxt (c35,c29,c41,(wr .i64 (s0.2.2.2+1))))
 else
  some (.brk (s0.1,s0.2.1,s0.2.2.1))
def bI(a0:Bs)(a1:Bs)(t0:(List Bs)×(List Bs)×(List Bs)):Option (u7×B0):=
 some ((u7.mk (A8.mk (u5.mk 2 a0 t0.1 []) t0.2.1 [] []) (u5.mk 2 a1 t0.2.2 [])),(B0.mk 0 0))
def bY(n:Nat)(a0:Bs)(a1:Bs)(a2:Int):Option (u7×B0):=
 (termName a0).bind fun v1=>
 bif (!v1)then
  (F9 10 (-1)).bind fun v2=>
  some ((u7.mk (A8.mk (u5.mk 0 [] [] []) [] [] []) (u5.mk 0 [] [] [])),v2)
 else
  (termName a1).bind fun v3=>
  bif (!v3)then
   (F9 10 (-2)).bind fun v4=>
   some ((u7.mk (A8.mk (u5.mk 0 [] [] []) [] [] []) (u5.mk 0 [] [] [])),v4)
  else
   bif (bif (decide (a2<0))then true else(decide (3<a2)))then
    (F9 3 (-3)).bind fun v5=>
    some ((u7.mk (A8.mk (u5.mk 0 [] [] []) [] [] []) (u5.mk 0 [] [] [])),v5)
   else
    C2 (Y4 (Y0 a2) n ([],[],[],0)) (bI a0 a1)
def jv(self:(u5)→Option (Int))(a0:u5)(k0:Nat)(s0:Int):Option (Ctl (Int) (Int) (Int)):=
 (self (get a0.subs k0)).bind fun v2=>
 some (.nxt (max s0 v2))
def jw(a0:u5)(t0:Int):Option (Int):=
 (C7 a0).bind fun v3=>
 bif v3 then
  some (wr .i64 (t0+1))
 else
  some t0
def iV:Nat→(u5)→Option (Int)
 |0,_=>none
 |n+1,a0=>
  C2 (D4 (jv (iV n) a0) a0.subs.length 0) (jw a0)
def br(a0:A0)(a1:Bs):Option (Int):=
 (V5 a0.name a1).bind fun v1=>
 some v1
def E6(a0:(List A0))(a1:Bs)(s0:Int×Int):Option (Ctl (Int×Bool) (Int×Int) (Int)):=
 bif (decide (s0.2<s0.1))then
  chk (0≤(wr .i64 (Int.fdiv (wr .u64 (wr .i64 (s0.2+s0.1))) (2^(min 1 64))))∧(wr .i64 (Int.fdiv (wr .u64 (wr .i64 (s0.2+s0.1))) (2^(min 1 64))))<(↑a0.length:Int)) <|
  (br (get a0 ((wr .i64 (Int.fdiv (wr .u64 (wr .i64 (s0.2+s0.1))) (2^(min 1 64)))).toNat)) a1).bind fun v6=>
  bif (decide (v6<0))then
   some (.nxt (s0.1,(wr .i64 ((wr .i64 (Int.fdiv (wr .u64 (wr .i64 (s0.2+s0.1))) (2^(min 1 64))))+1))))
  else
   some (.nxt ((wr .i64 (Int.fdiv (wr .u64 (wr .i64 (s0.2+s0.1))) (2^(min 1 64)))),s0.2))
 else
  some (.brk s0.2)
def E7(a0:(List A0))(a1:Bs)(t0:Int):Option (Int×Bool):=
 chk (jH (decide (t0<(↑a0.length:Int))) (0≤t0)∧jH (decide (t0<(↑a0.length:Int))) (t0<(↑a0.length:Int))) <|
 (gd (decide (t0<(↑a0.length:Int))) (br (get a0 t0.toNat) a1) default).bind fun v10=>
 some (t0,(bif (decide (t0<(↑a0.length:Int)))then(decide (v10=0))else false))
def D3(n:Nat)(a0:(List A0))(a1:Bs):Option (Int×Bool):=
 C2 (Y4 (E6 a0 a1) n ((↑a0.length:Int),0)) (E7 a0 a1)
def S1(n:Nat)(a0:B4)(a1:Bs):Option (Int×Bool):=
 (D3 n a0.constants a1).bind fun v1=>
 bif (!v1.2)then
  some (0,false)
 else
  chk (0≤v1.1∧v1.1<(↑a0.constants.length:Int)) <|
  some ((get a0.constants v1.1.toNat).value,true)
def D7(a0:(List w7))(a1:w7)(s0:Int×Int):Option (Ctl (Int×Bool) (Int×Int) (Int)):=
 bif (decide (s0.2<s0.1))then
  chk (0≤(wr .i64 (Int.fdiv (wr .u64 (wr .i64 (s0.2+s0.1))) (2^(min 1 64))))∧(wr .i64 (Int.fdiv (wr .u64 (wr .i64 (s0.2+s0.1))) (2^(min 1 64))))<(↑a0.length:Int)) <|
  (aA (get a0 ((wr .i64 (Int.fdiv (wr .u64 (wr .i64 (s0.2+s0.1))) (2^(min 1 64)))).toNat)) a1).bind fun v6=>
  bif (decide (v6<0))then
   some (.nxt (s0.1,(wr .i64 ((wr .i64 (Int.fdiv (wr .u64 (wr .i64 (s0.2+s0.1))) (2^(min 1 64))))+1))))
  else
   some (.nxt ((wr .i64 (Int.fdiv (wr .u64 (wr .i64 (s0.2+s0.1))) (2^(min 1 64)))),s0.2))
 else
  some (.brk s0.2)
def D8(a0:(List w7))(a1:w7)(t0:Int):Option (Int×Bool):=
 chk (jH (decide (t0<(↑a0.length:Int))) (0≤t0)∧jH (decide (t0<(↑a0.length:Int))) (t0<(↑a0.length:Int))) <|
 (gd (decide (t0<(↑a0.length:Int))) (aA (get a0 t0.toNat) a1) default).bind fun v10=>
 some (t0,(bif (decide (t0<(↑a0.length:Int)))then(decide (v10=0))else false))
def C9(n:Nat)(a0:(List w7))(a1:w7):Option (Int×Bool):=
 C2 (Y4 (D7 a0 a1) n ((↑a0.length:Int),0)) (D8 a0 a1)
def eW(n:Nat)(a0:B4)(a1:Bs)(a2:Int):Option (w7×Bool):=
 (C9 n a0.relations (w7.mk a1 a2 [])).bind fun v1=>
 bif (!v1.2)then
  some ((w7.mk [] 0 []),false)
 else
  chk (0≤v1.1∧v1.1<(↑a0.relations.length:Int)) <|
  some ((get a0.relations v1.1.toNat),true)
def gJ(self:(u5)→(Int)→((List A0))→((List w7))→Option (Bool))(a0:u5)(B7:Int)(I8:(List A0))(I9:(List w7))(k1:Nat)(s1:Unit):Option (Ctl (Bool) (Unit) (Unit)):=
 (self (get a0.subs k1) B7 I8 I9).bind fun v2=>
 bif (!v2)then
  some (.ret false)
 else
  some (.nxt ())
def gK(t1:Unit):Option (Bool):=
 some true
def bw(self:(u5)→(Int)→((List A0))→((List w7))→Option (Bool))(a0:u5)(B7:Int)(I8:(List A0))(I9:(List w7))(j0:Unit):Option (Bool):=
 C2 (D4 (gJ self a0 B7 I8 I9) a0.subs.length ()) (gK)
def Y5:Nat→(u5)→(Int)→((List A0))→((List w7))→Option (Bool)
 |0,_,_,_,_=>none
 |n+1,a0,B7,I8,I9=>
  bif (decide (a0.kind=2))then
   (eW n (B4.mk B7 I8 I9) a0.name (↑a0.words.length:Int)).bind fun v1=>
   bif (!v1.2)then
    some false
   else
    bw (Y5 n) a0 B7 I8 I9 ()
  else
   bw (Y5 n) a0 B7 I8 I9 ()
def iC(n:Nat)(a0:B4)(v2:(List Bs))(k0:Nat)(s0:Unit):Option (Ctl (B0) (Unit) (Unit)):=
 (S1 n a0 (get v2 k0)).bind fun v3=>
 bif (!v3.2)then
  some (.ret (B0.mk 6 (-2)))
 else
  some (.nxt ())
def iD(n:Nat)(a1:u5)(a0:B4)(t0:Unit):Option (B0):=
 (Y5 n a1 a0.size a0.constants a0.relations).bind fun v4=>
 bif (!v4)then
  some (B0.mk 6 (-2))
 else
  some (B0.mk 0 0)
def jX(n:Nat)(a0:B4)(a1:u5):Option (B0):=
 (iV n a1).bind fun v1=>
 bif (decide (5<v1))then
  some (B0.mk 17 (-2))
 else
  (K3 n a1).bind fun v2=>
  C2 (D4 (iC n a0 v2) v2.length ()) (iD n a1 a0)
def gH(B7:(List B9))(a0:Bs)(s0:Int):Option (Ctl (Int) (Int) (Unit)):=
 bif (decide (0≤s0))then
  chk (0≤s0∧s0<(↑B7.length:Int)) <|
  bif (decide (((get B7 s0.toNat).name)=a0))then
   some (.ret ((get B7 s0.toNat).value))
  else
   some (.nxt (wr .i64 (s0-1)))
 else
  some (.brk ())
def gI(n:Nat)(P5:Int)(mK:(List A0))(mL:(List w7))(a0:Bs)(t0:Unit):Option (Int):=
 (S1 n (B4.mk P5 mK mL) a0).bind fun v5=>
 some v5.1
def bX(n:Nat)(a0:Bs)(B7:(List B9))(P5:Int)(mK:(List A0))(mL:(List w7)):Option (Int):=
 C2 (Y4 (gH B7 a0) n (wr .i64 ((↑B7.length:Int)-1))) (gI n P5 mK mL a0)
def L8(a0:(List (List Int)))(a1:(List Int))(s0:Int×Int):Option (Ctl (Int×Bool) (Int×Int) (Int)):=
 bif (decide (s0.2<s0.1))then
  chk (0≤(wr .i64 (Int.fdiv (wr .u64 (wr .i64 (s0.2+s0.1))) (2^(min 1 64))))∧(wr .i64 (Int.fdiv (wr .u64 (wr .i64 (s0.2+s0.1))) (2^(min 1 64))))<(↑a0.length:Int)) <|
  (E2 (get a0 ((wr .i64 (Int.fdiv (wr .u64 (wr .i64 (s0.2+s0.1))) (2^(min 1 64)))).toNat)) a1).bind fun v6=>
  bif (decide (v6<0))then
   some (.nxt (s0.1,(wr .i64 ((wr .i64 (Int.fdiv (wr .u64 (wr .i64 (s0.2+s0.1))) (2^(min 1 64))))+1))))
  else
   some (.nxt ((wr .i64 (Int.fdiv (wr .u64 (wr .i64 (s0.2+s0.1))) (2^(min 1 64)))),s0.2))
 else
  some (.brk s0.2)
def L9(a0:(List (List Int)))(a1:(List Int))(t0:Int):Option (Int×Bool):=
 chk (jH (decide (t0<(↑a0.length:Int))) (0≤t0)∧jH (decide (t0<(↑a0.length:Int))) (t0<(↑a0.length:Int))) <|
 (gd (decide (t0<(↑a0.length:Int))) (E2 (get a0 t0.toNat) a1) default).bind fun v10=>
 some (t0,(bif (decide (t0<(↑a0.length:Int)))then(decide (v10=0))else false))
def D0(n:Nat)(a0:(List (List Int)))(a1:(List Int)):Option (Int×Bool):=
 C2 (Y4 (L8 a0 a1) n ((↑a0.length:Int),0)) (L9 a0 a1)
def dH(l1:(List B9))(a0:Bs)(s0:Int):Option (Ctl (Int) (Int) (Unit)):=
 bif (decide (0≤s0))then
  chk (0≤s0∧s0<(↑l1.length:Int)) <|
  bif (decide (((get l1 s0.toNat).name)=a0))then
   some (.ret ((get l1 s0.toNat).value))
  else
   some (.nxt (wr .i64 (s0-1)))
 else
  some (.brk ())
def dI(n:Nat)(nS:Int)(nT:(List A0))(nU:(List w7))(a0:Bs)(t0:Unit):Option (Int):=
 (S1 n (B4.mk nS nT nU) a0).bind fun v13=>
 some v13.1
def W9(n:Nat)(a0:Bs)(l1:(List B9))(nS:Int)(nT:(List A0))(nU:(List w7)):Option (Int):=
 C2 (Y4 (dH l1 a0) n (wr .i64 ((↑l1.length:Int)-1))) (dI n nS nT nU a0)
def fh(n:Nat)(a1:u5)(l0:(List B9))(a0:B4)(k0:Nat)(s0:(List Int)):Option (Ctl (Bool) ((List Int)) ((List Int))):=
 (W9 n (get a1.words k0) l0 a0.size a0.constants a0.relations).bind fun v8=>
 P6 (s0++[v8]) fun c10=>
 chk (c10.length*8≤top∧c10.length≤top) <|
 some (.nxt c10)
def fj(n:Nat)(a0:B4)(a1:u5)(t0:(List Int)):Option (Bool):=
 (eW n a0 a1.name (↑t0.length:Int)).bind fun v15=>
 (D0 n v15.1.tuples t0).bind fun v16=>
 some v16.2
def bW(self:(B4)→(u5)→((List B9))→Option (Bool))(a0:B4)(a1:u5)(l0:(List B9))(s1:Int):Option (Ctl (Bool) (Int) (Unit)):=
 bif (decide (s1<a0.size))then
  chk (0<(↑a1.subs.length:Int)) <|
  chk (0≤(↑l0.length:Int)∧0≤(↑l0.length:Int)) <|
  P6 (l0++[(B9.mk a1.name s1)]) fun c52=>
  chk (c52.length*24≤top∧c52.length≤top) <|
  (self a0 (get a1.subs 0) c52).bind fun v57=>
  bif (!decide (v57=(decide (a1.kind=8))))then
   some (.ret (decide (a1.kind=9)))
  else
   some (.nxt (wr .i64 (s1+1)))
 else
  some (.brk ())
def iW(a1:u5)(t1:Unit):Option (Bool):=
 some (decide (a1.kind=8))
def I3:Nat→(B4)→(u5)→((List B9))→Option (Bool)
 |0,_,_,_=>none
 |n+1,a0,a1,l0=>
  bif (decide (a1.kind=1))then
   some true
  else
   bif (decide (a1.kind=2))then
    C2 (D4 (fh n a1 l0 a0) a1.words.length []) (fj n a0 a1)
   else
    bif (decide (a1.kind=3))then
     chk (0<(↑a1.words.length:Int)) <|
     (W9 n (get a1.words 0) l0 a0.size a0.constants a0.relations).bind fun v18=>
     chk (1<(↑a1.words.length:Int)) <|
     (W9 n (get a1.words 1) l0 a0.size a0.constants a0.relations).bind fun v20=>
     some (decide (v18=v20))
    else
     bif (decide (a1.kind=4))then
      chk (0<(↑a1.subs.length:Int)) <|
      (I3 n a0 (get a1.subs 0) l0).bind fun v22=>
      some (!v22)
     else
      bif (decide (a1.kind=5))then
       chk (0<(↑a1.subs.length:Int)) <|
       (I3 n a0 (get a1.subs 0) l0).bind fun v24=>
       chk (jH v24 (1<(↑a1.subs.length:Int))) <|
       (gd v24 (I3 n a0 (get a1.subs 1) l0) (default:Bool)).bind fun v27=>
       some (bif v24 then v27 else false)
      else
       bif (decide (a1.kind=6))then
        chk (0<(↑a1.subs.length:Int)) <|
        (I3 n a0 (get a1.subs 0) l0).bind fun v29=>
        chk (jH (!v29) (1<(↑a1.subs.length:Int))) <|
        (gd (!v29) (I3 n a0 (get a1.subs 1) l0) (default:Bool)).bind fun v32=>
        some (bif v29 then true else v32)
       else
        bif (decide (a1.kind=7))then
         chk (0<(↑a1.subs.length:Int)) <|
         (I3 n a0 (get a1.subs 0) l0).bind fun v34=>
         chk (jH (!(!v34)) (1<(↑a1.subs.length:Int))) <|
         (gd (!(!v34)) (I3 n a0 (get a1.subs 1) l0) (default:Bool)).bind fun v37=>
         some (bif (!v34)then true else v37)
        else
         C2 (Y4 (bW (I3 n) a0 a1 l0) n 0) (iW a1)
def iA(n:Nat)(a1:u5)(a2:(List B9))(a0:B4)(k0:Nat)(s0:(List Int)):Option (Ctl (Bool) ((List Int)) ((List Int))):=
 (bX n (get a1.words k0) a2 a0.size a0.constants a0.relations).bind fun v8=>
 P6 (s0++[v8]) fun c10=>
 chk (c10.length*8≤top∧c10.length≤top) <|
 some (.nxt c10)
def iB(n:Nat)(a0:B4)(a1:u5)(t0:(List Int)):Option (Bool):=
 (eW n a0 a1.name (↑t0.length:Int)).bind fun v15=>
 (D0 n v15.1.tuples t0).bind fun v16=>
 some v16.2
def fq(n:Nat)(a0:B4)(a1:u5)(a2:(List B9))(s1:Int):Option (Ctl (Bool) (Int) (Unit)):=
 bif (decide (s1<a0.size))then
  chk (0<(↑a1.subs.length:Int)) <|
  chk (0≤(↑a2.length:Int)∧0≤(↑a2.length:Int)) <|
  P6 (a2++[(B9.mk a1.name s1)]) fun c52=>
  chk (c52.length*24≤top∧c52.length≤top) <|
  (I3 n a0 (get a1.subs 0) c52).bind fun v57=>
  bif (!decide (v57=(decide (a1.kind=8))))then
   some (.ret (decide (a1.kind=9)))
  else
   some (.nxt (wr .i64 (s1+1)))
 else
  some (.brk ())
def kM(a1:u5)(t1:Unit):Option (Bool):=
 some (decide (a1.kind=8))
def S9:Nat→(B4)→(u5)→((List B9))→Option (Bool)
 |0,_,_,_=>none
 |n+1,a0,a1,a2=>
  bif (decide (a1.kind=1))then
   some true
  else
   bif (decide (a1.kind=2))then
    C2 (D4 (iA n a1 a2 a0) a1.words.length []) (iB n a0 a1)
   else
    bif (decide (a1.kind=3))then
     chk (0<(↑a1.words.length:Int)) <|
     (bX n (get a1.words 0) a2 a0.size a0.constants a0.relations).bind fun v18=>
     chk (1<(↑a1.words.length:Int)) <|
     (bX n (get a1.words 1) a2 a0.size a0.constants a0.relations).bind fun v20=>
     some (decide (v18=v20))
    else
     bif (decide (a1.kind=4))then
      chk (0<(↑a1.subs.length:Int)) <|
      (S9 n a0 (get a1.subs 0) a2).bind fun v22=>
      some (!v22)
     else
      bif (decide (a1.kind=5))then
       chk (0<(↑a1.subs.length:Int)) <|
       (S9 n a0 (get a1.subs 0) a2).bind fun v24=>
       chk (jH v24 (1<(↑a1.subs.length:Int))) <|
       (gd v24 (S9 n a0 (get a1.subs 1) a2) default).bind fun v27=>
       some (bif v24 then v27 else false)
      else
       bif (decide (a1.kind=6))then
        chk (0<(↑a1.subs.length:Int)) <|
        (S9 n a0 (get a1.subs 0) a2).bind fun v29=>
        chk (jH (!v29) (1<(↑a1.subs.length:Int))) <|
        (gd (!v29) (S9 n a0 (get a1.subs 1) a2) default).bind fun v32=>
        some (bif v29 then true else v32)
       else
        bif (decide (a1.kind=7))then
         chk (0<(↑a1.subs.length:Int)) <|
         (S9 n a0 (get a1.subs 0) a2).bind fun v34=>
         chk (jH (!(!v34)) (1<(↑a1.subs.length:Int))) <|
         (gd (!(!v34)) (S9 n a0 (get a1.subs 1) a2) default).bind fun v37=>
         some (bif (!v34)then true else v37)
        else
         C2 (Y4 (fq n a0 a1 a2) n 0) (kM a1)
def iJ(n:Nat)(a0:B4)(a1:u5):Option (Bool×B0):=
 (cF a0).bind fun v1=>
 bif (!decide (v1.code=0))then
  some (false,v1)
 else
  (P2 n a1).bind fun v2=>
  bif (!decide (v2.code=0))then
   some (false,v2)
  else
   (jX n a0 a1).bind fun v3=>
   bif (!decide (v3.code=0))then
    some (false,v3)
   else
    (S9 n a0 a1 []).bind fun v4=>
    some (v4,(B0.mk 0 0))
def F2(s0:(List w7)×Bool×Int)(a1:Int)(a0:B4)(j2:(List w7)×Bool):Option (Ctl (Bool) ((List w7)×Bool×Int) ((List w7)×Bool)):=
 bif (!decide (s0.2.2=a1))then
  P6 (j2.1++[(get a0.relations s0.2.2.toNat)]) fun c28=>
  chk (c28.length*48≤top∧c28.length≤top) <|
  some (.nxt (c28,j2.2,(wr .i64 (s0.2.2+1))))
 else
  some (.nxt (j2.1,j2.2,(wr .i64 (s0.2.2+1))))
def G0(a0:B4)(a2:Bs)(a1:Int)(s0:(List w7)×Bool×Int):Option (Ctl (Bool) ((List w7)×Bool×Int) ((List w7)×Bool)):=
 bif (decide (s0.2.2<(↑a0.relations.length:Int)))then
  chk (0≤s0.2.2∧s0.2.2<(↑a0.relations.length:Int)) <|
  bif (bif (decide (((get a0.relations s0.2.2.toNat).name)=a2))then(decide (((get a0.relations s0.2.2.toNat).arity)=((get a0.relations a1.toNat).arity)))else false)then
   some (.ret true)
  else
   bif (bif (!s0.2.1)then(bif (!(Op.bytesLess ((get a0.relations s0.2.2.toNat).name) a2||decide (((get a0.relations s0.2.2.toNat).name)=a2)))then true else(bif (decide (((get a0.relations s0.2.2.toNat).name)=a2))then(decide (((get a0.relations a1.toNat).arity)<((get a0.relations s0.2.2.toNat).arity)))else false))else false)then
    P6 (s0.1++[(w7.mk a2 ((get a0.relations a1.toNat).arity) ((get a0.relations a1.toNat).tuples))]) fun c22=>
    chk (c22.length*48≤top∧c22.length≤top) <|
    F2 s0 a1 a0 (c22,true)
   else
    F2 s0 a1 a0 (s0.1,s0.2.1)
 else
  some (.brk (s0.1,s0.2.1))
def F1(n:Nat)(a0:B4)(a3:u5)(v5:u7×B0)(j3:(List w7)):Option (Bool):=
 (iJ n a0 a3).bind fun v39=>
 bif (!decide (v39.2.code=0))then
  some true
 else
  (cH n [v5.1] a3).bind fun v41=>
  bif (!decide (v41.2.code=0))then
   some false
  else
   (iJ n (B4.mk a0.size a0.constants j3) v41.1).bind fun v42=>
   some (bif (decide (v42.2.code=0))then(decide (v39.1=v42.1))else false)
def J3(n:Nat)(a2:Bs)(a0:B4)(a1:Int)(a3:u5)(v5:u7×B0)(t0:(List w7)×Bool):Option (Bool):=
 bif (!t0.2)then
  P6 (t0.1++[(w7.mk a2 ((get a0.relations a1.toNat).arity) ((get a0.relations a1.toNat).tuples))]) fun c34=>
  chk (c34.length*48≤top∧c34.length≤top) <|
  F1 n a0 a3 v5 c34
 else
  F1 n a0 a3 v5 t0.1
def L4(n:Nat)(a0:B4)(a1:Int)(a2:Bs)(a3:u5):Option (Bool):=
 (H7 n).bind fun v1=>
 bif (!v1)then
  some false
 else
  (gd (!(bif (decide (a1<0))then true else(decide ((↑a0.relations.length:Int)≤a1)))) (cF a0) default).bind fun v2=>
  bif (bif (bif (decide (a1<0))then true else(decide ((↑a0.relations.length:Int)≤a1)))then true else(!decide (v2.code=0)))then
   some true
  else
   chk (0≤a1∧a1<(↑a0.relations.length:Int)) <|
   (bY n ((get a0.relations a1.toNat).name) a2 ((get a0.relations a1.toNat).arity)).bind fun v5=>
   bif (!decide (v5.2.code=0))then
    some true
   else
    C2 (Y4 (G0 a0 a2 a1) n ([],false,0)) (J3 n a2 a0 a1 a3 v5)
end Go.Proofs.YtanlbioodbnakaaGreatDoor
