import Derived.Test.YtfacbpehlibilaaGreatDoorTZStrs
import Derived.Test.YtfacbpehlibilaaGreatDoorTZCat
import Derived.Test.YtfacbpehlibilaaGreatDoorTZCmp
set_option linter.unusedVariables false
set_option linter.unusedSimpArgs false
namespace Go.Proofs.YtfacbpehlibilaaGreatDoor
open Go Go.Am
def qc(a0:u7)(a1:u7):Option (Int):=
 some (wr .i64 (a0.at_-a1.at_))
def E9(a0:Bs)(a1:(List Bs)):Option (u5):=
 some (u5.mk 2 a0 a1 [])
def L2(a0:Int)(a1:u5)(a2:u5):Option (u5):=
 some (u5.mk a0 [] [] [a1,a2])
def C9(a0:Int)(a1:Int):Option (B1):=
 some (B1.mk a0 a1)
def T7(a0:Int)(B7:Int):Option (B1):=
 some (B1.mk a0 B7)
def bJ(j2:Bool):Option (Int):=
 bif j2 then
  some 2
 else
  some (-1)
def bI(a0:Int)(j1:Bool):Option (Int):=
 bif j1 then
  some 1
 else
  bif (decide (a0=5))then
   bJ (decide (a0=5))
  else
   bif (decide (a0=6))then
    bJ (decide (a0=6))
   else
    bJ (decide (a0=7))
def bH(a0:Int)(j0:Bool):Option (Int):=
 bif j0 then
  some 0
 else
  bif (decide (a0=4))then
   bI a0 (decide (a0=4))
  else
   bif (decide (a0=8))then
    bI a0 (decide (a0=8))
   else
    bI a0 (decide (a0=9))
def iF(a0:Int):Option (Int):=
 bif (decide (a0=1))then
  bH a0 (decide (a0=1))
 else
  bif (decide (a0=2))then
   bH a0 (decide (a0=2))
  else
   bH a0 (decide (a0=3))
def C5(a0:u5):Option (Bool):=
 some (bif (decide (a0.kind=8))then true else(decide (a0.kind=9)))
def jY(a0:Bs)(k0:Nat)(s0:Unit):Option (Ctl (Bool) (Unit) (Unit)):=
 bif (!(bif (bif (bif (bif (decide (97≤(L4 a0 (↑k0:Int))))then(decide ((L4 a0 (↑k0:Int))≤122))else false)then true else(bif (decide (48≤(L4 a0 (↑k0:Int))))then(decide ((L4 a0 (↑k0:Int))≤57))else false))then true else(decide ((L4 a0 (↑k0:Int))=95)))then true else(decide ((L4 a0 (↑k0:Int))=45))))then
  some (.ret false)
 else
  some (.nxt ())
def jZ(t0:Unit):Option (Bool):=
 some true
def termName(a0:Bs):Option (Bool):=
 chk (zj (!(bif (decide ((↑a0.length:Int)=0))then true else(decide (30<(↑a0.length:Int))))) (0<(↑a0.length:Int))) <|
 chk (zj (!(bif (bif (decide ((↑a0.length:Int)=0))then true else(decide (30<(↑a0.length:Int))))then true else(decide ((L4 a0 0)<97)))) (0<(↑a0.length:Int))) <|
 bif (bif (bif (bif (decide ((↑a0.length:Int)=0))then true else(decide (30<(↑a0.length:Int))))then true else(decide ((L4 a0 0)<97)))then true else(decide (122<(L4 a0 0))))then
  some false
 else
  chk (a0.length≤9223372036854775807) <|
  C1 (F2 (jY a0) a0.length ()) (jZ)
def dh(a0:u5)(B7:Int)(k2:Nat)(s2:Unit):Option (Ctl (B1×Int) (Unit) (Unit)):=
 (termName (get a0.words k2)).bind fun v9=>
 bif (!v9)then
  (T7 10 B7).bind fun v10=>
  some (.ret (v10,(wr .i64 (B7+1))))
 else
  some (.nxt ())
def dn(self:(u5)→(Int)→(Int)→(Bool)→Option (B1×Int))(a0:u5)(a1:Int)(V4:Bool)(k3:Nat)(s3:Int):Option (Ctl (B1×Int) (Int) (Int)):=
 (self (get a0.subs k3) (wr .i64 (a1+1)) s3 V4).bind fun v12=>
 bif (!decide (v12.1.code=0))then
  some (.ret (v12.1,v12.2))
 else
  some (.nxt v12.2)
def dr(t3:Int):Option (B1×Int):=
 some ((B1.mk 0 0),t3)
def dj(self:(u5)→(Int)→(Int)→(Bool)→Option (B1×Int))(a0:u5)(a1:Int)(V4:Bool)(B7:Int)(t2:Unit):Option (B1×Int):=
 C1 (F2 (dn self a0 a1 V4) a0.subs.length (wr .i64 (B7+1))) (dr)
def R7(self:(u5)→(Int)→(Int)→(Bool)→Option (B1×Int))(a0:u5)(j0:Int)(B7:Int)(a1:Int)(V4:Bool)(j1:Bool):Option (B1×Int):=
 bif (bif (!decide ((↑a0.subs.length:Int)=j0))then true else(!j1))then
  (T7 9 B7).bind fun v4=>
  some (v4,(wr .i64 (B7+1)))
 else
  (gd (!(decide (a0.kind=2))) (C5 a0) default).bind fun v5=>
  (gd (bif (bif (decide (a0.kind=2))then true else v5)then true else(decide (a0.kind=10))) (termName a0.name) default).bind fun v6=>
  bif (bif (bif (bif (decide (a0.kind=2))then true else v5)then true else(decide (a0.kind=10)))then(!v6)else false)then
   (T7 10 B7).bind fun v7=>
   some (v7,(wr .i64 (B7+1)))
  else
   bif (bif (!(bif (bif (decide (a0.kind=2))then true else v5)then true else(decide (a0.kind=10))))then(!decide (a0.name=[]))else false)then
    (T7 5 B7).bind fun v8=>
    some (v8,(wr .i64 (B7+1)))
   else
    C1 (F2 (dh a0 B7) a0.words.length ()) (dj self a0 a1 V4 B7)
def W0(self:(u5)→(Int)→(Int)→(Bool)→Option (B1×Int))(B7:Int)(a0:u5)(a1:Int)(V4:Bool)(j0:Int):Option (B1×Int):=
 bif (decide (j0<0))then
  (T7 4 B7).bind fun v3=>
  some (v3,(wr .i64 (B7+1)))
 else
  bif (decide (a0.kind=2))then
   R7 self a0 j0 B7 a1 V4 (decide ((↑a0.words.length:Int)≤3))
  else
   bif (decide (a0.kind=3))then
    R7 self a0 j0 B7 a1 V4 (decide ((↑a0.words.length:Int)=2))
   else
    R7 self a0 j0 B7 a1 V4 (decide ((↑a0.words.length:Int)=0))
def J5:Nat→(u5)→(Int)→(Int)→(Bool)→Option (B1×Int)
 |0,_,_,_,_=>none
 |n+1,a0,a1,B7,V4=>
  bif (bif (decide (200<(wr .i64 (B7+1))))then true else(decide (40<a1)))then
   (T7 1 B7).bind fun v1=>
   some (v1,(wr .i64 (B7+1)))
  else
   (iF a0.kind).bind fun v2=>
   bif (bif (decide (a0.kind=10))then V4 else false)then
    W0 (J5 n) B7 a0 a1 V4 0
   else
    W0 (J5 n) B7 a0 a1 V4 v2
def iX(n:Nat)(a0:u5)(a1:Bool):Option (B1):=
 (J5 n a0 1 0 a1).bind fun v1=>
 some v1.1
def Q6(n:Nat)(a0:u5):Option (B1):=
 (iX n a0 false).bind fun v1=>
 some v1
def R3(a0:w9):Option ((List Bs)):=
 (oU [a0.words,a0.C4,a0.parts]).bind fun v2=>
 some v2
def J2(a0:Int)(a1:Int):Option (B1):=
 some (B1.mk a0 a1)
def O4(a1:Bs)(a0:(List Bs))(k0:Nat)(s0:Unit):Option (Ctl (Int) (Unit) (Unit)):=
 bif (decide (a1=(get a0 k0)))then
  some (.ret (↑k0:Int))
 else
  some (.nxt ())
def O5(t0:Unit):Option (Int):=
 some (-1)
def S8(a0:(List Bs))(a1:Bs):Option (Int):=
 C1 (F2 (O4 a1 a0) a0.length ()) (O5)
def A0(a0:(List Bs))(a1:Bs):Option (Bool):=
 (S8 a0 a1).bind fun v1=>
 some (decide (0≤v1))
def S2(a1:(List Bs))(a0:u5)(k0:Nat)(s0:(List Bs)):Option (Ctl ((List Bs)) ((List Bs)) ((List Bs))):=
 (A0 a1 (get a0.words k0)).bind fun v8=>
 bif (!v8)then
  Q8 (s0++[(get a0.words k0)]) fun c10=>
  chk (c10.length*16≤top∧c10.length≤top) <|
  some (.nxt c10)
 else
  some (.nxt s0)
def S4(self:(u5)→((List Bs))→((List Bs))→Option ((List Bs)))(a0:u5)(j1:(List Bs))(k2:Nat)(s2:(List Bs)):Option (Ctl ((List Bs)) ((List Bs)) ((List Bs))):=
 (self (get a0.subs k2) j1 s2).bind fun v26=>
 some (.nxt v26)
def S5(t2:(List Bs)):Option ((List Bs)):=
 some t2
def G9(self:(u5)→((List Bs))→((List Bs))→Option ((List Bs)))(a0:u5)(t0:(List Bs))(j1:(List Bs)):Option ((List Bs)):=
 C1 (F2 (S4 self a0 j1) a0.subs.length t0) (S5)
def S6(self:(u5)→((List Bs))→((List Bs))→Option ((List Bs)))(a0:u5)(a1:(List Bs))(t0:(List Bs)):Option ((List Bs)):=
 (C5 a0).bind fun v15=>
 bif v15 then
  chk (0≤(↑a1.length:Int)∧0≤(↑a1.length:Int)) <|
  Q8 (a1++[a0.name]) fun c19=>
  chk (c19.length*16≤top∧c19.length≤top) <|
  G9 self a0 t0 c19
 else
  G9 self a0 t0 a1
def E7:Nat→(u5)→((List Bs))→((List Bs))→Option ((List Bs))
 |0,_,_,_=>none
 |n+1,a0,a1,l1=>
  C1 (F2 (S2 a1 a0) a0.words.length l1) (S6 (E7 n) a0 a1)
def H8(l0:(List Bs)):Option ((List Bs)):=
 chk (l0.length<4611686018427387904) (some (jH cfB l0))
def K6(l0:(List Bs)):Option (List Bs):=
 chk (l0.length≤9223372036854775807) (some (cpt l0))
def N8(n:Nat)(a0:u5):Option ((List Bs)):=
 (E7 n a0 [] []).bind fun v1=>
 (H8 v1).bind fun v3=>
 (K6 v3).bind fun v5=>
 some (Lib.compact v3)
def dx(self:(u5)→(Bs)→Option (Bool×Bool))(a0:u5)(a1:Bs)(k1:Nat)(s1:Bool×Bool):Option (Ctl (Bool×Bool) (Bool×Bool) (Bool×Bool)):=
 (self (get a0.subs k1) a1).bind fun v2=>
 some (.nxt ((bif s1.1 then true else v2.1),(bif s1.2 then true else v2.2)))
def dy(t1:Bool×Bool):Option (Bool×Bool):=
 some (t1.1,t1.2)
def W1(self:(u5)→(Bs)→Option (Bool×Bool))(a0:u5)(a1:Bs)(j0:Bool×Bool):Option (Bool×Bool):=
 C1 (F2 (dx self a0 a1) a0.subs.length (j0.1,j0.2)) (dy)
def P5:Nat→(u5)→(Bs)→Option (Bool×Bool)
 |0,_,_=>none
 |n+1,a0,a1=>
  bif (bif (decide (a0.kind=2))then(decide (a0.name=a1))else false)then
   W1 (P5 n) a0 a1 ((decide (0<(↑a0.words.length:Int))),(decide ((↑a0.words.length:Int)=0)))
  else
   W1 (P5 n) a0 a1 (false,false)
def S9(self:(u5)→Option ((List Bs)))(a0:u5)(k1:Nat)(s1:(List Bs)):Option (Ctl ((List Bs)) ((List Bs)) ((List Bs))):=
 (self (get a0.subs k1)).bind fun v14=>
 Q8 (s1++v14) fun c15=>
 chk (c15.length*16≤top∧c15.length≤top) <|
 some (.nxt c15)
def T2(t1:(List Bs)):Option ((List Bs)):=
 some t1
def J6(self:(u5)→Option ((List Bs)))(a0:u5)(j0:(List Bs)):Option ((List Bs)):=
 C1 (F2 (S9 self a0) a0.subs.length j0) (T2)
def C0:Nat→(u5)→Option ((List Bs))
 |0,_=>none
 |n+1,a0=>
  (C5 a0).bind fun v1=>
  bif v1 then
   Q8 ([]++[a0.name]) fun c3=>
   chk (c3.length*16≤top∧c3.length≤top) <|
   J6 (C0 n) a0 c3
  else
   J6 (C0 n) a0 []
def Z9(n:Nat)(v2:(List Bs))(a0:w9)(v4:(List Bs))(k0:Nat)(s0:Unit):Option (Ctl (B1) (Unit) (Unit)):=
 (termName (get v2 k0)).bind fun v17=>
 bif (!v17)then
  (J2 10 (↑k0:Int)).bind fun v18=>
  some (.ret v18)
 else
  chk (0≤(↑k0:Int)∧k0≤v2.length) <|
  (A0 (v2.take k0) (get v2 k0)).bind fun v21=>
  bif v21 then
   (J2 7 (↑k0:Int)).bind fun v22=>
   some (.ret v22)
  else
   (P5 n a0.form (get v2 k0)).bind fun v23=>
   bif (decide ((↑k0:Int)<(↑a0.words.length:Int)))then
    (A0 v4 (get v2 k0)).bind fun v24=>
    bif (!v24)then
     (J2 15 (↑k0:Int)).bind fun v25=>
     some (.ret v25)
    else
     some (.nxt ())
   else
    bif (decide ((↑k0:Int)<(wr .i64 ((↑a0.words.length:Int)+(↑a0.C4.length:Int)))))then
     bif (bif (!v23.1)then(!v23.2)else false)then
      (J2 15 (↑k0:Int)).bind fun v26=>
      some (.ret v26)
     else
      some (.nxt ())
    else
     bif v23.1 then
      (J2 5 (↑k0:Int)).bind fun v27=>
      some (.ret v27)
     else
      bif (!v23.2)then
       (J2 15 (↑k0:Int)).bind fun v28=>
       some (.ret v28)
      else
       some (.nxt ())
def aj(v29:(List Bs))(a0:w9)(k1:Nat)(s1:Unit):Option (Ctl (B1) (Unit) (Unit)):=
 chk (0≤(↑k1:Int)∧k1≤v29.length) <|
 (A0 (v29.take k1) (get v29 k1)).bind fun v37=>
 (gd (!v37) (A0 a0.words (get v29 k1)) default).bind fun v38=>
 bif (bif v37 then true else v38)then
  (J2 7 (-1)).bind fun v39=>
  some (.ret v39)
 else
  some (.nxt ())
def ak(t1:Unit):Option (B1):=
 some (B1.mk 0 0)
def ah(n:Nat)(a0:w9)(t0:Unit):Option (B1):=
 (C0 n a0.form).bind fun v29=>
 C1 (F2 (aj v29 a0) v29.length ()) (ak)
def ay(n:Nat)(a0:w9):Option (B1):=
 (Q6 n a0.form).bind fun v1=>
 bif (!decide (v1.code=0))then
  some v1
 else
  (R3 a0).bind fun v2=>
  bif (decide (300<(↑v2.length:Int)))then
   (J2 2 (-1)).bind fun v3=>
   some v3
  else
   (N8 n a0.form).bind fun v4=>
   C1 (F2 (Z9 n v2 a0 v4) v2.length ()) (ah n a0)
def D4(a0:w9)(a1:u5):Option (Bool):=
 (gd (bif (decide (a1.kind=2))then(decide ((↑a1.words.length:Int)=0))else false) (A0 a0.parts a1.name) default).bind fun v1=>
 some (bif (bif (decide (a1.kind=2))then(decide ((↑a1.words.length:Int)=0))else false)then v1 else false)
def T4(a0:(List Bs)):Option (List Bs):=
 some a0
def D6(a0 l0:(List Bs)):Option (List Bs):=
 bif l0.isEmpty then some a0 else none
def eX(self:(u5)→((List Bs))→(Int)→(Bs)→((List Bs))→((List u5))→((List Bs))→((List Bs))→((List Bs))→((List (Bs×(List Bs))))→Option (Unit))(a0:u5)(j1:(List Bs))(B7:Int)(M6:Bs)(M7:(List Bs))(D7:(List u5))(L3:(List Bs))(M4:(List Bs))(M8:(List Bs))(m2:(List (Bs×(List Bs))))(k2:Nat)(s2:Unit):Option (Ctl (Unit) (Unit) (Unit)):=
 (self (get a0.subs k2) j1 B7 M6 M7 D7 L3 M4 M8 m2).bind fun v11=>
 some (.nxt ())
def eY(t2:Unit):Option (Unit):=
 some ()
def R5(self:(u5)→((List Bs))→(Int)→(Bs)→((List Bs))→((List u5))→((List Bs))→((List Bs))→((List Bs))→((List (Bs×(List Bs))))→Option (Unit))(a0:u5)(B7:Int)(M6:Bs)(M7:(List Bs))(D7:(List u5))(L3:(List Bs))(M4:(List Bs))(M8:(List Bs))(m2:(List (Bs×(List Bs))))(j1:(List Bs)):Option (Unit):=
 C1 (F2 (eX self a0 j1 B7 M6 M7 D7 L3 M4 M8 m2) a0.subs.length ()) (eY)
def R4(self:(u5)→((List Bs))→(Int)→(Bs)→((List Bs))→((List u5))→((List Bs))→((List Bs))→((List Bs))→((List (Bs×(List Bs))))→Option (Unit))(a0:u5)(a1:(List Bs))(B7:Int)(M6:Bs)(M7:(List Bs))(D7:(List u5))(L3:(List Bs))(M4:(List Bs))(M8:(List Bs))(m2:(List (Bs×(List Bs))))(j0:Unit):Option (Unit):=
 (C5 a0).bind fun v3=>
 bif v3 then
  (D6 a1 []).bind fun v4=>
  Q8 (v4++[a0.name]) fun c6=>
  chk (c6.length*16≤top∧c6.length≤top) <|
  R5 self a0 B7 M6 M7 D7 L3 M4 M8 m2 c6
 else
  R5 self a0 B7 M6 M7 D7 L3 M4 M8 m2 a1
def K7:Nat→(u5)→((List Bs))→(Int)→(Bs)→((List Bs))→((List u5))→((List Bs))→((List Bs))→((List Bs))→((List (Bs×(List Bs))))→Option (Unit)
 |0,_,_,_,_,_,_,_,_,_,_=>none
 |n+1,a0,a1,B7,M6,M7,D7,L3,M4,M8,m2=>
  (D4 (w9.mk (u5.mk B7 M6 M7 D7) L3 M4 M8) a0).bind fun v1=>
  bif v1 then
   none
  else
   R4 (K7 n) a0 a1 B7 M6 M7 D7 L3 M4 M8 m2 ()
def cX(n:Nat)(a0:w9):Option ((List (Bs×(List Bs)))):=
 (K7 n a0.form [] a0.form.kind a0.form.name a0.form.words a0.form.subs a0.words a0.C4 a0.parts []).bind fun v1=>
 some []
def cJ(B5:(u5)→((List Bs))→(Int)→(Bs)→((List Bs))→((List u5))→((List Bs))→((List Bs))→((List Bs))→(Int)→(Bs)→((List Bs))→((List u5))→((List (Bs×(List Bs))))→((List Bs))→Option (Bool))(a0:u5)(V4:Int)(tJ:Bs)(tK:(List Bs))(tL:(List u5))(tM:(List Bs))(tN:(List Bs))(tO:(List Bs))(tP:Int)(tQ:Bs)(tR:(List Bs))(iN:(List u5))(m3:(List (Bs×(List Bs))))(V6:(List Bs))(aQ:(List Bs)):Option (Bool):=
 (B5 a0 aQ V4 tJ tK tL tM tN tO tP tQ tR iN m3 V6).bind fun v1=>
 some v1
def I5(B5:(u5)→((List Bs))→(Int)→(Bs)→((List Bs))→((List u5))→((List Bs))→((List Bs))→((List Bs))→(Int)→(Bs)→((List Bs))→((List u5))→((List (Bs×(List Bs))))→((List Bs))→Option (Bool))(a0:(List u5))(V4:Int)(tJ:Bs)(tK:(List Bs))(tL:(List u5))(tM:(List Bs))(tN:(List Bs))(tO:(List Bs))(tP:Int)(tQ:Bs)(tR:(List Bs))(iN:(List u5))(m3:(List (Bs×(List Bs))))(V6:(List Bs))(aQ:(List Bs))(k0:Nat)(s0:Unit):Option (Ctl (Int) (Unit) (Unit)):=
 (cJ B5 (get a0 k0) V4 tJ tK tL tM tN tO tP tQ tR iN m3 V6 aQ).bind fun v1=>
 bif v1 then
  some (.ret (↑k0:Int))
 else
  some (.nxt ())
def O1(t0:Unit):Option (Int):=
 some (-1)
def G5(B5:(u5)→((List Bs))→(Int)→(Bs)→((List Bs))→((List u5))→((List Bs))→((List Bs))→((List Bs))→(Int)→(Bs)→((List Bs))→((List u5))→((List (Bs×(List Bs))))→((List Bs))→Option (Bool))(a0:(List u5))(V4:Int)(tJ:Bs)(tK:(List Bs))(tL:(List u5))(tM:(List Bs))(tN:(List Bs))(tO:(List Bs))(tP:Int)(tQ:Bs)(tR:(List Bs))(iN:(List u5))(m3:(List (Bs×(List Bs))))(V6:(List Bs))(aQ:(List Bs)):Option (Int):=
 C1 (F2 (I5 B5 a0 V4 tJ tK tL tM tN tO tP tQ tR iN m3 V6 aQ) a0.length ()) (O1)
def F8(B5:(u5)→((List Bs))→(Int)→(Bs)→((List Bs))→((List u5))→((List Bs))→((List Bs))→((List Bs))→(Int)→(Bs)→((List Bs))→((List u5))→((List (Bs×(List Bs))))→((List Bs))→Option (Bool))(a0:(List u5))(V4:Int)(tJ:Bs)(tK:(List Bs))(tL:(List u5))(tM:(List Bs))(tN:(List Bs))(tO:(List Bs))(tP:Int)(tQ:Bs)(tR:(List Bs))(iN:(List u5))(m3:(List (Bs×(List Bs))))(V6:(List Bs))(aQ:(List Bs)):Option (Bool):=
 (G5 B5 a0 V4 tJ tK tL tM tN tO tP tQ tR iN m3 V6 aQ).bind fun v1=>
 some (decide (0≤v1))
def U6(Y9:(List Bs))(a0:u5)(a1:(List Bs))(k2:Nat)(s2:Unit):Option (Ctl (Bool) (Unit) (Unit)):=
 (A0 Y9 (get a0.words k2)).bind fun v5=>
 (gd v5 (A0 a1 (get a0.words k2)) default).bind fun v6=>
 bif (bif v5 then(!v6)else false)then
  some (.ret true)
 else
  some (.nxt ())
def L1(self:(u5)→((List Bs))→(Int)→(Bs)→((List Bs))→((List u5))→((List Bs))→((List Bs))→((List Bs))→(Int)→(Bs)→((List Bs))→((List u5))→((List (Bs×(List Bs))))→((List Bs))→Option (Bool))(a0:u5)(B7:Int)(M6:Bs)(M7:(List Bs))(D7:(List u5))(L3:(List Bs))(M4:(List Bs))(M8:(List Bs))(cQ:Int)(cR:Bs)(cS:(List Bs))(K0:(List u5))(m2:(List (Bs×(List Bs))))(Y9:(List Bs))(j3:(List Bs)):Option (Bool):=
 (F8 self a0.subs B7 M6 M7 D7 L3 M4 M8 cQ cR cS K0 m2 Y9 j3).bind fun v15=>
 some v15
def U7(self:(u5)→((List Bs))→(Int)→(Bs)→((List Bs))→((List u5))→((List Bs))→((List Bs))→((List Bs))→(Int)→(Bs)→((List Bs))→((List u5))→((List (Bs×(List Bs))))→((List Bs))→Option (Bool))(a0:u5)(a1:(List Bs))(B7:Int)(M6:Bs)(M7:(List Bs))(D7:(List u5))(L3:(List Bs))(M4:(List Bs))(M8:(List Bs))(cQ:Int)(cR:Bs)(cS:(List Bs))(K0:(List u5))(m2:(List (Bs×(List Bs))))(Y9:(List Bs))(t2:Unit):Option (Bool):=
 (C5 a0).bind fun v7=>
 bif v7 then
  (D6 a1 []).bind fun v8=>
  Q8 (v8++[a0.name]) fun c10=>
  chk (c10.length*16≤top∧c10.length≤top) <|
  L1 self a0 B7 M6 M7 D7 L3 M4 M8 cQ cR cS K0 m2 Y9 c10
 else
  L1 self a0 B7 M6 M7 D7 L3 M4 M8 cQ cR cS K0 m2 Y9 a1
def P2(self:(u5)→((List Bs))→(Int)→(Bs)→((List Bs))→((List u5))→((List Bs))→((List Bs))→((List Bs))→(Int)→(Bs)→((List Bs))→((List u5))→((List (Bs×(List Bs))))→((List Bs))→Option (Bool))(Y9:(List Bs))(a0:u5)(a1:(List Bs))(B7:Int)(M6:Bs)(M7:(List Bs))(D7:(List u5))(L3:(List Bs))(M4:(List Bs))(M8:(List Bs))(cQ:Int)(cR:Bs)(cS:(List Bs))(K0:(List u5))(m2:(List (Bs×(List Bs))))(j0:Unit):Option (Bool):=
 C1 (F2 (U6 Y9 a0 a1) a0.words.length ()) (U7 self a0 a1 B7 M6 M7 D7 L3 M4 M8 cQ cR cS K0 m2 Y9)
def dM(a1:(List Bs))(a0:u5)(m2:(List (Bs×(List Bs))))(k1:Nat)(s1:Unit):Option (Ctl (Bool) (Unit) (Unit)):=
 (A0 a1 (get ((assoc a0.name m2).getD default) k1)).bind fun v2=>
 bif (!v2)then
  some (.ret true)
 else
  some (.nxt ())
def dN(self:(u5)→((List Bs))→(Int)→(Bs)→((List Bs))→((List u5))→((List Bs))→((List Bs))→((List Bs))→(Int)→(Bs)→((List Bs))→((List u5))→((List (Bs×(List Bs))))→((List Bs))→Option (Bool))(Y9:(List Bs))(a0:u5)(a1:(List Bs))(B7:Int)(M6:Bs)(M7:(List Bs))(D7:(List u5))(L3:(List Bs))(M4:(List Bs))(M8:(List Bs))(cQ:Int)(cR:Bs)(cS:(List Bs))(K0:(List u5))(m2:(List (Bs×(List Bs))))(t1:Unit):Option (Bool):=
 P2 self Y9 a0 a1 B7 M6 M7 D7 L3 M4 M8 cQ cR cS K0 m2 ()
def E8:Nat→(u5)→((List Bs))→(Int)→(Bs)→((List Bs))→((List u5))→((List Bs))→((List Bs))→((List Bs))→(Int)→(Bs)→((List Bs))→((List u5))→((List (Bs×(List Bs))))→((List Bs))→Option (Bool)
 |0,_,_,_,_,_,_,_,_,_,_,_,_,_,_,_=>none
 |n+1,a0,a1,B7,M6,M7,D7,L3,M4,M8,cQ,cR,cS,K0,m2,Y9=>
  (D4 (w9.mk (u5.mk B7 M6 M7 D7) L3 M4 M8) a0).bind fun v1=>
  bif v1 then
   C1 (F2 (dM a1 a0 m2) (((assoc a0.name m2).getD default).length) ()) (dN (E8 n) Y9 a0 a1 B7 M6 M7 D7 L3 M4 M8 cQ cR cS K0 m2)
  else
   P2 (E8 n) Y9 a0 a1 B7 M6 M7 D7 L3 M4 M8 cQ cR cS K0 m2 ()
def U5(n:Nat)(a0:u6):Option (Bool):=
 (cX n a0.from_).bind fun v1=>
 (C0 n a0.from_.form).bind fun v2=>
 (E8 n a0.to_ [] a0.from_.form.kind a0.from_.form.name a0.from_.form.words a0.from_.form.subs a0.from_.words a0.from_.C4 a0.from_.parts a0.to_.kind a0.to_.name a0.to_.words a0.to_.subs v1 v2).bind fun v3=>
 some v3
def bB(v27:(List Bs))(a0:(List u6))(k0:Nat)(k2:Nat)(s2:Unit):Option (Ctl (Ctl (B1) (Unit) (Unit)) (Unit) (Unit)):=
 chk (0≤(↑k2:Int)∧k2≤v27.length) <|
 (A0 (v27.take k2) (get v27 k2)).bind fun v35=>
 (gd (!v35) (A0 ((get a0 k0).from_.words) (get v27 k2)) default).bind fun v36=>
 bif (bif v35 then true else v36)then
  (C9 7 (↑k0:Int)).bind fun v37=>
  some (.ret (.ret v37))
 else
  some (.nxt ())
def U9(n:Nat)(a0:(List u6))(k0:Nat)(t2:Unit):Option (Ctl (B1) (Unit) (Unit)):=
 (U5 n (get a0 k0)).bind fun v38=>
 bif v38 then
  (C9 15 (↑k0:Int)).bind fun v39=>
  some (.ret v39)
 else
  some (.nxt ())
def U8(n:Nat)(a0:(List u6))(k0:Nat)(s0:Unit):Option (Ctl (B1) (Unit) (Unit)):=
 (ay n ((get a0 k0).from_)).bind fun v21=>
 bif (!decide (v21.code=0))then
  (C9 v21.code (↑k0:Int)).bind fun v22=>
  some (.ret v22)
 else
  (D4 ((get a0 k0).from_) ((get a0 k0).from_.form)).bind fun v23=>
  bif v23 then
   (C9 5 (↑k0:Int)).bind fun v24=>
   some (.ret v24)
  else
   (Q6 n ((get a0 k0).to_)).bind fun v25=>
   bif (!decide (v25.code=0))then
    (C9 v25.code (↑k0:Int)).bind fun v26=>
    some (.ret v26)
   else
    (C0 n ((get a0 k0).to_)).bind fun v27=>
    C1 (F2 (bB v27 a0 k0) v27.length ()) (U9 n a0 k0)
def bC(t0:Unit):Option (B1):=
 some (B1.mk 0 0)
def R9(n:Nat)(a0:(List u6)):Option (B1):=
 bif (decide (40<(↑a0.length:Int)))then
  (C9 2 (-1)).bind fun v1=>
  some v1
 else
  C1 (F2 (U8 n a0) a0.length ()) (bC)
def cG(n:Nat)(a0:(List u6))(a1:u5):Option (B1):=
 (R9 n a0).bind fun v1=>
 bif (!decide (v1.code=0))then
  some v1
 else
  (Q6 n a1).bind fun v2=>
  some v2
def U4(B7:(List u6))(D7:Int)(m1:(List (Bs×Int)))(l2:(List u7)):Option (Bs×Int):=
 (itoa (wr .i64 (D7+1))).bind fun v1=>
 chk (M5 [63] v1) <|
 some ((lP [63] v1),(wr .i64 (D7+1)))
def W9(a1:u5)(m3:(List (Bs×Bs)))(k0:Nat)(s0:(List Bs)):Option (Ctl (u5×Int) ((List Bs)) ((List Bs))):=
 bif (assoc (get a1.words k0) m3).isSome then
  Q8 (s0++[((assoc (get a1.words k0) m3).getD default)]) fun c14=>
  chk (c14.length*16≤top∧c14.length≤top) <|
  some (.nxt c14)
 else
  Q8 (s0++[(get a1.words k0)]) fun c20=>
  chk (c20.length*16≤top∧c20.length≤top) <|
  some (.nxt c20)
def Y1(self:(u5)→((List u6))→(Int)→((List (Bs×Int)))→((List u7))→((List (Bs×Bs)))→Option (u5×Int))(a1:u5)(B7:(List u6))(m1:(List (Bs×Int)))(l2:(List u7))(c27:(List (Bs×Bs)))(k1:Nat)(s1:Int×(List u5)):Option (Ctl (u5×Int) (Int×(List u5)) (Int×(List u5))):=
 (self (get a1.subs k1) B7 s1.1 m1 l2 c27).bind fun v36=>
 Q8 (s1.2++[v36.1]) fun c38=>
 chk (c38.length*72≤top∧c38.length≤top) <|
 some (.nxt (v36.2,c38))
def Y2(a1:u5)(v26:Bs×Int)(t0:(List Bs))(t1:Int×(List u5)):Option (u5×Int):=
 some ((u5.mk a1.kind v26.1 t0 t1.2),t1.1)
def Y3(self:(u5)→((List u6))→(Int)→((List (Bs×Int)))→((List u7))→((List (Bs×Bs)))→Option (u5×Int))(a1:u5)(B7:(List u6))(m1:(List (Bs×Int)))(l2:(List u7))(m3:(List (Bs×Bs)))(k2:Nat)(s2:Int×(List u5)):Option (Ctl (u5×Int) (Int×(List u5)) (Int×(List u5))):=
 (self (get a1.subs k2) B7 s2.1 m1 l2 m3).bind fun v50=>
 Q8 (s2.2++[v50.1]) fun c52=>
 chk (c52.length*72≤top∧c52.length≤top) <|
 some (.nxt (v50.2,c52))
def Y4(a1:u5)(t0:(List Bs))(t2:Int×(List u5)):Option (u5×Int):=
 some ((u5.mk a1.kind a1.name t0 t2.2),t2.1)
def Y0(self:(u5)→((List u6))→(Int)→((List (Bs×Int)))→((List u7))→((List (Bs×Bs)))→Option (u5×Int))(a1:u5)(B7:(List u6))(D7:Int)(m1:(List (Bs×Int)))(l2:(List u7))(m3:(List (Bs×Bs)))(t0:(List Bs)):Option (u5×Int):=
 (C5 a1).bind fun v25=>
 bif v25 then
  (U4 B7 D7 m1 l2).bind fun v26=>
  Q8 (B6 a1.name v26.1 m3) fun c27=>
  C1 (F2 (Y1 self a1 B7 m1 l2 c27) a1.subs.length (v26.2,[])) (Y2 a1 v26 t0)
 else
  C1 (F2 (Y3 self a1 B7 m1 l2 m3) a1.subs.length (D7,[])) (Y4 a1 t0)
def H9:Nat→(u5)→((List u6))→(Int)→((List (Bs×Int)))→((List u7))→((List (Bs×Bs)))→Option (u5×Int)
 |0,_,_,_,_,_,_=>none
 |n+1,a1,B7,D7,m1,l2,m3=>
  C1 (F2 (W9 a1 m3) a1.words.length []) (Y0 (H9 n) a1 B7 D7 m1 l2 m3)
def bk(a1:u5)(k0:Nat)(s0:(List Bs)):Option (Ctl (u5×Int) ((List Bs)) ((List Bs))):=
 bif false then
  Q8 (s0++[([]:Bs)]) fun c14=>
  chk (c14.length*16≤top∧c14.length≤top) <|
  some (.nxt c14)
 else
  Q8 (s0++[(get a1.words k0)]) fun c20=>
  chk (c20.length*16≤top∧c20.length≤top) <|
  some (.nxt c20)
def bq(n:Nat)(a1:u5)(B7:(List u6))(m1:(List (Bs×Int)))(l2:(List u7))(c27:(List (Bs×Bs)))(k1:Nat)(s1:Int×(List u5)):Option (Ctl (u5×Int) (Int×(List u5)) (Int×(List u5))):=
 (H9 n (get a1.subs k1) B7 s1.1 m1 l2 c27).bind fun v37=>
 Q8 (s1.2++[v37.1]) fun c39=>
 chk (c39.length*72≤top∧c39.length≤top) <|
 some (.nxt (v37.2,c39))
def br(a1:u5)(v26:Bs×Int)(t0:(List Bs))(t1:Int×(List u5)):Option (u5×Int):=
 some ((u5.mk a1.kind v26.1 t0 t1.2),t1.1)
def bw(self:(u5)→((List u6))→(Int)→((List (Bs×Int)))→((List u7))→Option (u5×Int))(a1:u5)(B7:(List u6))(m1:(List (Bs×Int)))(l2:(List u7))(k2:Nat)(s2:Int×(List u5)):Option (Ctl (u5×Int) (Int×(List u5)) (Int×(List u5))):=
 (self (get a1.subs k2) B7 s2.1 m1 l2).bind fun v51=>
 Q8 (s2.2++[v51.1]) fun c53=>
 chk (c53.length*72≤top∧c53.length≤top) <|
 some (.nxt (v51.2,c53))
def bA(a1:u5)(t0:(List Bs))(t2:Int×(List u5)):Option (u5×Int):=
 some ((u5.mk a1.kind a1.name t0 t2.2),t2.1)
def bn(self:(u5)→((List u6))→(Int)→((List (Bs×Int)))→((List u7))→Option (u5×Int))(n:Nat)(a1:u5)(B7:(List u6))(D7:Int)(m1:(List (Bs×Int)))(l2:(List u7))(t0:(List Bs)):Option (u5×Int):=
 (C5 a1).bind fun v25=>
 bif v25 then
  (U4 B7 D7 m1 l2).bind fun v26=>
  Q8 (B6 a1.name v26.1 []) fun c27=>
  C1 (F2 (bq n a1 B7 m1 l2 c27) a1.subs.length (v26.2,[])) (br a1 v26 t0)
 else
  C1 (F2 (bw self a1 B7 m1 l2) a1.subs.length (D7,[])) (bA a1 t0)
def N9:Nat→(u5)→((List u6))→(Int)→((List (Bs×Int)))→((List u7))→Option (u5×Int)
 |0,_,_,_,_,_=>none
 |n+1,a1,B7,D7,m1,l2=>
  C1 (F2 (bk a1) a1.words.length []) (bn (N9 n) n a1 B7 D7 m1 l2)
def aq(self:(u5)→(Bs)→((List u6))→(Int)→((List (Bs×Int)))→((List u7))→Option ((List (Bs×Int))))(a2:Bs)(a1:u5)(B7:(List u6))(D7:Int)(l2:(List u7))(k0:Nat)(s0:(List (Bs×Int))):Option (Ctl ((List (Bs×Int))) ((List (Bs×Int))) ((List (Bs×Int)))):=
 (itoa (↑k0:Int)).bind fun v6=>
 chk (M5 a2 v6) <|
 (self (get a1.subs k0) (lP a2 v6) B7 D7 s0 l2).bind fun v8=>
 some (.nxt v8)
def au(t0:(List (Bs×Int))):Option ((List (Bs×Int))):=
 some t0
def P1:Nat→(u5)→(Bs)→((List u6))→(Int)→((List (Bs×Int)))→((List u7))→Option ((List (Bs×Int)))
 |0,_,_,_,_,_,_=>none
 |n+1,a1,a2,B7,D7,m1,l2=>
  Q8 (B6 a2 (↑m1.length:Int) m1) fun c1=>
  C1 (F2 (aq (P1 n) a2 a1 B7 D7 l2) a1.subs.length c1) (au)
def aY(a1:(List Bs))(a0:u5)(L3:(List Bs))(k0:Nat)(s0:(List Bs)):Option (Ctl (u5) ((List Bs)) ((List Bs))):=
 (A0 a1 (get a0.words k0)).bind fun v23=>
 bif v23 then
  chk (M5 [63] (get a0.words k0)) <|
  Q8 (s0++[(lP [63] (get a0.words k0))]) fun c26=>
  chk (c26.length*16≤top∧c26.length≤top) <|
  some (.nxt c26)
 else
  (A0 L3 (get a0.words k0)).bind fun v31=>
  bif v31 then
   chk (M5 [46] (get a0.words k0)) <|
   Q8 (s0++[(lP [46] (get a0.words k0))]) fun c34=>
   chk (c34.length*16≤top∧c34.length≤top) <|
   some (.nxt c34)
  else
   Q8 (s0++[(get a0.words k0)]) fun c40=>
   chk (c40.length*16≤top∧c40.length≤top) <|
   some (.nxt c40)
def aZ(self:(u5)→((List Bs))→(Int)→(Bs)→((List Bs))→((List u5))→((List Bs))→((List Bs))→((List Bs))→Option (u5))(a0:u5)(j1:Bs×(List Bs))(B7:Int)(M6:Bs)(M7:(List Bs))(D7:(List u5))(L3:(List Bs))(M4:(List Bs))(M8:(List Bs))(k2:Nat)(s2:(List u5)):Option (Ctl (u5) ((List u5)) ((List u5))):=
 (self (get a0.subs k2) j1.2 B7 M6 M7 D7 L3 M4 M8).bind fun v65=>
 Q8 (s2++[v65]) fun c67=>
 chk (c67.length*72≤top∧c67.length≤top) <|
 some (.nxt c67)
def bf(a0:u5)(j1:Bs×(List Bs))(t0:(List Bs))(t2:(List u5)):Option (u5):=
 some (u5.mk a0.kind j1.1 t0 t2)
def I8(self:(u5)→((List Bs))→(Int)→(Bs)→((List Bs))→((List u5))→((List Bs))→((List Bs))→((List Bs))→Option (u5))(a0:u5)(B7:Int)(M6:Bs)(M7:(List Bs))(D7:(List u5))(L3:(List Bs))(M4:(List Bs))(M8:(List Bs))(t0:(List Bs))(j1:Bs×(List Bs)):Option (u5):=
 C1 (F2 (aZ self a0 j1 B7 M6 M7 D7 L3 M4 M8) a0.subs.length []) (bf a0 j1 t0)
def bg(self:(u5)→((List Bs))→(Int)→(Bs)→((List Bs))→((List u5))→((List Bs))→((List Bs))→((List Bs))→Option (u5))(a0:u5)(a1:(List Bs))(B7:Int)(M6:Bs)(M7:(List Bs))(D7:(List u5))(L3:(List Bs))(M4:(List Bs))(M8:(List Bs))(t0:(List Bs)):Option (u5):=
 (C5 a0).bind fun v45=>
 bif v45 then
  (D6 a1 []).bind fun v46=>
  Q8 (v46++[a0.name]) fun c48=>
  chk (c48.length*16≤top∧c48.length≤top) <|
  chk (M5 [63] a0.name) <|
  I8 self a0 B7 M6 M7 D7 L3 M4 M8 t0 ((lP [63] a0.name),c48)
 else
  (D4 (w9.mk (u5.mk B7 M6 M7 D7) L3 M4 M8) a0).bind fun v54=>
  bif v54 then
   chk (M5 [43] a0.name) <|
   I8 self a0 B7 M6 M7 D7 L3 M4 M8 t0 ((lP [43] a0.name),a1)
  else
   (gd (decide (a0.kind=2)) (A0 M4 a0.name) default).bind fun v56=>
   bif (bif (decide (a0.kind=2))then v56 else false)then
    chk (M5 [33] a0.name) <|
    I8 self a0 B7 M6 M7 D7 L3 M4 M8 t0 ((lP [33] a0.name),a1)
   else
    I8 self a0 B7 M6 M7 D7 L3 M4 M8 t0 (a0.name,a1)
def J3:Nat→(u5)→((List Bs))→(Int)→(Bs)→((List Bs))→((List u5))→((List Bs))→((List Bs))→((List Bs))→Option (u5)
 |0,_,_,_,_,_,_,_,_,_=>none
 |n+1,a0,a1,B7,M6,M7,D7,L3,M4,M8=>
  C1 (F2 (aY a1 a0 L3) a0.words.length []) (bg (J3 n) a0 a1 B7 M6 M7 D7 L3 M4 M8)
def bh(a0:Bs)(a1:(List Bs))(k0:Nat)(s0:(List Bs)):Option (Ctl ((List Bs)) ((List Bs)) ((List Bs))):=
 chk (M5 a0 (get a1 k0)) <|
 Q8 (s0++[(lP a0 (get a1 k0))]) fun c10=>
 chk (c10.length*16≤top∧c10.length≤top) <|
 some (.nxt c10)
def dO(t0:(List Bs)):Option ((List Bs)):=
 some t0
def R8(a0:Bs)(a1:(List Bs)):Option ((List Bs)):=
 C1 (F2 (bh a0 a1) a1.length []) (dO)
def cu(n:Nat)(a0:w9):Option (w9):=
 (J3 n a0.form [] a0.form.kind a0.form.name a0.form.words a0.form.subs a0.words a0.C4 a0.parts).bind fun v1=>
 (R8 [46] a0.words).bind fun v2=>
 (R8 [33] a0.C4).bind fun v3=>
 (R8 [43] a0.parts).bind fun v4=>
 some (w9.mk v1 v2 v3 v4)
def O6(a1:(List Bs))(a0:(List Bs))(k0:Nat)(s0:Unit):Option (Ctl (Bool) (Unit) (Unit)):=
 chk ((↑k0:Int)<(↑a1.length:Int)) <|
 bif (!decide ((get a0 k0)=(get a1 k0)))then
  some (.ret false)
 else
  some (.nxt ())
def O7(t0:Unit):Option (Bool):=
 some true
def J7(a0:(List Bs))(a1:(List Bs)):Option (Bool):=
 bif (!decide ((↑a0.length:Int)=(↑a1.length:Int)))then
  some false
 else
  C1 (F2 (O6 a1 a0) a0.length ()) (O7)
def fV(self:(u5)→(u5)→Option (Bool))(a1:u5)(a0:u5)(k0:Nat)(s0:Unit):Option (Ctl (Bool) (Unit) (Unit)):=
 chk ((↑k0:Int)<(↑a1.subs.length:Int)) <|
 (self (get a0.subs k0) (get a1.subs k0)).bind fun v4=>
 bif (!v4)then
  some (.ret false)
 else
  some (.nxt ())
def fW(t0:Unit):Option (Bool):=
 some true
def dL:Nat→(u5)→(u5)→Option (Bool)
 |0,_,_=>none
 |n+1,a0,a1=>
  (gd (!(bif (!decide (a0.kind=a1.kind))then true else(!decide (a0.name=a1.name)))) (J7 a0.words a1.words) default).bind fun v1=>
  bif (bif (bif (bif (!decide (a0.kind=a1.kind))then true else(!decide (a0.name=a1.name)))then true else(!v1))then true else(!decide ((↑a0.subs.length:Int)=(↑a1.subs.length:Int))))then
   some false
  else
   chk (a0.subs.length≤9223372036854775807) <|
   C1 (F2 (fV (dL n) a1 a0) a0.subs.length ()) (fW)
def U3(a1:Bs)(a2:Bs)(m0:(List (Bs×w5))):Option (Bool×(List (Bs×w5))):=
 bif (assoc a1 m0).isSome then
  some ((decide ((((assoc a1 m0).getD default).text)=a2)),m0)
 else
  Q8 (B6 a1 (w5.mk a1 a2 (u5.mk 0 [] [] [])) m0) fun c1=>
  some (true,c1)
def aJ(a1:u5)(a0:w9)(a2:u5)(k2:Nat)(s2:(List (Bs×w5))):Option (Ctl (Bool×(List (Bs×w5))) ((List (Bs×w5))) ((List (Bs×w5)))):=
 (gd (!(assoc (get a1.words k2) s2).isSome) (A0 a0.words (get a1.words k2)) default).bind fun v12=>
 bif (bif (assoc (get a1.words k2) s2).isSome then true else v12)then
  chk ((↑k2:Int)<(↑a2.words.length:Int)) <|
  (U3 (get a1.words k2) (get a2.words k2) s2).bind fun v14=>
  bif (!v14.1)then
   some (.ret (false,v14.2))
  else
   some (.nxt v14.2)
 else
  chk ((↑k2:Int)<(↑a2.words.length:Int)) <|
  bif (!decide ((get a1.words k2)=(get a2.words k2)))then
   some (.ret (false,s2))
  else
   some (.nxt s2)
def aL(self:(w9)→(u5)→(u5)→((List (Bs×w5)))→Option (Bool×(List (Bs×w5))))(a2:u5)(a0:w9)(a1:u5)(k3:Nat)(s3:(List (Bs×w5))):Option (Ctl (Bool×(List (Bs×w5))) ((List (Bs×w5))) ((List (Bs×w5)))):=
 chk ((↑k3:Int)<(↑a2.subs.length:Int)) <|
 (self a0 (get a1.subs k3) (get a2.subs k3) s3).bind fun v19=>
 bif (!v19.1)then
  some (.ret (false,v19.2))
 else
  some (.nxt v19.2)
def aM(t3:(List (Bs×w5))):Option (Bool×(List (Bs×w5))):=
 some (true,t3)
def aK(self:(w9)→(u5)→(u5)→((List (Bs×w5)))→Option (Bool×(List (Bs×w5))))(a2:u5)(a0:w9)(a1:u5)(t2:(List (Bs×w5))):Option (Bool×(List (Bs×w5))):=
 C1 (F2 (aL self a2 a0 a1) a1.subs.length t2) (aM)
def L6(self:(w9)→(u5)→(u5)→((List (Bs×w5)))→Option (Bool×(List (Bs×w5))))(a1:u5)(a0:w9)(a2:u5)(j1:(List (Bs×w5))):Option (Bool×(List (Bs×w5))):=
 C1 (F2 (aJ a1 a0 a2) a1.words.length j1) (aK self a2 a0 a1)
def G8(self:(w9)→(u5)→(u5)→((List (Bs×w5)))→Option (Bool×(List (Bs×w5))))(a1:u5)(a2:u5)(m0:(List (Bs×w5)))(a0:w9)(j0:Bool):Option (Bool×(List (Bs×w5))):=
 bif j0 then
  (U3 a1.name a2.name m0).bind fun v7=>
  bif (!v7.1)then
   some (false,v7.2)
  else
   L6 self a1 a0 a2 v7.2
 else
  bif (!decide (a1.name=a2.name))then
   some (false,m0)
  else
   L6 self a1 a0 a2 m0
def E5:Nat→(w9)→(u5)→(u5)→((List (Bs×w5)))→Option (Bool×(List (Bs×w5)))
 |0,_,_,_,_=>none
 |n+1,a0,a1,a2,m0=>
  (D4 a0 a1).bind fun v1=>
  bif v1 then
   bif (assoc a1.name m0).isSome then
    (dL n (((assoc a1.name m0).getD default).form) a2).bind fun v2=>
    some (v2,m0)
   else
    Q8 (B6 a1.name (w5.mk a1.name [] a2) m0) fun c3=>
    some (true,c3)
  else
   bif (bif (!decide (a1.kind=a2.kind))then true else(!decide ((↑a1.words.length:Int)=(↑a2.words.length:Int))))then
    some (false,m0)
   else
    (C5 a1).bind fun v5=>
    bif v5 then
     G8 (E5 n) a1 a2 m0 a0 v5
    else
     (gd (decide (a1.kind=2)) (A0 a0.C4 a1.name) default).bind fun v6=>
     G8 (E5 n) a1 a2 m0 a0 (bif (decide (a1.kind=2))then v6 else false)
def M0(a1:Bs)(l0:(List Bs))(k0:Nat)(s0:Unit):Option (Ctl (Int) (Unit) (Unit)):=
 bif (decide (a1=(get l0 k0)))then
  some (.ret (↑k0:Int))
 else
  some (.nxt ())
def M1(t0:Unit):Option (Int):=
 some (-1)
def P6(a1:Bs)(l0:(List Bs)):Option (Int):=
 chk (l0.length≤9223372036854775807) <|
 C1 (F2 (M0 a1 l0) l0.length ()) (M1)
def E3(a1:Bs)(l0:(List Bs)):Option (Bool):=
 (P6 a1 l0).bind fun v1=>
 some (decide (0≤v1))
def eP(self:(u5)→Option (u5))(a0:u5)(k0:Nat)(s0:(List u5)):Option (Ctl (u5) ((List u5)) ((List u5))):=
 (self (get a0.subs k0)).bind fun v9=>
 Q8 (s0++[v9]) fun c11=>
 chk (c11.length*72≤top∧c11.length≤top) <|
 some (.nxt c11)
def eR(a0:u5)(v1:(List Bs))(t0:(List u5)):Option (u5):=
 some (u5.mk a0.kind a0.name v1 t0)
def cw:Nat→(u5)→Option (u5)
 |0,_=>none
 |n+1,a0=>
  (T4 a0.words).bind fun v1=>
  C1 (F2 (eP (cw n) a0) a0.subs.length []) (eR a0 v1)
def dz(v3:(List Bs))(v2:Bool×(List (Bs×w5)))(k0:Nat)(s0:(List Bs)):Option (Ctl ((List w5)×Bool) ((List Bs)) ((List Bs))):=
 Q8 (s0++[((assoc (get v3 k0) v2.2).getD default).text]) fun c11=>
 chk (c11.length*16≤top∧c11.length≤top) <|
 some (.nxt c11)
def dF(n:Nat)(v1:w9)(v19:(List Bs))(v2:Bool×(List (Bs×w5)))(t0:(List Bs))(k1:Nat)(s1:(List w5)):Option (Ctl ((List w5)×Bool) ((List w5)) ((List w5))):=
 (A0 v1.words (get v19 k1)).bind fun v38=>
 (gd v38 (E3 (((assoc (get v19 k1) v2.2).getD default).text) t0) (default:Bool)).bind fun v39=>
 bif (bif v38 then v39 else false)then
  some (.ret ([],false))
 else
  chk (0≤1∧1≤(get v19 k1).length) <|
  (A0 v1.parts (get v19 k1)).bind fun v42=>
  bif v42 then
   (cw n (((assoc (get v19 k1) v2.2).getD default).form)).bind fun v43=>
   Q8 (s1++[(w5.mk ((get v19 k1).drop 1) (((assoc (get v19 k1) v2.2).getD default).text) v43)]) fun c45=>
   chk (c45.length*104≤top∧c45.length≤top) <|
   some (.nxt c45)
  else
   Q8 (s1++[(w5.mk ((get v19 k1).drop 1) (((assoc (get v19 k1) v2.2).getD default).text) (((assoc (get v19 k1) v2.2).getD default).form))]) fun c51=>
   chk (c51.length*104≤top∧c51.length≤top) <|
   some (.nxt c51)
def dG(t1:(List w5)):Option ((List w5)×Bool):=
 some (t1,true)
def dD(n:Nat)(v1:w9)(v2:Bool×(List (Bs×w5)))(t0:(List Bs)):Option ((List w5)×Bool):=
 (R3 v1).bind fun v16=>
 (C0 n v1.form).bind fun v17=>
 (oU [v16,v17]).bind fun v19=>
 C1 (F2 (dF n v1 v19 v2 t0) v19.length []) (dG)
def eW(n:Nat)(a0:w9)(a1:u5):Option ((List w5)×Bool):=
 (cu n a0).bind fun v1=>
 (E5 n v1 v1.form a1 []).bind fun v2=>
 bif (!v2.1)then
  some ([],false)
 else
  (C0 n v1.form).bind fun v3=>
  C1 (F2 (dz v3 v2) v3.length []) (dD n v1 v2)
def Y6(a0:(List w5))(a1:Bs)(k0:Nat)(s0:Unit):Option (Ctl (Bs) (Unit) (Unit)):=
 bif (decide (((get a0 k0).name)=a1))then
  some (.ret ((get a0 k0).text))
 else
  some (.nxt ())
def bR(a1:Bs)(t0:Unit):Option (Bs):=
 some a1
def N3(a0:(List w5))(a1:Bs):Option (Bs):=
 C1 (F2 (Y6 a0 a1) a0.length ()) (bR a1)
def fO(self:(u5)→(Bs)→((List (Bs×Bs)))→(Int)→(Bs)→((List Bs))→((List u5))→((List Bs))→((List Bs))→((List Bs))→Option ((List (Bs×Bs))))(a1:Bs)(a0:u5)(wQ:Int)(wR:Bs)(wS:(List Bs))(wT:(List u5))(wU:(List Bs))(wV:(List Bs))(wW:(List Bs))(k1:Nat)(s1:(List (Bs×Bs))):Option (Ctl ((List (Bs×Bs))) ((List (Bs×Bs))) ((List (Bs×Bs)))):=
 (itoa (↑k1:Int)).bind fun v7=>
 chk (M5 a1 v7) <|
 (self (get a0.subs k1) (lP a1 v7) s1 wQ wR wS wT wU wV wW).bind fun v9=>
 some (.nxt v9)
def fP(t1:(List (Bs×Bs))):Option ((List (Bs×Bs))):=
 some t1
def aP(self:(u5)→(Bs)→((List (Bs×Bs)))→(Int)→(Bs)→((List Bs))→((List u5))→((List Bs))→((List Bs))→((List Bs))→Option ((List (Bs×Bs))))(a1:Bs)(a0:u5)(wQ:Int)(wR:Bs)(wS:(List Bs))(wT:(List u5))(wU:(List Bs))(wV:(List Bs))(wW:(List Bs))(j0:(List (Bs×Bs))):Option ((List (Bs×Bs))):=
 C1 (F2 (fO self a1 a0 wQ wR wS wT wU wV wW) a0.subs.length j0) (fP)
def P7:Nat→(u5)→(Bs)→((List (Bs×Bs)))→(Int)→(Bs)→((List Bs))→((List u5))→((List Bs))→((List Bs))→((List Bs))→Option ((List (Bs×Bs)))
 |0,_,_,_,_,_,_,_,_,_,_=>none
 |n+1,a0,a1,m1,wQ,wR,wS,wT,wU,wV,wW=>
  (gd (!(assoc a0.name m1).isSome) (D4 (w9.mk (u5.mk wQ wR wS wT) wU wV wW) a0) default).bind fun v1=>
  bif (bif (!(assoc a0.name m1).isSome)then v1 else false)then
   Q8 (B6 a0.name a1 m1) fun c2=>
   aP (P7 n) a1 a0 wQ wR wS wT wU wV wW c2
  else
   aP (P7 n) a1 a0 wQ wR wS wT wU wV wW m1
def cF(n:Nat)(a0:w9):Option ((List (Bs×Bs))):=
 (P7 n a0.form [] [] a0.form.kind a0.form.name a0.form.words a0.form.subs a0.words a0.C4 a0.parts).bind fun v1=>
 some v1
def eU(a0:(List w6))(k0:Nat)(s0:Int×Int):Option (Ctl (Int×Int×Bool) (Int×Int) (Int×Int)):=
 some (.nxt ((wr .i64 (s0.1+((get a0 k0).nodes))),(max s0.2 ((get a0 k0).depth))))
def eV(t0:Int×Int):Option (Int×Int×Bool):=
 some (t0.1,(wr .i64 (t0.2+1)),(bif (decide (t0.1≤200))then(decide (t0.2<40))else false))
def dV(a0:(List w6)):Option (Int×Int×Bool):=
 C1 (F2 (eU a0) a0.length (1,0)) (eV)
def eZ(B4:(u5)→(Bs)→((List u6))→(Int)→((List (Bs×Int)))→((List u7))→Option (w6×Bool×Int×(List u7)))(Y9:(List w5))(V6:Int)(aQ:Int)(jL:Int)(a0:u5)(cK:Bs)(m13:(List (Bs×Bs)))(lU:(List u6))(m9:(List (Bs×Int)))(k0:Nat)(s0:Int×Int×Bs×(List Bs)×(List u5)×Int×Int×(List u7)×Bool):Option (Ctl (w6×Bool×Int×(List u7)×(List (Bs×w6))) (Int×Int×Bs×(List Bs)×(List u5)×Int×Int×(List u7)×Bool) (Int×Int×Bs×(List Bs)×(List u5)×Int×Int×(List u7)×Bool)):=
 bif (decide (((get ((Y9.drop ((wr .i64 (V6+aQ)).toNat)).take ((wr .i64 ((wr .i64 (V6+aQ))+jL)).toNat-(wr .i64 (V6+aQ)).toNat)) k0).name)=a0.name))then
  chk (M5 cK ((assoc a0.name m13).getD default)) <|
  (B4 ((get ((Y9.drop ((wr .i64 (V6+aQ)).toNat)).take ((wr .i64 ((wr .i64 (V6+aQ))+jL)).toNat-(wr .i64 (V6+aQ)).toNat)) k0).form) (lP cK ((assoc a0.name m13).getD default)) lU s0.1 m9 s0.2.2.2.2.2.2.2.1).bind fun v9=>
  some (.nxt (v9.2.2.1,v9.1.form.kind,v9.1.form.name,v9.1.form.words,v9.1.form.subs,v9.1.nodes,v9.1.depth,v9.2.2.2,v9.2.1))
 else
  some (.nxt (s0.1,s0.2.1,s0.2.2.1,s0.2.2.2.1,s0.2.2.2.2.1,s0.2.2.2.2.2.1,s0.2.2.2.2.2.2.1,s0.2.2.2.2.2.2.2.1,s0.2.2.2.2.2.2.2.2))
def fh(a0:u5)(m2:(List (Bs×w6)))(t0:Int×Int×Bs×(List Bs)×(List u5)×Int×Int×(List u7)×Bool):Option (w6×Bool×Int×(List u7)×(List (Bs×w6))):=
 Q8 (B6 a0.name (w6.mk (u5.mk t0.2.1 t0.2.2.1 t0.2.2.2.1 t0.2.2.2.2.1) t0.2.2.2.2.2.1 t0.2.2.2.2.2.2.1) m2) fun c10=>
 some ((w6.mk (u5.mk t0.2.1 t0.2.2.1 t0.2.2.2.1 t0.2.2.2.2.1) t0.2.2.2.2.2.1 t0.2.2.2.2.2.2.1),t0.2.2.2.2.2.2.2.2,t0.1,t0.2.2.2.2.2.2.2.1,c10)
def Y7(a1:(List Bs))(a0:u5)(m15:(List (Bs×Bs)))(V6:Int)(Y9:(List w5))(k1:Nat)(s1:(List Bs)):Option (Ctl (w6×Bool×Int×(List u7)×(List (Bs×w6))) ((List Bs)) ((List Bs))):=
 (A0 a1 (get a0.words k1)).bind fun v28=>
 bif v28 then
  Q8 (s1++[((assoc (get a0.words k1) m15).getD default)]) fun c30=>
  chk (c30.length*16≤top∧c30.length≤top) <|
  some (.nxt c30)
 else
  chk (0≤V6∧V6.toNat≤Y9.length) <|
  (N3 (Y9.take V6.toNat) (get a0.words k1)).bind fun v37=>
  Q8 (s1++[v37]) fun c39=>
  chk (c39.length*16≤top∧c39.length≤top) <|
  some (.nxt c39)
def bS(self:(u5)→((List Bs))→(Int)→(Bs)→((List Bs))→((List u5))→((List Bs))→((List Bs))→((List Bs))→(Int)→(Bs)→((List Bs))→((List u5))→((List (Bs×w6)))→((List w5))→(Int)→(Int)→(Int)→((List u6))→(Int)→((List (Bs×Int)))→((List u7))→(Bs)→((List (Bs×Bs)))→((List (Bs×Bs)))→Option (w6×Bool×Int×(List u7)×(List (Bs×w6))))(a0:u5)(j2:Bs×(List Bs))(B7:Int)(M6:Bs)(M7:(List Bs))(D7:(List u5))(L3:(List Bs))(M4:(List Bs))(M8:(List Bs))(cQ:Int)(cR:Bs)(cS:(List Bs))(K0:(List u5))(Y9:(List w5))(V6:Int)(aQ:Int)(jL:Int)(lU:(List u6))(m9:(List (Bs×Int)))(cK:Bs)(m13:(List (Bs×Bs)))(m15:(List (Bs×Bs)))(k3:Nat)(s3:Int×(List u7)×(List (Bs×w6))×(List w6)×(List u5)):Option (Ctl (w6×Bool×Int×(List u7)×(List (Bs×w6))) (Int×(List u7)×(List (Bs×w6))×(List w6)×(List u5)) (Int×(List u7)×(List (Bs×w6))×(List w6)×(List u5))):=
 (self (get a0.subs k3) j2.2 B7 M6 M7 D7 L3 M4 M8 cQ cR cS K0 s3.2.2.1 Y9 V6 aQ jL lU s3.1 m9 s3.2.1 cK m13 m15).bind fun v70=>
 bif (!v70.2.1)then
  some (.ret ((w6.mk (u5.mk 0 [] [] []) 0 0),false,v70.2.2.1,v70.2.2.2.1,v70.2.2.2.2))
 else
  Q8 (s3.2.2.2.1++[v70.1]) fun c72=>
  chk (c72.length*88≤top∧c72.length≤top) <|
  Q8 (s3.2.2.2.2++[v70.1.form]) fun c78=>
  chk (c78.length*72≤top∧c78.length≤top) <|
  some (.nxt (v70.2.2.1,v70.2.2.2.1,v70.2.2.2.2,c72,c78))
def bT(a0:u5)(j2:Bs×(List Bs))(t1:(List Bs))(t3:Int×(List u7)×(List (Bs×w6))×(List w6)×(List u5)):Option (w6×Bool×Int×(List u7)×(List (Bs×w6))):=
 (dV t3.2.2.2.1).bind fun v83=>
 some ((w6.mk (u5.mk a0.kind j2.1 t1 t3.2.2.2.2) v83.1 v83.2.1),v83.2.2,t3.1,t3.2.1,t3.2.2.1)
def K2(self:(u5)→((List Bs))→(Int)→(Bs)→((List Bs))→((List u5))→((List Bs))→((List Bs))→((List Bs))→(Int)→(Bs)→((List Bs))→((List u5))→((List (Bs×w6)))→((List w5))→(Int)→(Int)→(Int)→((List u6))→(Int)→((List (Bs×Int)))→((List u7))→(Bs)→((List (Bs×Bs)))→((List (Bs×Bs)))→Option (w6×Bool×Int×(List u7)×(List (Bs×w6))))(a0:u5)(B7:Int)(M6:Bs)(M7:(List Bs))(D7:(List u5))(L3:(List Bs))(M4:(List Bs))(M8:(List Bs))(cQ:Int)(cR:Bs)(cS:(List Bs))(K0:(List u5))(Y9:(List w5))(V6:Int)(aQ:Int)(jL:Int)(lU:(List u6))(m9:(List (Bs×Int)))(cK:Bs)(m13:(List (Bs×Bs)))(m15:(List (Bs×Bs)))(ql:Int)(l10:(List u7))(m2:(List (Bs×w6)))(t1:(List Bs))(j2:Bs×(List Bs)):Option (w6×Bool×Int×(List u7)×(List (Bs×w6))):=
 C1 (F2 (bS self a0 j2 B7 M6 M7 D7 L3 M4 M8 cQ cR cS K0 Y9 V6 aQ jL lU m9 cK m13 m15) a0.subs.length (ql,l10,m2,[],[])) (bT a0 j2 t1)
def Y8(self:(u5)→((List Bs))→(Int)→(Bs)→((List Bs))→((List u5))→((List Bs))→((List Bs))→((List Bs))→(Int)→(Bs)→((List Bs))→((List u5))→((List (Bs×w6)))→((List w5))→(Int)→(Int)→(Int)→((List u6))→(Int)→((List (Bs×Int)))→((List u7))→(Bs)→((List (Bs×Bs)))→((List (Bs×Bs)))→Option (w6×Bool×Int×(List u7)×(List (Bs×w6))))(a0:u5)(a1:(List Bs))(B7:Int)(M6:Bs)(M7:(List Bs))(D7:(List u5))(L3:(List Bs))(M4:(List Bs))(M8:(List Bs))(cQ:Int)(cR:Bs)(cS:(List Bs))(K0:(List u5))(Y9:(List w5))(V6:Int)(aQ:Int)(jL:Int)(lU:(List u6))(m9:(List (Bs×Int)))(cK:Bs)(m13:(List (Bs×Bs)))(m15:(List (Bs×Bs)))(ql:Int)(l10:(List u7))(m2:(List (Bs×w6)))(t1:(List Bs)):Option (w6×Bool×Int×(List u7)×(List (Bs×w6))):=
 (C5 a0).bind fun v44=>
 bif v44 then
  (D6 a1 []).bind fun v45=>
  Q8 (v45++[a0.name]) fun c47=>
  chk (c47.length*16≤top∧c47.length≤top) <|
  K2 self a0 B7 M6 M7 D7 L3 M4 M8 cQ cR cS K0 Y9 V6 aQ jL lU m9 cK m13 m15 ql l10 m2 t1 (((assoc a0.name m15).getD default),c47)
 else
  bif (decide (a0.kind=2))then
   chk (0≤V6∧0≤(wr .i64 (V6+aQ))∧V6.toNat≤(wr .i64 (V6+aQ)).toNat∧(wr .i64 (V6+aQ)).toNat≤Y9.length) <|
   (N3 ((Y9.drop V6.toNat).take ((wr .i64 (V6+aQ)).toNat-V6.toNat)) a0.name).bind fun v56=>
   K2 self a0 B7 M6 M7 D7 L3 M4 M8 cQ cR cS K0 Y9 V6 aQ jL lU m9 cK m13 m15 ql l10 m2 t1 (v56,a1)
  else
   K2 self a0 B7 M6 M7 D7 L3 M4 M8 cQ cR cS K0 Y9 V6 aQ jL lU m9 cK m13 m15 ql l10 m2 t1 (a0.name,a1)
def J1(B4:(u5)→(Bs)→((List u6))→(Int)→((List (Bs×Int)))→((List u7))→Option (w6×Bool×Int×(List u7))):Nat→(u5)→((List Bs))→(Int)→(Bs)→((List Bs))→((List u5))→((List Bs))→((List Bs))→((List Bs))→(Int)→(Bs)→((List Bs))→((List u5))→((List (Bs×w6)))→((List w5))→(Int)→(Int)→(Int)→((List u6))→(Int)→((List (Bs×Int)))→((List u7))→(Bs)→((List (Bs×Bs)))→((List (Bs×Bs)))→Option (w6×Bool×Int×(List u7)×(List (Bs×w6)))
 |0,_,_,_,_,_,_,_,_,_,_,_,_,_,_,_,_,_,_,_,_,_,_,_,_,_=>none
 |n+1,a0,a1,B7,M6,M7,D7,L3,M4,M8,cQ,cR,cS,K0,m2,Y9,V6,aQ,jL,lU,ql,m9,l10,cK,m13,m15=>
  (D4 (w9.mk (u5.mk B7 M6 M7 D7) L3 M4 M8) a0).bind fun v1=>
  bif v1 then
   bif (assoc a0.name m2).isSome then
    some (((assoc a0.name m2).getD default),true,ql,l10,m2)
   else
    chk (0≤(wr .i64 (V6+aQ))∧0≤(wr .i64 ((wr .i64 (V6+aQ))+jL))∧(wr .i64 (V6+aQ)).toNat≤(wr .i64 ((wr .i64 (V6+aQ))+jL)).toNat∧(wr .i64 ((wr .i64 (V6+aQ))+jL)).toNat≤Y9.length) <|
    C1 (F2 (eZ B4 Y9 V6 aQ jL a0 cK m13 lU m9) (((Y9.drop ((wr .i64 (V6+aQ)).toNat)).take ((wr .i64 ((wr .i64 (V6+aQ))+jL)).toNat-(wr .i64 (V6+aQ)).toNat)).length) (ql,((assoc a0.name m2).getD default).form.kind,((assoc a0.name m2).getD default).form.name,((assoc a0.name m2).getD default).form.words,((assoc a0.name m2).getD default).form.subs,((assoc a0.name m2).getD default).nodes,((assoc a0.name m2).getD default).depth,l10,(assoc a0.name m2).isSome)) (fh a0 m2)
  else
   C1 (F2 (Y7 a1 a0 m15 V6 Y9) a0.words.length []) (Y8 (J1 B4 n) a0 a1 B7 M6 M7 D7 L3 M4 M8 cQ cR cS K0 Y9 V6 aQ jL lU m9 cK m13 m15 ql l10 m2)
def cI(a1:u6)(a2:(List w5))(v1:(List Bs))(B7:(List u6))(m1:(List (Bs×Int)))(l2:(List u7))(k0:Nat)(s0:Int×(List (Bs×Bs))):Option (Ctl (w6×Bool×Int×(List u7)) (Int×(List (Bs×Bs))) (Int×(List (Bs×Bs)))):=
 chk (0≤(wr .i64 ((wr .i64 ((↑a1.from_.words.length:Int)+(↑a1.from_.C4.length:Int)))+(↑a1.from_.parts.length:Int)))∧(wr .i64 ((wr .i64 ((↑a1.from_.words.length:Int)+(↑a1.from_.C4.length:Int)))+(↑a1.from_.parts.length:Int))).toNat≤a2.length) <|
 (N3 (a2.drop ((wr .i64 ((wr .i64 ((↑a1.from_.words.length:Int)+(↑a1.from_.C4.length:Int)))+(↑a1.from_.parts.length:Int))).toNat)) (get v1 k0)).bind fun v13=>
 Q8 (B6 (get v1 k0) v13 s0.2) fun c14=>
 bif (decide (((assoc (get v1 k0) c14).getD default)=(get v1 k0)))then
  (U4 B7 s0.1 m1 l2).bind fun v16=>
  Q8 (B6 (get v1 k0) v16.1 c14) fun c17=>
  some (.nxt (v16.2,c17))
 else
  some (.nxt (s0.1,c14))
def aO(B4:(u5)→(Bs)→((List u6))→(Int)→((List (Bs×Int)))→((List u7))→Option (w6×Bool×Int×(List u7)))(n:Nat)(a1:u6)(a2:(List w5))(B7:(List u6))(m1:(List (Bs×Int)))(l2:(List u7))(a3:Bs)(t0:Int×(List (Bs×Bs))):Option (w6×Bool×Int×(List u7)):=
 (cF n a1.from_).bind fun v19=>
 (J1 B4 n a1.to_ [] a1.from_.form.kind a1.from_.form.name a1.from_.form.words a1.from_.form.subs a1.from_.words a1.from_.C4 a1.from_.parts a1.to_.kind a1.to_.name a1.to_.words a1.to_.subs [] a2 (↑a1.from_.words.length:Int) (↑a1.from_.C4.length:Int) (↑a1.from_.parts.length:Int) B7 t0.1 m1 l2 a3 v19 t0.2).bind fun v20=>
 some (v20.1,v20.2.1,v20.2.2.1,v20.2.2.2.1)
def Z2(B4:(u5)→(Bs)→((List u6))→(Int)→((List (Bs×Int)))→((List u7))→Option (w6×Bool×Int×(List u7)))(n:Nat)(a1:u6)(a2:(List w5))(a3:Bs)(B7:(List u6))(D7:Int)(m1:(List (Bs×Int)))(l2:(List u7)):Option (w6×Bool×Int×(List u7)):=
 (C0 n a1.to_).bind fun v1=>
 C1 (F2 (cI a1 a2 v1 B7 m1 l2) v1.length (D7,[])) (aO B4 n a1 a2 B7 m1 l2 a3)
def P3(self:(u5)→(Bs)→((List u6))→(Int)→((List (Bs×Int)))→((List u7))→Option (w6×Bool×Int×(List u7)))(n:Nat)(B7:(List u6))(a1:u5)(l2:(List u7))(a2:Bs)(m1:(List (Bs×Int)))(D7:Int)(k0:Nat)(s0:Unit):Option (Ctl (w6×Bool×Int×(List u7)) (Unit) (Unit)):=
 (eW n ((get B7 k0).from_) a1).bind fun v1=>
 bif (!v1.2)then
  some (.nxt ())
 else
  Q8 (l2++[(u7.mk ((assoc a2 m1).getD default) (↑k0:Int))]) fun c3=>
  chk (c3.length*16≤top∧c3.length≤top) <|
  (Z2 self n (get B7 k0) v1.1 a2 B7 D7 m1 c3).bind fun v9=>
  some (.ret (v9.1,v9.2.1,v9.2.2.1,v9.2.2.2))
def V1(self:(u5)→(Bs)→((List u6))→(Int)→((List (Bs×Int)))→((List u7))→Option (w6×Bool×Int×(List u7)))(a2:Bs)(a1:u5)(B7:(List u6))(m1:(List (Bs×Int)))(k1:Nat)(s1:Int×(List u7)×(List w6)×(List u5)):Option (Ctl (w6×Bool×Int×(List u7)) (Int×(List u7)×(List w6)×(List u5)) (Int×(List u7)×(List w6)×(List u5))):=
 (itoa (↑k1:Int)).bind fun v25=>
 chk (M5 a2 v25) <|
 (self (get a1.subs k1) (lP a2 v25) B7 s1.1 m1 s1.2.1).bind fun v27=>
 bif (!v27.2.1)then
  some (.ret ((w6.mk (u5.mk 0 [] [] []) 0 0),false,v27.2.2.1,v27.2.2.2))
 else
  Q8 (s1.2.2.1++[v27.1]) fun c29=>
  chk (c29.length*88≤top∧c29.length≤top) <|
  Q8 (s1.2.2.2++[v27.1.form]) fun c35=>
  chk (c35.length*72≤top∧c35.length≤top) <|
  some (.nxt (v27.2.2.1,v27.2.2.2,c29,c35))
def V2(a1:u5)(t1:Int×(List u7)×(List w6)×(List u5)):Option (w6×Bool×Int×(List u7)):=
 (dV t1.2.2.1).bind fun v40=>
 some ((w6.mk (u5.mk a1.kind a1.name a1.words t1.2.2.2) v40.1 v40.2.1),v40.2.2,t1.1,t1.2.1)
def V0(self:(u5)→(Bs)→((List u6))→(Int)→((List (Bs×Int)))→((List u7))→Option (w6×Bool×Int×(List u7)))(a2:Bs)(a1:u5)(B7:(List u6))(m1:(List (Bs×Int)))(D7:Int)(l2:(List u7))(t0:Unit):Option (w6×Bool×Int×(List u7)):=
 C1 (F2 (V1 self a2 a1 B7 m1) a1.subs.length (D7,l2,[],[])) (V2 a1)
def F4:Nat→(u5)→(Bs)→((List u6))→(Int)→((List (Bs×Int)))→((List u7))→Option (w6×Bool×Int×(List u7))
 |0,_,_,_,_,_,_=>none
 |n+1,a1,a2,B7,D7,m1,l2=>
  C1 (F2 (P3 (F4 n) n B7 a1 l2 a2 m1 D7) B7.length ()) (V0 (F4 n) a2 a1 B7 m1 D7 l2)
def D0(l0:(List u7)):Option ((List u7)):=
 chk (l0.length<4611686018427387904∧Oh l0) (some (jH PE l0))
def bF(V4:(List Bs))(s0:Int):Option (Ctl (Bs×Int) (Int) (Unit)):=
 (itoa s0).bind fun v4=>
 chk (M5 [118] v4) <|
 (A0 V4 (lP [118] v4)).bind fun v6=>
 bif (!v6)then
  some (.ret ((lP [118] v4),(wr .i64 (s0+1))))
 else
  some (.nxt (wr .i64 (s0+1)))
def gN(t0:Unit):Option (Bs×Int):=
 none
def eN(n:Nat)(B7:Int)(V4:(List Bs)):Option (Bs×Int):=
 C1 (bM (bF V4) n B7) (gN)
def P0(a1:(List B0))(a0:u5)(k0:Nat)(s2:Int):Option (Ctl (Ctl (u5×Int) ((List Bs)) ((List Bs))) (Int) (Bs)):=
 bif (decide (0≤s2))then
  chk (0≤s2∧s2<(↑a1.length:Int)) <|
  bif (decide (((get a1 s2.toNat).from_)=(get a0.words k0)))then
   some (.brk ((get a1 s2.toNat).to_))
  else
   some (.nxt (wr .i64 (s2-1)))
 else
  some (.brk (get a0.words k0))
def aB(s0:(List Bs))(t2:Bs):Option (Ctl (u5×Int) ((List Bs)) ((List Bs))):=
 Q8 (s0++[t2]) fun c16=>
 chk (c16.length*16≤top∧c16.length≤top) <|
 some (.nxt c16)
def aA(n:Nat)(a1:(List B0))(a0:u5)(k0:Nat)(s0:(List Bs)):Option (Ctl (u5×Int) ((List Bs)) ((List Bs))):=
 C1 (bM (P0 a1 a0 k0) n (wr .i64 ((↑a1.length:Int)-1))) (aB s0)
def aC(self:(u5)→((List B0))→(Int)→((List Bs))→Option (u5×Int))(a0:u5)(j3:Int×Bs×(List B0))(V4:(List Bs))(k4:Nat)(s4:Int×(List u5)):Option (Ctl (u5×Int) (Int×(List u5)) (Int×(List u5))):=
 (self (get a0.subs k4) j3.2.2 s4.1 V4).bind fun v38=>
 Q8 (s4.2++[v38.1]) fun c40=>
 chk (c40.length*72≤top∧c40.length≤top) <|
 some (.nxt (v38.2,c40))
def aD(a0:u5)(j3:Int×Bs×(List B0))(t0:(List Bs))(t4:Int×(List u5)):Option (u5×Int):=
 some ((u5.mk a0.kind j3.2.1 t0 t4.2),t4.1)
def L5(self:(u5)→((List B0))→(Int)→((List Bs))→Option (u5×Int))(a0:u5)(V4:(List Bs))(t0:(List Bs))(j3:Int×Bs×(List B0)):Option (u5×Int):=
 C1 (F2 (aC self a0 j3 V4) a0.subs.length (j3.1,[])) (aD a0 j3 t0)
def aH(self:(u5)→((List B0))→(Int)→((List Bs))→Option (u5×Int))(n:Nat)(a0:u5)(B7:Int)(V4:(List Bs))(a1:(List B0))(t0:(List Bs)):Option (u5×Int):=
 (C5 a0).bind fun v21=>
 bif v21 then
  (eN n B7 V4).bind fun v22=>
  chk (0≤(↑a1.length:Int)∧0≤(↑a1.length:Int)) <|
  Q8 (a1++[(B0.mk a0.name v22.1)]) fun c26=>
  chk (c26.length*32≤top∧c26.length≤top) <|
  L5 self a0 V4 t0 (v22.2,v22.1,c26)
 else
  L5 self a0 V4 t0 (B7,a0.name,a1)
def G7:Nat→(u5)→((List B0))→(Int)→((List Bs))→Option (u5×Int)
 |0,_,_,_,_=>none
 |n+1,a0,a1,B7,V4=>
  C1 (F2 (aA n a1 a0) a0.words.length []) (aH (G7 n) n a0 B7 V4 a1)
def fQ(v1:(List Bs))(a1:(List B0))(k0:Nat)(k1:Nat)(s1:Unit):Option (Ctl (Ctl (u5) (Unit) (Unit)) (Unit) (Unit)):=
 bif (decide ((get v1 k1)=((get a1 k0).from_)))then
  none
 else
  some (.nxt ())
def fR(t1:Unit):Option (Ctl (u5) (Unit) (Unit)):=
 some (.nxt ())
def fS(v1:(List Bs))(a1:(List B0))(k0:Nat)(s0:Unit):Option (Ctl (u5) (Unit) (Unit)):=
 C1 (F2 (fQ v1 a1 k0) v1.length ()) (fR)
def aI(n:Nat)(a0:u5)(a1:(List B0))(v1:(List Bs))(t0:Unit):Option (u5):=
 (G7 n a0 a1 0 v1).bind fun v2=>
 some v2.1
def cW(n:Nat)(a0:u5)(a1:(List B0)):Option (u5):=
 (N8 n a0).bind fun v1=>
 C1 (F2 (fS v1 a1) a1.length ()) (aI n a0 a1 v1)
def aT(n:Nat)(a0:u5):Option (u5):=
 (cW n a0 []).bind fun v1=>
 some v1
def cx(n:Nat)(a0:(List u6))(a1:u5):Option (u5×(List u7)×Bool):=
 (N9 n a1 a0 0 [] []).bind fun v1=>
 (P1 n v1.1 [] a0 v1.2 [] []).bind fun v2=>
 (F4 n v1.1 [] a0 v1.2 v2 []).bind fun v3=>
 bif (!v3.2.1)then
  some ((u5.mk 0 [] [] []),[],false)
 else
  (D0 v3.2.2.2).bind fun v4=>
  (aT n v3.1.form).bind fun v6=>
  some (v6,v4,true)
def K8(n:Nat)(a0:(List u6))(a1:u5):Option (u5×B1):=
 (cG n a0 a1).bind fun v1=>
 bif (!decide (v1.code=0))then
  some ((u5.mk 0 [] [] []),v1)
 else
  (cx n a0 a1).bind fun v2=>
  bif (!v2.2.2)then
   (C9 1 0).bind fun v3=>
   some ((u5.mk 0 [] [] []),v3)
  else
   some (v2.1,(B1.mk 0 0))
def kj(n:Nat)(a0:(List u6))(a1:u5):Option ((List u7)×B1):=
 (cG n a0 a1).bind fun v1=>
 bif (!decide (v1.code=0))then
  some ([],v1)
 else
  (cx n a0 a1).bind fun v2=>
  bif (!v2.2.2)then
   (C9 1 0).bind fun v3=>
   some ([],v3)
  else
   some (v2.2.1,(B1.mk 0 0))
def I9(a0:(List Bs))(a1:(List Bs))(s0:Int):Option (Ctl (Bool) (Int) (Unit)):=
 bif (decide (s0<(↑a0.length:Int)))then
  chk (0≤s0∧s0<(↑a0.length:Int)) <|
  chk (s0<(↑a1.length:Int)) <|
  bif (!decide ((get a0 s0.toNat)=(get a1 s0.toNat)))then
   some (.ret false)
  else
   some (.nxt (wr .i64 (s0+1)))
 else
  some (.brk ())
def V3(t0:Unit):Option (Bool):=
 some true
def I3(n:Nat)(a0:(List Bs))(a1:(List Bs)):Option (Bool):=
 bif (!decide ((↑a0.length:Int)=(↑a1.length:Int)))then
  some false
 else
  C1 (bM (I9 a0 a1) n 0) (V3)
def J9(self:(u5)→(u5)→Option (Bool))(a0:u5)(a1:u5)(s0:Int):Option (Ctl (Bool) (Int) (Unit)):=
 bif (decide (s0<(↑a0.subs.length:Int)))then
  chk (0≤s0∧s0<(↑a0.subs.length:Int)) <|
  chk (s0<(↑a1.subs.length:Int)) <|
  (self (get a0.subs s0.toNat) (get a1.subs s0.toNat)).bind fun v8=>
  bif (!v8)then
   some (.ret false)
  else
   some (.nxt (wr .i64 (s0+1)))
 else
  some (.brk ())
def V8(t0:Unit):Option (Bool):=
 some true
def C6:Nat→(u5)→(u5)→Option (Bool)
 |0,_,_=>none
 |n+1,a0,a1=>
  (gd (!(bif (!decide (a0.kind=a1.kind))then true else(!decide (a0.name=a1.name)))) (I3 n a0.words a1.words) default).bind fun v1=>
  bif (bif (bif (bif (!decide (a0.kind=a1.kind))then true else(!decide (a0.name=a1.name)))then true else(!v1))then true else(!decide ((↑a0.subs.length:Int)=(↑a1.subs.length:Int))))then
   some false
  else
   C1 (bM (J9 (C6 n) a0 a1) n 0) (V8)
def E4(n:Nat):Option (Bool):=
 (E9 [100,111,103] [[120]]).bind fun v2=>
 (E9 [97,110,105,109,97,108] [[120]]).bind fun v5=>
 (E9 [116,97,109,101] [[120]]).bind fun v7=>
 (L2 5 v5 v7).bind fun v8=>
 (E9 [100,111,103] [[121]]).bind fun v10=>
 (E9 [97,110,105,109,97,108] [[118,48]]).bind fun v13=>
 (E9 [116,97,109,101] [[118,48]]).bind fun v15=>
 (L2 5 v13 v15).bind fun v16=>
 (K8 n [(u6.mk (w9.mk v2 [[120]] [] []) v8)] (u5.mk 9 [121] [] [v10])).bind fun v19=>
 (kj n [(u6.mk (w9.mk v2 [[120]] [] []) v8)] (u5.mk 9 [121] [] [v10])).bind fun v21=>
 (gd (decide (v19.2.code=0)) (C6 n v19.1 (u5.mk 9 [118,48] [] [v16])) default).bind fun v22=>
 chk (zj (bif (bif (bif (decide (v19.2.code=0))then v22 else false)then(decide (v21.2.code=0))else false)then(decide ((↑v21.1.length:Int)=1))else false) (0<(↑v21.1.length:Int))) <|
 some (bif (bif (bif (bif (decide (v19.2.code=0))then v22 else false)then(decide (v21.2.code=0))else false)then(decide ((↑v21.1.length:Int)=1))else false)then(decide ((get v21.1 0).at_=1)&&(decide ((get v21.1 0).rule=0)))else false)
def W3(n:Nat)(a0:u5):Option (u5×B1):=
 (Q6 n a0).bind fun v1=>
 bif (!decide (v1.code=0))then
  some ((u5.mk 0 [] [] []),v1)
 else
  (aT n a0).bind fun v2=>
  some (v2,(B1.mk 0 0))
def Y5(a2:Int)(s0:(List Bs)×(List Bs)×(List Bs)×Int):Option (Ctl (u6×B1) ((List Bs)×(List Bs)×(List Bs)×Int) ((List Bs)×(List Bs)×(List Bs))):=
 bif (decide (s0.2.2.2<a2))then
  (itoa s0.2.2.2).bind fun v26=>
  chk (M5 [120] v26) <|
  Q8 (s0.2.1++[(lP [120] v26)]) fun c29=>
  chk (c29.length*16≤top∧c29.length≤top) <|
  Q8 (s0.1++[(lP [120] v26)]) fun c35=>
  chk (c35.length*16≤top∧c35.length≤top) <|
  Q8 (s0.2.2.1++[(lP [120] v26)]) fun c41=>
  chk (c41.length*16≤top∧c41.length≤top) <|
  some (.nxt (c35,c29,c41,(wr .i64 (s0.2.2.2+1))))
 else
  some (.brk (s0.1,s0.2.1,s0.2.2.1))
def bQ(a0:Bs)(a1:Bs)(t0:(List Bs)×(List Bs)×(List Bs)):Option (u6×B1):=
 some ((u6.mk (w9.mk (u5.mk 2 a0 t0.1 []) t0.2.1 [] []) (u5.mk 2 a1 t0.2.2 [])),(B1.mk 0 0))
def J0(n:Nat)(a0:Bs)(a1:Bs)(a2:Int):Option (u6×B1):=
 (termName a0).bind fun v1=>
 bif (!v1)then
  (C9 10 (-1)).bind fun v2=>
  some ((u6.mk (w9.mk (u5.mk 0 [] [] []) [] [] []) (u5.mk 0 [] [] [])),v2)
 else
  (termName a1).bind fun v3=>
  bif (!v3)then
   (C9 10 (-2)).bind fun v4=>
   some ((u6.mk (w9.mk (u5.mk 0 [] [] []) [] [] []) (u5.mk 0 [] [] [])),v4)
  else
   bif (bif (decide (a2<0))then true else(decide (3<a2)))then
    (C9 3 (-3)).bind fun v5=>
    some ((u6.mk (w9.mk (u5.mk 0 [] [] []) [] [] []) (u5.mk 0 [] [] [])),v5)
   else
    C1 (bM (Y5 a2) n ([],[],[],0)) (bQ a0 a1)
def N4(self:(u5)→(Bs)→(Int)→Option (Bool))(a0:u5)(a1:Bs)(a2:Int)(s0:Int):Option (Ctl (Bool) (Int) (Unit)):=
 bif (decide (s0<(↑a0.subs.length:Int)))then
  chk (0≤s0∧s0<(↑a0.subs.length:Int)) <|
  (self (get a0.subs s0.toNat) a1 a2).bind fun v5=>
  bif v5 then
   some (.ret true)
  else
   some (.nxt (wr .i64 (s0+1)))
 else
  some (.brk ())
def T5(t0:Unit):Option (Bool):=
 some false
def H6:Nat→(u5)→(Bs)→(Int)→Option (Bool)
 |0,_,_,_=>none
 |n+1,a0,a1,a2=>
  bif (bif (bif (decide (a0.kind=2))then(decide (a0.name=a1))else false)then(decide ((↑a0.words.length:Int)=a2))else false)then
   some true
  else
   C1 (bM (N4 (H6 n) a0 a1 a2) n 0) (T5)
def G3(n:Nat)(a0:Bs)(a1:Bs)(a2:Int)(a3:u5):Option (Bool):=
 (E4 n).bind fun v1=>
 bif (!v1)then
  some false
 else
  (J0 n a0 a1 a2).bind fun v2=>
  (J0 n a1 a0 a2).bind fun v3=>
  (W3 n a3).bind fun v4=>
  (gd (!(bif (bif (!decide (v2.2.code=0))then true else(!decide (v3.2.code=0)))then true else(!decide (v4.2.code=0)))) (H6 n v4.1 a1 a2) default).bind fun v5=>
  bif (bif (bif (bif (!decide (v2.2.code=0))then true else(!decide (v3.2.code=0)))then true else(!decide (v4.2.code=0)))then true else v5)then
   some true
  else
   (K8 n [v2.1] a3).bind fun v7=>
   (gd ((!(!decide (v7.2.code=0)))&&(!decide (a0=a1))) (H6 n v7.1 a0 a2) default).bind fun v8=>
   bif (bif (!decide (v7.2.code=0))then true else(bif (!decide (a0=a1))then v8 else false))then
    some false
   else
    (K8 n [v3.1] v7.1).bind fun v10=>
    (gd (decide (v10.2.code=0)) (C6 n v10.1 v4.1) default).bind fun v11=>
    some (bif (decide (v10.2.code=0))then v11 else false)
def E6(a0:(List u6))(s0:Int):Option (Ctl (Bool) (Int) (Unit)):=
 bif (decide (s0<(↑a0.length:Int)))then
  chk (0≤s0∧s0<(↑a0.length:Int)) <|
  bif (!decide (((get a0 s0.toNat).from_.form.kind)=2))then
   some (.ret true)
  else
   some (.nxt (wr .i64 (s0+1)))
 else
  some (.brk ())
def G1(n:Nat)(a1:Int)(a0:(List u6))(a2:u5)(a3:u5)(t0:Unit):Option (Bool):=
 bif (bif (bif (!decide (a1=5))then(!decide (a1=6))else false)then(!decide (a1=7))else false)then
  some true
 else
  (K8 n a0 a2).bind fun v5=>
  (K8 n a0 a3).bind fun v6=>
  (L2 a1 a2 a3).bind fun v7=>
  (K8 n a0 v7).bind fun v8=>
  bif (bif (bif (!decide (v5.2.code=0))then true else(!decide (v6.2.code=0)))then true else(!decide (v8.2.code=0)))then
   some true
  else
   (L2 a1 v5.1 v6.1).bind fun v9=>
   (W3 n v9).bind fun v10=>
   (gd (decide (v10.2.code=0)) (C6 n v8.1 v10.1) default).bind fun v11=>
   some (bif (decide (v10.2.code=0))then v11 else false)
def I0(n:Nat)(a0:(List u6))(a1:Int)(a2:u5)(a3:u5):Option (Bool):=
 (E4 n).bind fun v1=>
 bif (!v1)then
  some false
 else
  C1 (bM (E6 a0) n 0) (G1 n a1 a0 a2 a3)
def N2(a0:Bs)(s0:Int):Option (Ctl (Bool) (Int) (Unit)):=
 bif (decide (s0<(↑a0.length:Int)))then
  chk (0≤s0∧s0<(↑a0.length:Int)) <|
  bif (!(bif (bif (decide (97≤(L4 a0 s0)))then(decide ((L4 a0 s0)≤122))else false)then true else(bif (decide (0<s0))then(bif (bif (bif (decide (48≤(L4 a0 s0)))then(decide ((L4 a0 s0)≤57))else false)then true else(decide ((L4 a0 s0)=95)))then true else(decide ((L4 a0 s0)=45)))else false)))then
   some (.ret false)
  else
   some (.nxt (wr .i64 (s0+1)))
 else
  some (.brk ())
def T3(a0:Bs)(t0:Unit):Option (Bool):=
 some (bif (decide (0<(↑a0.length:Int)))then(decide ((↑a0.length:Int)≤30))else false)
def N6(n:Nat)(a0:Bs):Option (Bool):=
 C1 (bM (N2 a0) n 0) (T3 a0)
def L7(n:Nat)(a0:u5):Option (Bool):=
 (C6 n a0 (u5.mk 0 [] [] [])).bind fun v1=>
 some v1
def D1(a2:Int)(s1:(List Bs)×Int):Option (Ctl (Bool) ((List Bs)×Int) ((List Bs))):=
 bif (decide (s1.2<a2))then
  Q8 (s1.1++[[UInt8.ofNat 120,UInt8.ofNat (wr .u8 (wr .i64 (48+s1.2))).toNat]]) fun c23=>
  chk (c23.length*16≤top∧c23.length≤top) <|
  some (.nxt (c23,(wr .i64 (s1.2+1))))
 else
  some (.brk s1.1)
def D9(n:Nat)(v2:u6×B1)(a0:Bs)(a1:Bs)(t1:(List Bs)):Option (Bool):=
 (gd (decide (v2.2.code=0)) (E9 a0 t1) default).bind fun v28=>
 (gd (decide (v2.2.code=0)) (C6 n v2.1.from_.form v28) default).bind fun v29=>
 (gd (bif (decide (v2.2.code=0))then v29 else false) (E9 a1 t1) default).bind fun v30=>
 (gd (bif (decide (v2.2.code=0))then v29 else false) (C6 n v2.1.to_ v30) default).bind fun v31=>
 (gd (bif (bif (decide (v2.2.code=0))then v29 else false)then v31 else false) (I3 n v2.1.from_.words t1) default).bind fun v32=>
 some (bif (bif (bif (bif (bif (decide (v2.2.code=0))then v29 else false)then v31 else false)then v32 else false)then(decide ((↑v2.1.from_.C4.length:Int)=0))else false)then(decide ((↑v2.1.from_.parts.length:Int)=0))else false)
def B2(n:Nat)(v2:u6×B1)(a2:Int)(a0:Bs)(a1:Bs)(j0:Int×Int):Option (Bool):=
 bif (!decide (j0.1=0))then
  (gd (decide (v2.2.code=j0.1)&&(decide (v2.2.index=j0.2))) (L7 n v2.1.to_) default).bind fun v5=>
  (gd (bif (decide (v2.2.code=j0.1)&&(decide (v2.2.index=j0.2)))then v5 else false) (L7 n v2.1.from_.form) default).bind fun v6=>
  some (bif (bif (bif (decide (v2.2.code=j0.1)&&(decide (v2.2.index=j0.2)))then v5 else false)then v6 else false)then(decide ((↑v2.1.from_.words.length:Int)=0))else false)
 else
  C1 (bM (D1 a2) n ([],0)) (D9 n v2 a0 a1)
def F1(n:Nat)(a0:Bs)(a1:Bs)(a2:Int):Option (Bool):=
 (E4 n).bind fun v1=>
 bif (!v1)then
  some false
 else
  (J0 n a0 a1 a2).bind fun v2=>
  (N6 n a0).bind fun v3=>
  bif (!v3)then
   B2 n v2 a2 a0 a1 (10, -1)
  else
   (N6 n a1).bind fun v4=>
   bif (!v4)then
    B2 n v2 a2 a0 a1 (10, -2)
   else
    bif (bif (decide (a2<0))then true else(decide (3<a2)))then
     B2 n v2 a2 a0 a1 (3, -3)
    else
     B2 n v2 a2 a0 a1 (0,0)
end Go.Proofs.YtfacbpehlibilaaGreatDoor
