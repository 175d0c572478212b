import Derived.Test.YtdjnbjnlnjhllaaGreatDoorFIStrs
import Derived.Test.YtdjnbjnlnjhllaaGreatDoorFICat
set_option linter.unusedVariables false
set_option linter.unusedSimpArgs false
namespace Go.Proofs.YtdjnbjnlnjhllaaGreatDoor
open Go Go.Am
def x0b(a0:Bs)(a1:(List Bs)):Option (w3T):=
 some (w3T.mk 2 a0 a1 [])
def w8G(a0:Int)(a1:w3T)(a2:w3T):Option (w3T):=
 some (w3T.mk a0 [] [] [a1,a2])
def w8w(a0:Int)(w4B:Int):Option (w4b):=
 some (w4b.mk a0 w4B)
def x0n(j2:Bool):Option (Int):=
 bif j2 then
  some 2
 else
  some (-1)
def x0m(a0:Int)(j1:Bool):Option (Int):=
 bif j1 then
  some 1
 else
  bif (decide (a0=5))then
   x0n (decide (a0=5))
  else
   bif (decide (a0=6))then
    x0n (decide (a0=6))
   else
    x0n (decide (a0=7))
def x0l(a0:Int)(j0:Bool):Option (Int):=
 bif j0 then
  some 0
 else
  bif (decide (a0=4))then
   x0m a0 (decide (a0=4))
  else
   bif (decide (a0=8))then
    x0m a0 (decide (a0=8))
   else
    x0m a0 (decide (a0=9))
def x3z(a0:Int):Option (Int):=
 bif (decide (a0=1))then
  x0l a0 (decide (a0=1))
 else
  bif (decide (a0=2))then
   x0l a0 (decide (a0=2))
  else
   x0l a0 (decide (a0=3))
def w4V(a0:w3T):Option (Bool):=
 some (bif (decide (a0.kind=8))then true else(decide (a0.kind=9)))
def x4W(a0:Bs)(k0:Nat)(s0:Unit):Option (Ctl (Bool) (Unit) (Unit)):=
 bif (!(bif (bif (bif (bif (decide (97≤(w5e a0 (↑k0:Int))))then(decide ((w5e a0 (↑k0:Int))≤122))else false)then true else(bif (decide (48≤(w5e a0 (↑k0:Int))))then(decide ((w5e a0 (↑k0:Int))≤57))else false))then true else(decide ((w5e a0 (↑k0:Int))=95)))then true else(decide ((w5e a0 (↑k0:Int))=45))))then
  some (.ret false)
 else
  some (.nxt ())
def x4X(t0:Unit):Option (Bool):=
 some true
def termName(a0:Bs):Option (Bool):=
 chk (x2c (!(bif (decide ((↑a0.length:Int)=0))then true else(decide (30<(↑a0.length:Int))))) (0<(↑a0.length:Int))) <|
 chk (x2c (!(bif (bif (decide ((↑a0.length:Int)=0))then true else(decide (30<(↑a0.length:Int))))then true else(decide ((w5e a0 0)<97)))) (0<(↑a0.length:Int))) <|
 bif (bif (bif (bif (decide ((↑a0.length:Int)=0))then true else(decide (30<(↑a0.length:Int))))then true else(decide ((w5e a0 0)<97)))then true else(decide (122<(w5e a0 0))))then
  some false
 else
  chk (a0.length≤9223372036854775807) <|
  w4h (w4T (x4W a0) a0.length ()) (x4X)
def x1s(a0:w3T)(w4B:Int)(k2:Nat)(s2:Unit):Option (Ctl (w4b×Int) (Unit) (Unit)):=
 (termName (get a0.words k2)).bind fun v9=>
 bif (!v9)then
  (w8w 10 w4B).bind fun v10=>
  some (.ret (v10,(wr .i64 (w4B+1))))
 else
  some (.nxt ())
def x1u(self:(w3T)→(Int)→(Int)→(Bool)→Option (w4b×Int))(a0:w3T)(a1:Int)(w5n:Bool)(k3:Nat)(s3:Int):Option (Ctl (w4b×Int) (Int) (Int)):=
 (self (get a0.subs k3) (wr .i64 (a1+1)) s3 w5n).bind fun v12=>
 bif (!decide (v12.1.code=0))then
  some (.ret (v12.1,v12.2))
 else
  some (.nxt v12.2)
def x1v(t3:Int):Option (w4b×Int):=
 some ((w4b.mk 0 0),t3)
def x1t(self:(w3T)→(Int)→(Int)→(Bool)→Option (w4b×Int))(a0:w3T)(a1:Int)(w5n:Bool)(w4B:Int)(t2:Unit):Option (w4b×Int):=
 w4h (w4T (x1u self a0 a1 w5n) a0.subs.length (wr .i64 (w4B+1))) (x1v)
def w7M(self:(w3T)→(Int)→(Int)→(Bool)→Option (w4b×Int))(a0:w3T)(j0:Int)(w4B:Int)(a1:Int)(w5n:Bool)(j1:Bool):Option (w4b×Int):=
 bif (bif (!decide ((↑a0.subs.length:Int)=j0))then true else(!j1))then
  (w8w 9 w4B).bind fun v4=>
  some (v4,(wr .i64 (w4B+1)))
 else
  (gd (!(decide (a0.kind=2))) (w4V a0) default).bind fun v5=>
  (gd (bif (bif (decide (a0.kind=2))then true else v5)then true else(decide (a0.kind=10))) (termName a0.name) default).bind fun v6=>
  bif (bif (bif (bif (decide (a0.kind=2))then true else v5)then true else(decide (a0.kind=10)))then(!v6)else false)then
   (w8w 10 w4B).bind fun v7=>
   some (v7,(wr .i64 (w4B+1)))
  else
   bif (bif (!(bif (bif (decide (a0.kind=2))then true else v5)then true else(decide (a0.kind=10))))then(!decide (a0.name=[]))else false)then
    (w8w 5 w4B).bind fun v8=>
    some (v8,(wr .i64 (w4B+1)))
   else
    w4h (w4T (x1s a0 w4B) a0.words.length ()) (x1t self a0 a1 w5n w4B)
def w8W(self:(w3T)→(Int)→(Int)→(Bool)→Option (w4b×Int))(w4B:Int)(a0:w3T)(a1:Int)(w5n:Bool)(j0:Int):Option (w4b×Int):=
 bif (decide (j0<0))then
  (w8w 4 w4B).bind fun v3=>
  some (v3,(wr .i64 (w4B+1)))
 else
  bif (decide (a0.kind=2))then
   w7M self a0 j0 w4B a1 w5n (decide ((↑a0.words.length:Int)≤3))
  else
   bif (decide (a0.kind=3))then
    w7M self a0 j0 w4B a1 w5n (decide ((↑a0.words.length:Int)=2))
   else
    w7M self a0 j0 w4B a1 w5n (decide ((↑a0.words.length:Int)=0))
def w5B:Nat→(w3T)→(Int)→(Int)→(Bool)→Option (w4b×Int)
 |0,_,_,_,_=>none
 |n+1,a0,a1,w4B,w5n=>
  bif (bif (decide (200<(wr .i64 (w4B+1))))then true else(decide (40<a1)))then
   (w8w 1 w4B).bind fun v1=>
   some (v1,(wr .i64 (w4B+1)))
  else
   (x3z a0.kind).bind fun v2=>
   bif (bif (decide (a0.kind=10))then w5n else false)then
    w8W (w5B n) w4B a0 a1 w5n 0
   else
    w8W (w5B n) w4B a0 a1 w5n v2
def x4e(n:Nat)(a0:w3T)(a1:Bool):Option (w4b):=
 (w5B n a0 1 0 a1).bind fun v1=>
 some v1.1
def w7r(n:Nat)(a0:w3T):Option (w4b):=
 (x4e n a0 false).bind fun v1=>
 some v1
def w6v(a0:w3W):Option ((List Bs)):=
 (x6B [a0.words,a0.w4a,a0.parts]).bind fun v2=>
 some v2
def w4n(a0:Int)(a1:Int):Option (w4b):=
 some (w4b.mk a0 a1)
def w6I(a1:Bs)(a0:(List Bs))(k0:Nat)(s0:Unit):Option (Ctl (Int) (Unit) (Unit)):=
 bif (decide (a1=(get a0 k0)))then
  some (.ret (↑k0:Int))
 else
  some (.nxt ())
def w6J(t0:Unit):Option (Int):=
 some (-1)
def w8g(a0:(List Bs))(a1:Bs):Option (Int):=
 w4h (w4T (w6I a1 a0) a0.length ()) (w6J)
def w4c(a0:(List Bs))(a1:Bs):Option (Bool):=
 (w8g a0 a1).bind fun v1=>
 some (decide (0≤v1))
def w9y(a1:(List Bs))(a0:w3T)(k0:Nat)(s0:(List Bs)):Option (Ctl ((List Bs)) ((List Bs)) ((List Bs))):=
 (w4c a1 (get a0.words k0)).bind fun v8=>
 bif (!v8)then
  w6m (s0++[(get a0.words k0)]) fun c10=>
  chk (c10.length*16≤top∧c10.length≤top) <|
  some (.nxt c10)
 else
  some (.nxt s0)
def w9z(self:(w3T)→((List Bs))→((List Bs))→Option ((List Bs)))(a0:w3T)(j1:(List Bs))(k2:Nat)(s2:(List Bs)):Option (Ctl ((List Bs)) ((List Bs)) ((List Bs))):=
 (self (get a0.subs k2) j1 s2).bind fun v26=>
 some (.nxt v26)
def w9A(t2:(List Bs)):Option ((List Bs)):=
 some t2
def w6D(self:(w3T)→((List Bs))→((List Bs))→Option ((List Bs)))(a0:w3T)(t0:(List Bs))(j1:(List Bs)):Option ((List Bs)):=
 w4h (w4T (w9z self a0 j1) a0.subs.length t0) (w9A)
def w9B(self:(w3T)→((List Bs))→((List Bs))→Option ((List Bs)))(a0:w3T)(a1:(List Bs))(t0:(List Bs)):Option ((List Bs)):=
 (w4V a0).bind fun v15=>
 bif v15 then
  chk (0≤(↑a1.length:Int)∧0≤(↑a1.length:Int)) <|
  w6m (a1++[a0.name]) fun c19=>
  chk (c19.length*16≤top∧c19.length≤top) <|
  w6D self a0 t0 c19
 else
  w6D self a0 t0 a1
def w5p:Nat→(w3T)→((List Bs))→((List Bs))→Option ((List Bs))
 |0,_,_,_=>none
 |n+1,a0,a1,l1=>
  w4h (w4T (w9y a1 a0) a0.words.length l1) (w9B (w5p n) a0 a1)
def w5P(l0:(List Bs)):Option ((List Bs)):=
 chk (l0.length<4611686018427387904) (some (y2i cfB l0))
def w7d(l0:(List Bs)):Option (List Bs):=
 chk (l0.length≤9223372036854775807) (some (cpt l0))
def w8X(n:Nat)(a0:w3T):Option ((List Bs)):=
 (w5p n a0 [] []).bind fun v1=>
 (w5P v1).bind fun v3=>
 (w7d v3).bind fun v5=>
 some (Lib.compact v3)
def x1w(self:(w3T)→(Bs)→Option (Bool×Bool))(a0:w3T)(a1:Bs)(k1:Nat)(s1:Bool×Bool):Option (Ctl (Bool×Bool) (Bool×Bool) (Bool×Bool)):=
 (self (get a0.subs k1) a1).bind fun v2=>
 some (.nxt ((bif s1.1 then true else v2.1),(bif s1.2 then true else v2.2)))
def x1x(t1:Bool×Bool):Option (Bool×Bool):=
 some (t1.1,t1.2)
def w8Y(self:(w3T)→(Bs)→Option (Bool×Bool))(a0:w3T)(a1:Bs)(j0:Bool×Bool):Option (Bool×Bool):=
 w4h (w4T (x1w self a0 a1) a0.subs.length (j0.1,j0.2)) (x1x)
def w7e:Nat→(w3T)→(Bs)→Option (Bool×Bool)
 |0,_,_=>none
 |n+1,a0,a1=>
  bif (bif (decide (a0.kind=2))then(decide (a0.name=a1))else false)then
   w8Y (w7e n) a0 a1 ((decide (0<(↑a0.words.length:Int))),(decide ((↑a0.words.length:Int)=0)))
  else
   w8Y (w7e n) a0 a1 (false,false)
def w8h(self:(w3T)→Option ((List Bs)))(a0:w3T)(k1:Nat)(s1:(List Bs)):Option (Ctl ((List Bs)) ((List Bs)) ((List Bs))):=
 (self (get a0.subs k1)).bind fun v14=>
 w6m (s1++v14) fun c15=>
 chk (c15.length*16≤top∧c15.length≤top) <|
 some (.nxt c15)
def w8i(t1:(List Bs)):Option ((List Bs)):=
 some t1
def w5D(self:(w3T)→Option ((List Bs)))(a0:w3T)(j0:(List Bs)):Option ((List Bs)):=
 w4h (w4T (w8h self a0) a0.subs.length j0) (w8i)
def w4o:Nat→(w3T)→Option ((List Bs))
 |0,_=>none
 |n+1,a0=>
  (w4V a0).bind fun v1=>
  bif v1 then
   w6m ([]++[a0.name]) fun c3=>
   chk (c3.length*16≤top∧c3.length≤top) <|
   w5D (w4o n) a0 c3
  else
   w5D (w4o n) a0 []
def w9C(n:Nat)(v2:(List Bs))(a0:w3W)(v4:(List Bs))(k0:Nat)(s0:Unit):Option (Ctl (w4b) (Unit) (Unit)):=
 (termName (get v2 k0)).bind fun v17=>
 bif (!v17)then
  (w4n 10 (↑k0:Int)).bind fun v18=>
  some (.ret v18)
 else
  chk (0≤(↑k0:Int)∧k0≤v2.length) <|
  (w4c (v2.take k0) (get v2 k0)).bind fun v21=>
  bif v21 then
   (w4n 7 (↑k0:Int)).bind fun v22=>
   some (.ret v22)
  else
   (w7e n a0.form (get v2 k0)).bind fun v23=>
   bif (decide ((↑k0:Int)<(↑a0.words.length:Int)))then
    (w4c v4 (get v2 k0)).bind fun v24=>
    bif (!v24)then
     (w4n 15 (↑k0:Int)).bind fun v25=>
     some (.ret v25)
    else
     some (.nxt ())
   else
    bif (decide ((↑k0:Int)<(wr .i64 ((↑a0.words.length:Int)+(↑a0.w4a.length:Int)))))then
     bif (bif (!v23.1)then(!v23.2)else false)then
      (w4n 15 (↑k0:Int)).bind fun v26=>
      some (.ret v26)
     else
      some (.nxt ())
    else
     bif v23.1 then
      (w4n 5 (↑k0:Int)).bind fun v27=>
      some (.ret v27)
     else
      bif (!v23.2)then
       (w4n 15 (↑k0:Int)).bind fun v28=>
       some (.ret v28)
      else
       some (.nxt ())
def w9E(v29:(List Bs))(a0:w3W)(k1:Nat)(s1:Unit):Option (Ctl (w4b) (Unit) (Unit)):=
 chk (0≤(↑k1:Int)∧k1≤v29.length) <|
 (w4c (v29.take k1) (get v29 k1)).bind fun v37=>
 (gd (!v37) (w4c a0.words (get v29 k1)) default).bind fun v38=>
 bif (bif v37 then true else v38)then
  (w4n 7 (-1)).bind fun v39=>
  some (.ret v39)
 else
  some (.nxt ())
def w9F(t1:Unit):Option (w4b):=
 some (w4b.mk 0 0)
def w9D(n:Nat)(a0:w3W)(t0:Unit):Option (w4b):=
 (w4o n a0.form).bind fun v29=>
 w4h (w4T (w9E v29 a0) v29.length ()) (w9F)
def w6V(n:Nat)(a0:w3W):Option (w4b):=
 (w7r n a0.form).bind fun v1=>
 bif (!decide (v1.code=0))then
  some v1
 else
  (w6v a0).bind fun v2=>
  bif (decide (300<(↑v2.length:Int)))then
   (w4n 2 (-1)).bind fun v3=>
   some v3
  else
   (w8X n a0.form).bind fun v4=>
   w4h (w4T (w9C n v2 a0 v4) v2.length ()) (w9D n a0)
def x0h(w5n:(List Bs))(s0:Int):Option (Ctl (Bs×Int) (Int) (Unit)):=
 (itoa s0).bind fun v4=>
 chk (w8R [118] v4) <|
 (w4c w5n (x5Z [118] v4)).bind fun v6=>
 bif (!v6)then
  some (.ret ((x5Z [118] v4),(wr .i64 (s0+1))))
 else
  some (.nxt (wr .i64 (s0+1)))
def x2R(t0:Unit):Option (Bs×Int):=
 none
def x1Y(n:Nat)(w4B:Int)(w5n:(List Bs)):Option (Bs×Int):=
 w4h (w4K (x0h w5n) n w4B) (x2R)
def w9M(a1:(List w4d))(a0:w3T)(k0:Nat)(s2:Int):Option (Ctl (Ctl (w3T×Int) ((List Bs)) ((List Bs))) (Int) (Bs)):=
 bif (decide (0≤s2))then
  chk (0≤s2∧s2<(↑a1.length:Int)) <|
  bif (decide (((get a1 s2.toNat).from_)=(get a0.words k0)))then
   some (.brk ((get a1 s2.toNat).to_))
  else
   some (.nxt (wr .i64 (s2-1)))
 else
  some (.brk (get a0.words k0))
def x0S(s0:(List Bs))(t2:Bs):Option (Ctl (w3T×Int) ((List Bs)) ((List Bs))):=
 w6m (s0++[t2]) fun c16=>
 chk (c16.length*16≤top∧c16.length≤top) <|
 some (.nxt c16)
def x0R(n:Nat)(a1:(List w4d))(a0:w3T)(k0:Nat)(s0:(List Bs)):Option (Ctl (w3T×Int) ((List Bs)) ((List Bs))):=
 w4h (w4K (w9M a1 a0 k0) n (wr .i64 ((↑a1.length:Int)-1))) (x0S s0)
def x0T(self:(w3T)→((List w4d))→(Int)→((List Bs))→Option (w3T×Int))(a0:w3T)(j3:Int×Bs×(List w4d))(w5n:(List Bs))(k4:Nat)(s4:Int×(List w3T)):Option (Ctl (w3T×Int) (Int×(List w3T)) (Int×(List w3T))):=
 (self (get a0.subs k4) j3.2.2 s4.1 w5n).bind fun v38=>
 w6m (s4.2++[v38.1]) fun c40=>
 chk (c40.length*72≤top∧c40.length≤top) <|
 some (.nxt (v38.2,c40))
def x0U(a0:w3T)(j3:Int×Bs×(List w4d))(t0:(List Bs))(t4:Int×(List w3T)):Option (w3T×Int):=
 some ((w3T.mk a0.kind j3.2.1 t0 t4.2),t4.1)
def w8y(self:(w3T)→((List w4d))→(Int)→((List Bs))→Option (w3T×Int))(a0:w3T)(w5n:(List Bs))(t0:(List Bs))(j3:Int×Bs×(List w4d)):Option (w3T×Int):=
 w4h (w4T (x0T self a0 j3 w5n) a0.subs.length (j3.1,[])) (x0U a0 j3 t0)
def x0V(self:(w3T)→((List w4d))→(Int)→((List Bs))→Option (w3T×Int))(n:Nat)(a0:w3T)(w4B:Int)(w5n:(List Bs))(a1:(List w4d))(t0:(List Bs)):Option (w3T×Int):=
 (w4V a0).bind fun v21=>
 bif v21 then
  (x1Y n w4B w5n).bind fun v22=>
  chk (0≤(↑a1.length:Int)∧0≤(↑a1.length:Int)) <|
  w6m (a1++[(w4d.mk a0.name v22.1)]) fun c26=>
  chk (c26.length*32≤top∧c26.length≤top) <|
  w8y self a0 w5n t0 (v22.2,v22.1,c26)
 else
  w8y self a0 w5n t0 (w4B,a0.name,a1)
def w6r:Nat→(w3T)→((List w4d))→(Int)→((List Bs))→Option (w3T×Int)
 |0,_,_,_,_=>none
 |n+1,a0,a1,w4B,w5n=>
  w4h (w4T (x0R n a1 a0) a0.words.length []) (x0V (w6r n) n a0 w4B w5n a1)
def x2k(v1:(List Bs))(a1:(List w4d))(k0:Nat)(k1:Nat)(s1:Unit):Option (Ctl (Ctl (w3T) (Unit) (Unit)) (Unit) (Unit)):=
 bif (decide ((get v1 k1)=((get a1 k0).from_)))then
  none
 else
  some (.nxt ())
def x2l(t1:Unit):Option (Ctl (w3T) (Unit) (Unit)):=
 some (.nxt ())
def x2m(v1:(List Bs))(a1:(List w4d))(k0:Nat)(s0:Unit):Option (Ctl (w3T) (Unit) (Unit)):=
 w4h (w4T (x2k v1 a1 k0) v1.length ()) (x2l)
def x0W(n:Nat)(a0:w3T)(a1:(List w4d))(v1:(List Bs))(t0:Unit):Option (w3T):=
 (w6r n a0 a1 0 v1).bind fun v2=>
 some v2.1
def x2t(n:Nat)(a0:w3T)(a1:(List w4d)):Option (w3T):=
 (w8X n a0).bind fun v1=>
 w4h (w4T (x2m v1 a1) a1.length ()) (x0W n a0 a1 v1)
def x0G(n:Nat)(a0:w3T):Option (w3T):=
 (x2t n a0 []).bind fun v1=>
 some v1
def w7o(a0 l0:(List Bs)):Option (List Bs):=
 bif l0.isEmpty then some a0 else none
def w9X(a0:w3W)(a1:w3T):Option (Bool):=
 (gd (bif (decide (a1.kind=2))then(decide ((↑a1.words.length:Int)=0))else false) (w4c a0.parts a1.name) default).bind fun v1=>
 some (bif (bif (decide (a1.kind=2))then(decide ((↑a1.words.length:Int)=0))else false)then v1 else false)
def x1C(a1:(List Bs))(a0:w3T)(x0g:(List Bs))(k0:Nat)(s0:(List Bs)):Option (Ctl (w3T) ((List Bs)) ((List Bs))):=
 (w4c a1 (get a0.words k0)).bind fun v23=>
 bif v23 then
  chk (w8R [63] (get a0.words k0)) <|
  w6m (s0++[(x5Z [63] (get a0.words k0))]) fun c26=>
  chk (c26.length*16≤top∧c26.length≤top) <|
  some (.nxt c26)
 else
  (w4c x0g (get a0.words k0)).bind fun v31=>
  bif v31 then
   chk (w8R [46] (get a0.words k0)) <|
   w6m (s0++[(x5Z [46] (get a0.words k0))]) fun c34=>
   chk (c34.length*16≤top∧c34.length≤top) <|
   some (.nxt c34)
  else
   w6m (s0++[(get a0.words k0)]) fun c40=>
   chk (c40.length*16≤top∧c40.length≤top) <|
   some (.nxt c40)
def x1D(self:(w3T)→((List Bs))→(Int)→(Bs)→((List Bs))→((List w3T))→((List Bs))→((List Bs))→((List Bs))→Option (w3T))(a0:w3T)(j1:Bs×(List Bs))(w4B:Int)(x0X:Bs)(x0Y:(List Bs))(x0Z:(List w3T))(x0g:(List Bs))(x0Q:(List Bs))(w8T:(List Bs))(k2:Nat)(s2:(List w3T)):Option (Ctl (w3T) ((List w3T)) ((List w3T))):=
 (self (get a0.subs k2) j1.2 w4B x0X x0Y x0Z x0g x0Q w8T).bind fun v65=>
 w6m (s2++[v65]) fun c67=>
 chk (c67.length*72≤top∧c67.length≤top) <|
 some (.nxt c67)
def x1E(a0:w3T)(j1:Bs×(List Bs))(t0:(List Bs))(t2:(List w3T)):Option (w3T):=
 some (w3T.mk a0.kind j1.1 t0 t2)
def w6X(self:(w3T)→((List Bs))→(Int)→(Bs)→((List Bs))→((List w3T))→((List Bs))→((List Bs))→((List Bs))→Option (w3T))(a0:w3T)(w4B:Int)(x0X:Bs)(x0Y:(List Bs))(x0Z:(List w3T))(x0g:(List Bs))(x0Q:(List Bs))(w8T:(List Bs))(t0:(List Bs))(j1:Bs×(List Bs)):Option (w3T):=
 w4h (w4T (x1D self a0 j1 w4B x0X x0Y x0Z x0g x0Q w8T) a0.subs.length []) (x1E a0 j1 t0)
def x1F(self:(w3T)→((List Bs))→(Int)→(Bs)→((List Bs))→((List w3T))→((List Bs))→((List Bs))→((List Bs))→Option (w3T))(a0:w3T)(a1:(List Bs))(w4B:Int)(x0X:Bs)(x0Y:(List Bs))(x0Z:(List w3T))(x0g:(List Bs))(x0Q:(List Bs))(w8T:(List Bs))(t0:(List Bs)):Option (w3T):=
 (w4V a0).bind fun v45=>
 bif v45 then
  (w7o a1 []).bind fun v46=>
  w6m (v46++[a0.name]) fun c48=>
  chk (c48.length*16≤top∧c48.length≤top) <|
  chk (w8R [63] a0.name) <|
  w6X self a0 w4B x0X x0Y x0Z x0g x0Q w8T t0 ((x5Z [63] a0.name),c48)
 else
  (w9X (w3W.mk (w3T.mk w4B x0X x0Y x0Z) x0g x0Q w8T) a0).bind fun v54=>
  bif v54 then
   chk (w8R [43] a0.name) <|
   w6X self a0 w4B x0X x0Y x0Z x0g x0Q w8T t0 ((x5Z [43] a0.name),a1)
  else
   (gd (decide (a0.kind=2)) (w4c x0Q a0.name) default).bind fun v56=>
   bif (bif (decide (a0.kind=2))then v56 else false)then
    chk (w8R [33] a0.name) <|
    w6X self a0 w4B x0X x0Y x0Z x0g x0Q w8T t0 ((x5Z [33] a0.name),a1)
   else
    w6X self a0 w4B x0X x0Y x0Z x0g x0Q w8T t0 (a0.name,a1)
def w7N:Nat→(w3T)→((List Bs))→(Int)→(Bs)→((List Bs))→((List w3T))→((List Bs))→((List Bs))→((List Bs))→Option (w3T)
 |0,_,_,_,_,_,_,_,_,_=>none
 |n+1,a0,a1,w4B,x0X,x0Y,x0Z,x0g,x0Q,w8T=>
  w4h (w4T (x1C a1 a0 x0g) a0.words.length []) (x1F (w7N n) a0 a1 w4B x0X x0Y x0Z x0g x0Q w8T)
def x1G(a0:Bs)(a1:(List Bs))(k0:Nat)(s0:(List Bs)):Option (Ctl ((List Bs)) ((List Bs)) ((List Bs))):=
 chk (w8R a0 (get a1 k0)) <|
 w6m (s0++[(x5Z a0 (get a1 k0))]) fun c10=>
 chk (c10.length*16≤top∧c10.length≤top) <|
 some (.nxt c10)
def x1H(t0:(List Bs)):Option ((List Bs)):=
 some t0
def x0i(a0:Bs)(a1:(List Bs)):Option ((List Bs)):=
 w4h (w4T (x1G a0 a1) a1.length []) (x1H)
def x3D(n:Nat)(a0:w3W):Option (w3W):=
 (w7N n a0.form [] a0.form.kind a0.form.name a0.form.words a0.form.subs a0.words a0.w4a a0.parts).bind fun v1=>
 (x0i [46] a0.words).bind fun v2=>
 (x0i [33] a0.w4a).bind fun v3=>
 (x0i [43] a0.parts).bind fun v4=>
 some (w3W.mk v1 v2 v3 v4)
def w6K(a1:(List Bs))(a0:(List Bs))(k0:Nat)(s0:Unit):Option (Ctl (Bool) (Unit) (Unit)):=
 chk ((↑k0:Int)<(↑a1.length:Int)) <|
 bif (!decide ((get a0 k0)=(get a1 k0)))then
  some (.ret false)
 else
  some (.nxt ())
def w6L(t0:Unit):Option (Bool):=
 some true
def w5E(a0:(List Bs))(a1:(List Bs)):Option (Bool):=
 bif (!decide ((↑a0.length:Int)=(↑a1.length:Int)))then
  some false
 else
  w4h (w4T (w6K a1 a0) a0.length ()) (w6L)
def x2u(self:(w3T)→(w3T)→Option (Bool))(a1:w3T)(a0:w3T)(k0:Nat)(s0:Unit):Option (Ctl (Bool) (Unit) (Unit)):=
 chk ((↑k0:Int)<(↑a1.subs.length:Int)) <|
 (self (get a0.subs k0) (get a1.subs k0)).bind fun v4=>
 bif (!v4)then
  some (.ret false)
 else
  some (.nxt ())
def x2v(t0:Unit):Option (Bool):=
 some true
def x1z:Nat→(w3T)→(w3T)→Option (Bool)
 |0,_,_=>none
 |n+1,a0,a1=>
  (gd (!(bif (!decide (a0.kind=a1.kind))then true else(!decide (a0.name=a1.name)))) (w5E a0.words a1.words) default).bind fun v1=>
  bif (bif (bif (bif (!decide (a0.kind=a1.kind))then true else(!decide (a0.name=a1.name)))then true else(!v1))then true else(!decide ((↑a0.subs.length:Int)=(↑a1.subs.length:Int))))then
   some false
  else
   chk (a0.subs.length≤9223372036854775807) <|
   w4h (w4T (x2u (x1z n) a1 a0) a0.subs.length ()) (x2v)
def w8E(a1:Bs)(a2:Bs)(m0:(List (Bs×w3V))):Option (Bool×(List (Bs×w3V))):=
 bif (assoc a1 m0).isSome then
  some ((decide ((((assoc a1 m0).getD default).text)=a2)),m0)
 else
  w6m (w5l a1 (w3V.mk a1 a2 (w3T.mk 0 [] [] [])) m0) fun c1=>
  some (true,c1)
def w8F(a1:w3T)(a0:w3W)(a2:w3T)(k2:Nat)(s2:(List (Bs×w3V))):Option (Ctl (Bool×(List (Bs×w3V))) ((List (Bs×w3V))) ((List (Bs×w3V)))):=
 (gd (!(assoc (get a1.words k2) s2).isSome) (w4c a0.words (get a1.words k2)) default).bind fun v12=>
 bif (bif (assoc (get a1.words k2) s2).isSome then true else v12)then
  chk ((↑k2:Int)<(↑a2.words.length:Int)) <|
  (w8E (get a1.words k2) (get a2.words k2) s2).bind fun v14=>
  bif (!v14.1)then
   some (.ret (false,v14.2))
  else
   some (.nxt v14.2)
 else
  chk ((↑k2:Int)<(↑a2.words.length:Int)) <|
  bif (!decide ((get a1.words k2)=(get a2.words k2)))then
   some (.ret (false,s2))
  else
   some (.nxt s2)
def w9Z(self:(w3W)→(w3T)→(w3T)→((List (Bs×w3V)))→Option (Bool×(List (Bs×w3V))))(a2:w3T)(a0:w3W)(a1:w3T)(k3:Nat)(s3:(List (Bs×w3V))):Option (Ctl (Bool×(List (Bs×w3V))) ((List (Bs×w3V))) ((List (Bs×w3V)))):=
 chk ((↑k3:Int)<(↑a2.subs.length:Int)) <|
 (self a0 (get a1.subs k3) (get a2.subs k3) s3).bind fun v19=>
 bif (!v19.1)then
  some (.ret (false,v19.2))
 else
  some (.nxt v19.2)
def x0a(t3:(List (Bs×w3V))):Option (Bool×(List (Bs×w3V))):=
 some (true,t3)
def w9Y(self:(w3W)→(w3T)→(w3T)→((List (Bs×w3V)))→Option (Bool×(List (Bs×w3V))))(a2:w3T)(a0:w3W)(a1:w3T)(t2:(List (Bs×w3V))):Option (Bool×(List (Bs×w3V))):=
 w4h (w4T (w9Z self a2 a0 a1) a1.subs.length t2) (x0a)
def w6W(self:(w3W)→(w3T)→(w3T)→((List (Bs×w3V)))→Option (Bool×(List (Bs×w3V))))(a1:w3T)(a0:w3W)(a2:w3T)(j1:(List (Bs×w3V))):Option (Bool×(List (Bs×w3V))):=
 w4h (w4T (w8F a1 a0 a2) a1.words.length j1) (w9Y self a2 a0 a1)
def w6b(self:(w3W)→(w3T)→(w3T)→((List (Bs×w3V)))→Option (Bool×(List (Bs×w3V))))(a1:w3T)(a2:w3T)(m0:(List (Bs×w3V)))(a0:w3W)(j0:Bool):Option (Bool×(List (Bs×w3V))):=
 bif j0 then
  (w8E a1.name a2.name m0).bind fun v7=>
  bif (!v7.1)then
   some (false,v7.2)
  else
   w6W self a1 a0 a2 v7.2
 else
  bif (!decide (a1.name=a2.name))then
   some (false,m0)
  else
   w6W self a1 a0 a2 m0
def w4N:Nat→(w3W)→(w3T)→(w3T)→((List (Bs×w3V)))→Option (Bool×(List (Bs×w3V)))
 |0,_,_,_,_=>none
 |n+1,a0,a1,a2,m0=>
  (w9X a0 a1).bind fun v1=>
  bif v1 then
   bif (assoc a1.name m0).isSome then
    (x1z n (((assoc a1.name m0).getD default).form) a2).bind fun v2=>
    some (v2,m0)
   else
    w6m (w5l a1.name (w3V.mk a1.name [] a2) m0) fun c3=>
    some (true,c3)
  else
   bif (bif (!decide (a1.kind=a2.kind))then true else(!decide ((↑a1.words.length:Int)=(↑a2.words.length:Int))))then
    some (false,m0)
   else
    (w4V a1).bind fun v5=>
    bif v5 then
     w6b (w4N n) a1 a2 m0 a0 v5
    else
     (gd (decide (a1.kind=2)) (w4c a0.w4a a1.name) default).bind fun v6=>
     w6b (w4N n) a1 a2 m0 a0 (bif (decide (a1.kind=2))then v6 else false)
def w8q(a1:Bs)(l0:(List Bs))(k0:Nat)(s0:Unit):Option (Ctl (Int) (Unit) (Unit)):=
 bif (decide (a1=(get l0 k0)))then
  some (.ret (↑k0:Int))
 else
  some (.nxt ())
def w8r(t0:Unit):Option (Int):=
 some (-1)
def w9n(a1:Bs)(l0:(List Bs)):Option (Int):=
 chk (l0.length≤9223372036854775807) <|
 w4h (w4T (w8q a1 l0) l0.length ()) (w8r)
def w8s(a1:Bs)(l0:(List Bs)):Option (Bool):=
 (w9n a1 l0).bind fun v1=>
 some (decide (0≤v1))
def w9o(a0:(List Bs)):Option (List Bs):=
 some a0
def x3E(self:(w3T)→Option (w3T))(a0:w3T)(k0:Nat)(s0:(List w3T)):Option (Ctl (w3T) ((List w3T)) ((List w3T))):=
 (self (get a0.subs k0)).bind fun v9=>
 w6m (s0++[v9]) fun c11=>
 chk (c11.length*72≤top∧c11.length≤top) <|
 some (.nxt c11)
def x3F(a0:w3T)(v1:(List Bs))(t0:(List w3T)):Option (w3T):=
 some (w3T.mk a0.kind a0.name v1 t0)
def x2I:Nat→(w3T)→Option (w3T)
 |0,_=>none
 |n+1,a0=>
  (w9o a0.words).bind fun v1=>
  w4h (w4T (x3E (x2I n) a0) a0.subs.length []) (x3F a0 v1)
def x2S(v3:(List Bs))(v2:Bool×(List (Bs×w3V)))(k0:Nat)(s0:(List Bs)):Option (Ctl ((List w3V)×Bool) ((List Bs)) ((List Bs))):=
 w6m (s0++[((assoc (get v3 k0) v2.2).getD default).text]) fun c11=>
 chk (c11.length*16≤top∧c11.length≤top) <|
 some (.nxt c11)
def x2T(n:Nat)(v1:w3W)(v19:(List Bs))(v2:Bool×(List (Bs×w3V)))(t0:(List Bs))(k1:Nat)(s1:(List w3V)):Option (Ctl ((List w3V)×Bool) ((List w3V)) ((List w3V))):=
 (w4c v1.words (get v19 k1)).bind fun v38=>
 (gd v38 (w8s (((assoc (get v19 k1) v2.2).getD default).text) t0) (default:Bool)).bind fun v39=>
 bif (bif v38 then v39 else false)then
  some (.ret ([],false))
 else
  chk (0≤1∧1≤(get v19 k1).length) <|
  (w4c v1.parts (get v19 k1)).bind fun v42=>
  bif v42 then
   (x2I n (((assoc (get v19 k1) v2.2).getD default).form)).bind fun v43=>
   w6m (s1++[(w3V.mk ((get v19 k1).drop 1) (((assoc (get v19 k1) v2.2).getD default).text) v43)]) fun c45=>
   chk (c45.length*104≤top∧c45.length≤top) <|
   some (.nxt c45)
  else
   w6m (s1++[(w3V.mk ((get v19 k1).drop 1) (((assoc (get v19 k1) v2.2).getD default).text) (((assoc (get v19 k1) v2.2).getD default).form))]) fun c51=>
   chk (c51.length*104≤top∧c51.length≤top) <|
   some (.nxt c51)
def x2U(t1:(List w3V)):Option ((List w3V)×Bool):=
 some (t1,true)
def x2V(n:Nat)(v1:w3W)(v2:Bool×(List (Bs×w3V)))(t0:(List Bs)):Option ((List w3V)×Bool):=
 (w6v v1).bind fun v16=>
 (w4o n v1.form).bind fun v17=>
 (x6B [v16,v17]).bind fun v19=>
 w4h (w4T (x2T n v1 v19 v2 t0) v19.length []) (x2U)
def x3g(n:Nat)(a0:w3W)(a1:w3T):Option ((List w3V)×Bool):=
 (x3D n a0).bind fun v1=>
 (w4N n v1 v1.form a1 []).bind fun v2=>
 bif (!v2.1)then
  some ([],false)
 else
  (w4o n v1.form).bind fun v3=>
  w4h (w4T (x2S v3 v2) v3.length []) (x2V n v1 v2)
def x4m(n:Nat)(a0:w3W)(a1:w3T):Option ((List w3V)×Bool×w4b):=
 (w6V n a0).bind fun v1=>
 bif (!decide (v1.code=0))then
  some ([],false,v1)
 else
  (w7r n a1).bind fun v2=>
  bif (!decide (v2.code=0))then
   some ([],false,v2)
  else
   (x0G n a1).bind fun v3=>
   (x3g n a0 v3).bind fun v4=>
   some (v4.1,v4.2,(w4b.mk 0 0))
def x2n(self:(w3T)→(Int)→(Int)→(Bs)→((List Bs))→((List w3T))→((List Bs))→((List Bs))→((List Bs))→((List w4l))→Option (Int×(List w4l)))(a0:w3T)(w5n:Int)(y1u:Bs)(y1v:(List Bs))(y1w:(List w3T))(y1x:(List Bs))(y1y:(List Bs))(y1z:(List Bs))(k1:Nat)(s1:Int×(List w4l)):Option (Ctl (Int×(List w4l)) (Int×(List w4l)) (Int×(List w4l))):=
 (self (get a0.subs k1) s1.1 w5n y1u y1v y1w y1x y1y y1z s1.2).bind fun v10=>
 some (.nxt (v10.1,v10.2))
def x2o(t1:Int×(List w4l)):Option (Int×(List w4l)):=
 some (t1.1,t1.2)
def x1a(self:(w3T)→(Int)→(Int)→(Bs)→((List Bs))→((List w3T))→((List Bs))→((List Bs))→((List Bs))→((List w4l))→Option (Int×(List w4l)))(a0:w3T)(w5n:Int)(y1u:Bs)(y1v:(List Bs))(y1w:(List w3T))(y1x:(List Bs))(y1y:(List Bs))(y1z:(List Bs))(w4B:Int)(j0:(List w4l)):Option (Int×(List w4l)):=
 w4h (w4T (x2n self a0 w5n y1u y1v y1w y1x y1y y1z) a0.subs.length ((wr .i64 (w4B+1)),j0)) (x2o)
def w9p:Nat→(w3T)→(Int)→(Int)→(Bs)→((List Bs))→((List w3T))→((List Bs))→((List Bs))→((List Bs))→((List w4l))→Option (Int×(List w4l))
 |0,_,_,_,_,_,_,_,_,_,_=>none
 |n+1,a0,w4B,w5n,y1u,y1v,y1w,y1x,y1y,y1z,l3=>
  (x3g n (w3W.mk (w3T.mk w5n y1u y1v y1w) y1x y1y y1z) a0).bind fun v1=>
  bif v1.2 then
   w6m (l3++[(w4l.mk w4B v1.1)]) fun c3=>
   chk (c3.length*32≤top∧c3.length≤top) <|
   x1a (w9p n) a0 w5n y1u y1v y1w y1x y1y y1z w4B c3
  else
   x1a (w9p n) a0 w5n y1u y1v y1w y1x y1y y1z w4B l3
def x5b(n:Nat)(a0:w3W)(a1:w3T):Option ((List w4l)×w4b):=
 (w6V n a0).bind fun v1=>
 bif (!decide (v1.code=0))then
  some ([],v1)
 else
  (w7r n a1).bind fun v2=>
  bif (!decide (v2.code=0))then
   some ([],v2)
  else
   (x0G n a1).bind fun v3=>
   (w9p n v3 0 a0.form.kind a0.form.name a0.form.words a0.form.subs a0.words a0.w4a a0.parts []).bind fun v4=>
   some (v4.2,(w4b.mk 0 0))
def w5y(a0:(List Bs))(a1:(List Bs))(s0:Int):Option (Ctl (Bool) (Int) (Unit)):=
 bif (decide (s0<(↑a0.length:Int)))then
  chk (0≤s0∧s0<(↑a0.length:Int)) <|
  chk (s0<(↑a1.length:Int)) <|
  bif (!decide ((get a0 s0.toNat)=(get a1 s0.toNat)))then
   some (.ret false)
  else
   some (.nxt (wr .i64 (s0+1)))
 else
  some (.brk ())
def w8H(t0:Unit):Option (Bool):=
 some true
def w6i(n:Nat)(a0:(List Bs))(a1:(List Bs)):Option (Bool):=
 bif (!decide ((↑a0.length:Int)=(↑a1.length:Int)))then
  some false
 else
  w4h (w4K (w5y a0 a1) n 0) (w8H)
def w5H(self:(w3T)→(w3T)→Option (Bool))(a0:w3T)(a1:w3T)(s0:Int):Option (Ctl (Bool) (Int) (Unit)):=
 bif (decide (s0<(↑a0.subs.length:Int)))then
  chk (0≤s0∧s0<(↑a0.subs.length:Int)) <|
  chk (s0<(↑a1.subs.length:Int)) <|
  (self (get a0.subs s0.toNat) (get a1.subs s0.toNat)).bind fun v8=>
  bif (!v8)then
   some (.ret false)
  else
   some (.nxt (wr .i64 (s0+1)))
 else
  some (.brk ())
def w8U(t0:Unit):Option (Bool):=
 some true
def w4t:Nat→(w3T)→(w3T)→Option (Bool)
 |0,_,_=>none
 |n+1,a0,a1=>
  (gd (!(bif (!decide (a0.kind=a1.kind))then true else(!decide (a0.name=a1.name)))) (w6i n a0.words a1.words) default).bind fun v1=>
  bif (bif (bif (bif (!decide (a0.kind=a1.kind))then true else(!decide (a0.name=a1.name)))then true else(!v1))then true else(!decide ((↑a0.subs.length:Int)=(↑a1.subs.length:Int))))then
   some false
  else
   w4h (w4K (w5H (w4t n) a0 a1) n 0) (w8U)
def w5j(n:Nat):Option (Bool):=
 (x0b [112] []).bind fun v1=>
 (x0b [113] []).bind fun v2=>
 (w8G 5 v1 v2).bind fun v3=>
 (w8G 5 (w3T.mk 1 [] [] []) (w3T.mk 4 [] [] [(w3T.mk 1 [] [] [])])).bind fun v6=>
 (x4m n (w3W.mk v3 [] [] [[112],[113]]) v6).bind fun v7=>
 (w8G 5 (w3T.mk 1 [] [] []) (w3T.mk 4 [] [] [(w3T.mk 1 [] [] [])])).bind fun v8=>
 (x5b n (w3W.mk v3 [] [] [[112],[113]]) v8).bind fun v9=>
 chk (x2c (bif (bif (bif (decide (v7.2.2.code=0))then(decide (v9.2.code=0))else false)then v7.2.1 else false)then(decide ((↑v7.1.length:Int)=2))else false) (0<(↑v7.1.length:Int))) <|
 (gd (bif (bif (bif (decide (v7.2.2.code=0))then(decide (v9.2.code=0))else false)then v7.2.1 else false)then(decide ((↑v7.1.length:Int)=2))else false) (w4t n ((get v7.1 0).form) (w3T.mk 1 [] [] [])) default).bind fun v12=>
 chk (x2c (bif (bif (bif (bif (decide (v7.2.2.code=0))then(decide (v9.2.code=0))else false)then v7.2.1 else false)then(decide ((↑v7.1.length:Int)=2))else false)then v12 else false) (1<(↑v7.1.length:Int))) <|
 (gd (bif (bif (bif (bif (decide (v7.2.2.code=0))then(decide (v9.2.code=0))else false)then v7.2.1 else false)then(decide ((↑v7.1.length:Int)=2))else false)then v12 else false) (w4t n ((get v7.1 1).form) (w3T.mk 4 [] [] [(w3T.mk 1 [] [] [])])) default).bind fun v15=>
 chk (x2c (bif (bif (bif (bif (bif (bif (decide (v7.2.2.code=0))then(decide (v9.2.code=0))else false)then v7.2.1 else false)then(decide ((↑v7.1.length:Int)=2))else false)then v12 else false)then v15 else false)then(decide ((↑v9.1.length:Int)=1))else false) (0<(↑v9.1.length:Int))) <|
 some (bif (bif (bif (bif (bif (bif (bif (decide (v7.2.2.code=0))then(decide (v9.2.code=0))else false)then v7.2.1 else false)then(decide ((↑v7.1.length:Int)=2))else false)then v12 else false)then v15 else false)then(decide ((↑v9.1.length:Int)=1))else false)then(decide (((get v9.1 0).at_)=0))else false)
def w7s(a0:Int):Option (Int):=
 bif (bif (decide (a0<1))then true else(decide (9<a0)))then
  some (-1)
 else
  chk (0≤a0∧a0<10) <|
  some (get [0,0,0,0,1,2,2,2,1,1] a0.toNat)
def w8L(a0:Bs)(s0:Int):Option (Ctl (Bool) (Int) (Unit)):=
 bif (decide (s0<(↑a0.length:Int)))then
  chk (0≤s0∧s0<(↑a0.length:Int)) <|
  bif (bif (!(bif (decide (97≤(w5e a0 s0)))then(decide ((w5e a0 s0)≤122))else false))then(bif (decide (s0=0))then true else(!(bif (bif (bif (decide (48≤(w5e a0 s0)))then(decide ((w5e a0 s0)≤57))else false)then true else(decide ((w5e a0 s0)=95)))then true else(decide ((w5e a0 s0)=45)))))else false)then
   some (.ret false)
  else
   some (.nxt (wr .i64 (s0+1)))
 else
  some (.brk ())
def x0q(t0:Unit):Option (Bool):=
 some true
def w6U(n:Nat)(a0:Bs):Option (Bool):=
 bif (bif (decide ((↑a0.length:Int)<1))then true else(decide (30<(↑a0.length:Int))))then
  some false
 else
  w4h (w4K (w8L a0) n 0) (x0q)
def w6n(s0:(List w3Y)×Int×Nat)(s12:(List w3Y)×Int×Nat):Option (Ctl (Ctl (w4b) ((List w3Y)×Int×Nat) (Unit)) ((List w3Y)×Int×Nat) ((List w3Y)×Nat)):=
 bif (decide (0≤s12.2.1))then
  chk (0≤s12.2.1∧s12.2.1<(↑(((get s0.1 ((wr .i64 ((↑s0.2.2:Int)-1)).toNat)).f.subs).length):Int)) <|
  chk (s12.2.2≤s12.1.length) <|
  w6m ((s12.1.take s12.2.2)++[(w3Y.mk (get ((get s0.1 ((wr .i64 ((↑s0.2.2:Int)-1)).toNat)).f.subs) s12.2.1.toNat) (wr .i64 (((get s0.1 ((wr .i64 ((↑s0.2.2:Int)-1)).toNat)).depth)+1)))]) fun c51=>
  chk (c51.length*80≤top∧c51.length≤top) <|
  some (.nxt (c51,(wr .i64 (s12.2.1-1)),c51.length))
 else
  some (.brk (s12.1,s12.2.2))
def w6o(s0:(List w3Y)×Int×Nat)(t12:(List w3Y)×Nat):Option (Ctl (w4b) ((List w3Y)×Int×Nat) (Unit)):=
 some (.nxt (t12.1,(wr .i64 (s0.2.1+1)),t12.2))
def w4i(n:Nat)(s0:(List w3Y)×Int×Nat)(j10:Int):Option (Ctl (w4b) ((List w3Y)×Int×Nat) (Unit)):=
 bif (!decide (j10=0))then
  some (.ret (w4b.mk j10 s0.2.1))
 else
  w4h (w4K (w6n s0) n (s0.1,(wr .i64 ((↑(((get s0.1 ((wr .i64 ((↑s0.2.2:Int)-1)).toNat)).f.subs).length):Int)-1)),(wr .i64 ((↑s0.2.2:Int)-1)).toNat)) (w6o s0)
def w6p(n:Nat)(s0:(List w3Y)×Int×Nat)(k11:Nat)(s11:Int):Option (Ctl (Ctl (w4b) ((List w3Y)×Int×Nat) (Unit)) (Int) (Int)):=
 (w6U n (get ((get s0.1 ((wr .i64 ((↑s0.2.2:Int)-1)).toNat)).f.words) k11)).bind fun v37=>
 bif (!v37)then
  some (.nxt 10)
 else
  some (.nxt s11)
def w6q(n:Nat)(s0:(List w3Y)×Int×Nat)(t11:Int):Option (Ctl (w4b) ((List w3Y)×Int×Nat) (Unit)):=
 w4i n s0 t11
def w4X(n:Nat)(s0:(List w3Y)×Int×Nat)(j7:Int)(j9:Int×Int):Option (Ctl (w4b) ((List w3Y)×Int×Nat) (Unit)):=
 bif (bif (decide (200≤s0.2.1))then true else(decide (40<((get s0.1 ((wr .i64 ((↑s0.2.2:Int)-1)).toNat)).depth))))then
  w4i n s0 1
 else
  bif (decide (j7<0))then
   w4i n s0 4
  else
   bif (bif (bif (!decide ((↑(((get s0.1 ((wr .i64 ((↑s0.2.2:Int)-1)).toNat)).f.subs).length):Int)=j7))then true else(decide ((↑(((get s0.1 ((wr .i64 ((↑s0.2.2:Int)-1)).toNat)).f.words).length):Int)<j9.2)))then true else(decide (j9.1<(↑(((get s0.1 ((wr .i64 ((↑s0.2.2:Int)-1)).toNat)).f.words).length):Int))))then
    w4i n s0 9
   else
    (gd (bif (bif (bif (decide (((get s0.1 ((wr .i64 ((↑s0.2.2:Int)-1)).toNat)).f.kind)=2))then true else(decide (((get s0.1 ((wr .i64 ((↑s0.2.2:Int)-1)).toNat)).f.kind)=8)))then true else(decide (((get s0.1 ((wr .i64 ((↑s0.2.2:Int)-1)).toNat)).f.kind)=9)))then true else(decide (((get s0.1 ((wr .i64 ((↑s0.2.2:Int)-1)).toNat)).f.kind)=10))) (w6U n ((get s0.1 ((wr .i64 ((↑s0.2.2:Int)-1)).toNat)).f.name)) default).bind fun v35=>
    bif (bif (bif (bif (bif (decide (((get s0.1 ((wr .i64 ((↑s0.2.2:Int)-1)).toNat)).f.kind)=2))then true else(decide (((get s0.1 ((wr .i64 ((↑s0.2.2:Int)-1)).toNat)).f.kind)=8)))then true else(decide (((get s0.1 ((wr .i64 ((↑s0.2.2:Int)-1)).toNat)).f.kind)=9)))then true else(decide (((get s0.1 ((wr .i64 ((↑s0.2.2:Int)-1)).toNat)).f.kind)=10)))then(!v35)else false)then
     w4i n s0 10
    else
     bif (bif (!(bif (bif (bif (decide (((get s0.1 ((wr .i64 ((↑s0.2.2:Int)-1)).toNat)).f.kind)=2))then true else(decide (((get s0.1 ((wr .i64 ((↑s0.2.2:Int)-1)).toNat)).f.kind)=8)))then true else(decide (((get s0.1 ((wr .i64 ((↑s0.2.2:Int)-1)).toNat)).f.kind)=9)))then true else(decide (((get s0.1 ((wr .i64 ((↑s0.2.2:Int)-1)).toNat)).f.kind)=10))))then(!decide (((get s0.1 ((wr .i64 ((↑s0.2.2:Int)-1)).toNat)).f.name)=[]))else false)then
      w4i n s0 5
     else
      w4h (w4T (w6p n s0) (((get s0.1 ((wr .i64 ((↑s0.2.2:Int)-1)).toNat)).f.words).length) 0) (w6q n s0)
def w4Y(n:Nat)(s0:(List w3Y)×Int×Nat)(j7:Int)(j8:Int):Option (Ctl (w4b) ((List w3Y)×Int×Nat) (Unit)):=
 bif (decide (((get s0.1 ((wr .i64 ((↑s0.2.2:Int)-1)).toNat)).f.kind)=3))then
  w4X n s0 j7 (2,2)
 else
  w4X n s0 j7 (j8,0)
def w5x(n:Nat)(s0:(List w3Y)×Int×Nat)(j7:Int):Option (Ctl (w4b) ((List w3Y)×Int×Nat) (Unit)):=
 bif (decide (((get s0.1 ((wr .i64 ((↑s0.2.2:Int)-1)).toNat)).f.kind)=2))then
  w4Y n s0 j7 3
 else
  w4Y n s0 j7 0
def w4W(n:Nat)(a1:Bool)(s0:(List w3Y)×Int×Nat):Option (Ctl (w4b) ((List w3Y)×Int×Nat) (Unit)):=
 bif (decide (0<(↑s0.2.2:Int)))then
  chk (s0.2.2≤s0.1.length) <|
  chk (0≤(wr .i64 ((↑s0.2.2:Int)-1))∧(wr .i64 ((↑s0.2.2:Int)-1))<(↑s0.2.2:Int)) <|
  chk ((wr .i64 ((↑s0.2.2:Int)-1)).toNat≤s0.2.2) <|
  (w7s ((get s0.1 ((wr .i64 ((↑s0.2.2:Int)-1)).toNat)).f.kind)).bind fun v34=>
  bif (bif a1 then(decide (((get s0.1 ((wr .i64 ((↑s0.2.2:Int)-1)).toNat)).f.kind)=10))else false)then
   w5x n s0 0
  else
   w5x n s0 v34
 else
  some (.brk ())
def w8I(t0:Unit):Option (w4b):=
 some (w4b.mk 0 0)
def w7x(n:Nat)(a0:w3T)(a1:Bool):Option (w4b):=
 w4h (w4K (w4W n a1) n ([(w3Y.mk a0 1)],0,1)) (w8I)
def w5u(n:Nat)(a0:w3T):Option (w4b):=
 (w7x n a0 false).bind fun v1=>
 some v1
def w6Z(a2:(List Bs))(s0:(List Bool)×Int)(a1:w3T)(s2:Bool×Int):Option (Ctl (Ctl ((List w3U)) ((List Bool)×Int) ((List Bool))) (Bool×Int) (Bool)):=
 bif (decide (s2.2<(↑a2.length:Int)))then
  chk (x2c (!s2.1) (0≤s2.2)∧x2c (!s2.1) (s2.2<(↑a2.length:Int))) <|
  chk (x2c (!s2.1) (0≤s0.2)∧x2c (!s2.1) (s0.2<(↑a1.words.length:Int))) <|
  some (.nxt ((bif s2.1 then true else(decide ((get a2 s2.2.toNat)=(get a1.words s0.2.toNat)))),(wr .i64 (s2.2+1))))
 else
  some (.brk s2.1)
def w9q(s0:(List Bool)×Int)(t2:Bool):Option (Ctl ((List w3U)) ((List Bool)×Int) ((List Bool))):=
 w6m (s0.1++[t2]) fun c28=>
 chk (c28.length*1≤top∧c28.length≤top) <|
 some (.nxt (c28,(wr .i64 (s0.2+1))))
def w6Y(n:Nat)(a1:w3T)(a2:(List Bs))(s0:(List Bool)×Int):Option (Ctl ((List w3U)) ((List Bool)×Int) ((List Bool))):=
 bif (decide (s0.2<(↑a1.words.length:Int)))then
  w4h (w4K (w6Z a2 s0 a1) n (false,0)) (w9q s0)
 else
  some (.brk s0.1)
def w5Q(self:(w3T)→((List Bs))→((List w3U))→Option ((List w3U)))(a1:w3T)(j3:(List Bs))(s5:(List w3U)×Int):Option (Ctl ((List w3U)) ((List w3U)×Int) ((List w3U))):=
 bif (decide (s5.2<(↑a1.subs.length:Int)))then
  chk (0≤s5.2∧s5.2<(↑a1.subs.length:Int)) <|
  (self (get a1.subs s5.2.toNat) j3 s5.1).bind fun v68=>
  some (.nxt (v68,(wr .i64 (s5.2+1))))
 else
  some (.brk s5.1)
def w7b(l0:(List w3U))(t5:(List w3U)):Option ((List w3U)):=
 chk ((↑l0.length:Int)<(↑t5.length:Int)) <|
 w6m (t5.set l0.length (w3U.mk ((get t5 l0.length).kind) ((get t5 l0.length).name) ((get t5 l0.length).words) ((get t5 l0.length).bound) (↑t5.length:Int))) fun c73=>
 some c73
def w5o(self:(w3T)→((List Bs))→((List w3U))→Option ((List w3U)))(n:Nat)(a1:w3T)(c34:(List w3U))(l0:(List w3U))(j3:(List Bs)):Option ((List w3U)):=
 w4h (w4K (w5Q self a1 j3) n (c34,0)) (w7b l0)
def w7c(a2:(List Bs))(s4:(List Bs)×Int):Option (Ctl ((List w3U)) ((List Bs)×Int) ((List Bs))):=
 bif (decide (s4.2<(↑a2.length:Int)))then
  chk (0≤s4.2∧s4.2<(↑a2.length:Int)) <|
  w6m (s4.1++[(get a2 s4.2.toNat)]) fun c58=>
  chk (c58.length*16≤top∧c58.length≤top) <|
  some (.nxt (c58,(wr .i64 (s4.2+1))))
 else
  some (.brk s4.1)
def w9r(self:(w3T)→((List Bs))→((List w3U))→Option ((List w3U)))(n:Nat)(a1:w3T)(c34:(List w3U))(l0:(List w3U))(t4:(List Bs)):Option ((List w3U)):=
 w5o self n a1 c34 l0 t4
def w7a(self:(w3T)→((List Bs))→((List w3U))→Option ((List w3U)))(n:Nat)(l0:(List w3U))(a1:w3T)(a2:(List Bs))(t0:(List Bool)):Option ((List w3U)):=
 w6m (l0++[(w3U.mk a1.kind a1.name a1.words t0 0)]) fun c34=>
 chk (c34.length*80≤top∧c34.length≤top) <|
 bif (bif (decide (a1.kind=8))then true else(decide (a1.kind=9)))then
  w4h (w4K (w7c a2) n ([a1.name],0)) (w9r self n a1 c34 l0)
 else
  w5o self n a1 c34 l0 a2
def w4p:Nat→(w3T)→((List Bs))→((List w3U))→Option ((List w3U))
 |0,_,_,_=>none
 |n+1,a1,a2,l0=>
  w4h (w4K (w6Y n a1 a2) n ([],0)) (w7a (w4p n) n l0 a1 a2)
def w8c(a2:(List Bs))(s0:(List Bool)×Int)(a1:w3T)(s2:Bool×Int):Option (Ctl (Ctl ((List w3U)) ((List Bool)×Int) ((List Bool))) (Bool×Int) (Bool)):=
 bif (decide (s2.2<(↑a2.length:Int)))then
  chk (x2c (!s2.1) (0≤s2.2)∧x2c (!s2.1) (s2.2<(↑a2.length:Int))) <|
  chk (x2c (!s2.1) (0≤s0.2)∧x2c (!s2.1) (s0.2<(↑a1.words.length:Int))) <|
  some (.nxt ((bif s2.1 then true else(decide ((get a2 s2.2.toNat)=(get a1.words s0.2.toNat)))),(wr .i64 (s2.2+1))))
 else
  some (.brk s2.1)
def x0c(s0:(List Bool)×Int)(t2:Bool):Option (Ctl ((List w3U)) ((List Bool)×Int) ((List Bool))):=
 w6m (s0.1++[t2]) fun c28=>
 chk (c28.length*1≤top∧c28.length≤top) <|
 some (.nxt (c28,(wr .i64 (s0.2+1))))
def w8b(n:Nat)(a1:w3T)(a2:(List Bs))(s0:(List Bool)×Int):Option (Ctl ((List w3U)) ((List Bool)×Int) ((List Bool))):=
 bif (decide (s0.2<(↑a1.words.length:Int)))then
  w4h (w4K (w8c a2 s0 a1) n (false,0)) (x0c s0)
 else
  some (.brk s0.1)
def w6u(n:Nat)(a1:w3T)(j3:(List Bs))(s5:(List w3U)×Int):Option (Ctl ((List w3U)) ((List w3U)×Int) ((List w3U))):=
 bif (decide (s5.2<(↑a1.subs.length:Int)))then
  chk (0≤s5.2∧s5.2<(↑a1.subs.length:Int)) <|
  (w4p n (get a1.subs s5.2.toNat) j3 s5.1).bind fun v68=>
  some (.nxt (v68,(wr .i64 (s5.2+1))))
 else
  some (.brk s5.1)
def w8e(t5:(List w3U)):Option ((List w3U)):=
 chk (0<(↑t5.length:Int)) <|
 w6m (t5.set 0 (w3U.mk ((get t5 0).kind) ((get t5 0).name) ((get t5 0).words) ((get t5 0).bound) (↑t5.length:Int))) fun c73=>
 some c73
def w5C(n:Nat)(a1:w3T)(c34:(List w3U))(j3:(List Bs)):Option ((List w3U)):=
 w4h (w4K (w6u n a1 j3) n (c34,0)) (w8e)
def w8f(a2:(List Bs))(s4:(List Bs)×Int):Option (Ctl ((List w3U)) ((List Bs)×Int) ((List Bs))):=
 bif (decide (s4.2<(↑a2.length:Int)))then
  chk (0≤s4.2∧s4.2<(↑a2.length:Int)) <|
  w6m (s4.1++[(get a2 s4.2.toNat)]) fun c58=>
  chk (c58.length*16≤top∧c58.length≤top) <|
  some (.nxt (c58,(wr .i64 (s4.2+1))))
 else
  some (.brk s4.1)
def x0e(n:Nat)(a1:w3T)(c34:(List w3U))(t4:(List Bs)):Option ((List w3U)):=
 w5C n a1 c34 t4
def w8d(n:Nat)(a1:w3T)(a2:(List Bs))(t0:(List Bool)):Option ((List w3U)):=
 w6m [(w3U.mk a1.kind a1.name a1.words t0 0)] fun c34=>
 chk (c34.length*80≤top∧c34.length≤top) <|
 bif (bif (decide (a1.kind=8))then true else(decide (a1.kind=9)))then
  w4h (w4K (w8f a2) n ([a1.name],0)) (x0e n a1 c34)
 else
  w5C n a1 c34 a2
def w5r(n:Nat)(a1:w3T)(a2:(List Bs)):Option ((List w3U)):=
 w4h (w4K (w8b n a1 a2) n ([],0)) (w8d n a1 a2)
def w6w(a0:Bs)(s0:Int):Option (Ctl (Bool) (Int) (Unit)):=
 bif (decide (s0<(↑a0.length:Int)))then
  chk (0≤s0∧s0<(↑a0.length:Int)) <|
  bif (!(bif (bif (decide (97≤(w5e a0 s0)))then(decide ((w5e a0 s0)≤122))else false)then true else(bif (decide (0<s0))then(bif (bif (bif (decide (48≤(w5e a0 s0)))then(decide ((w5e a0 s0)≤57))else false)then true else(decide ((w5e a0 s0)=95)))then true else(decide ((w5e a0 s0)=45)))else false)))then
   some (.ret false)
  else
   some (.nxt (wr .i64 (s0+1)))
 else
  some (.brk ())
def w8j(a0:Bs)(t0:Unit):Option (Bool):=
 some (bif (decide (0<(↑a0.length:Int)))then(decide ((↑a0.length:Int)≤30))else false)
def w6E(n:Nat)(a0:Bs):Option (Bool):=
 w4h (w4K (w6w a0) n 0) (w8j a0)
def w7f(a0:(List Bs))(a1:Bs)(s0:Int):Option (Ctl (Int) (Int) (Unit)):=
 bif (decide (s0<(↑a0.length:Int)))then
  chk (0≤s0∧s0<(↑a0.length:Int)) <|
  bif (decide ((get a0 s0.toNat)=a1))then
   some (.ret s0)
  else
   some (.nxt (wr .i64 (s0+1)))
 else
  some (.brk ())
def w9s(t0:Unit):Option (Int):=
 some (-1)
def w4f(n:Nat)(a0:(List Bs))(a1:Bs):Option (Int):=
 w4h (w4K (w7f a0 a1) n 0) (w9s)
def w7g(l0:(List Bs))(a1:Bs)(s0:Int):Option (Ctl (Int) (Int) (Unit)):=
 bif (decide (s0<(↑l0.length:Int)))then
  chk (0≤s0∧s0<(↑l0.length:Int)) <|
  bif (decide ((get l0 s0.toNat)=a1))then
   some (.ret s0)
  else
   some (.nxt (wr .i64 (s0+1)))
 else
  some (.brk ())
def w9t(t0:Unit):Option (Int):=
 some (-1)
def w8M(n:Nat)(a1:Bs)(l0:(List Bs)):Option (Int):=
 w4h (w4K (w7g l0 a1) n 0) (w9t)
def w7O(a0:w3W)(s0:(List Bs)×Int):Option (Ctl (w4b) ((List Bs)×Int) ((List Bs))):=
 bif (decide (s0.2<(↑a0.words.length:Int)))then
  chk (0≤s0.2∧s0.2<(↑a0.words.length:Int)) <|
  w6m (s0.1++[(get a0.words s0.2.toNat)]) fun c20=>
  chk (c20.length*16≤top∧c20.length≤top) <|
  some (.nxt (c20,(wr .i64 (s0.2+1))))
 else
  some (.brk s0.1)
def w7P(a0:w3W)(s1:(List Bs)×Int):Option (Ctl (w4b) ((List Bs)×Int) ((List Bs))):=
 bif (decide (s1.2<(↑a0.w4a.length:Int)))then
  chk (0≤s1.2∧s1.2<(↑a0.w4a.length:Int)) <|
  w6m (s1.1++[(get a0.w4a s1.2.toNat)]) fun c35=>
  chk (c35.length*16≤top∧c35.length≤top) <|
  some (.nxt (c35,(wr .i64 (s1.2+1))))
 else
  some (.brk s1.1)
def w7Q(a0:w3W)(s2:(List Bs)×Int):Option (Ctl (w4b) ((List Bs)×Int) ((List Bs))):=
 bif (decide (s2.2<(↑a0.parts.length:Int)))then
  chk (0≤s2.2∧s2.2<(↑a0.parts.length:Int)) <|
  w6m (s2.1++[(get a0.parts s2.2.toNat)]) fun c50=>
  chk (c50.length*16≤top∧c50.length≤top) <|
  some (.nxt (c50,(wr .i64 (s2.2+1))))
 else
  some (.brk s2.1)
def w5i(s3:Int)(t2:(List Bs))(s8:Int):Option (Ctl (Ctl (w4b) (Int) (Unit)) (Int) (Unit)):=
 bif (decide (s8<s3))then
  chk (0≤s8∧s8<(↑t2.length:Int)) <|
  bif (decide ((get t2 s8.toNat)=(get t2 s3.toNat)))then
   some (.ret (.ret (w4b.mk 7 s3)))
  else
   some (.nxt (wr .i64 (s8+1)))
 else
  some (.brk ())
def w4D(s9:Bool×Bool×Int)(v55:(List w3U))(s3:Int)(t2:(List Bs))(s11:Bool×Int):Option (Ctl (Ctl (Ctl (w4b) (Int) (Unit)) (Bool×Bool×Int) (Bool×Bool)) (Bool×Int) (Bool)):=
 chk (0≤s9.2.2∧s9.2.2<(↑v55.length:Int)) <|
 bif (decide (s11.2<(↑(((get v55 s9.2.2.toNat).words).length):Int)))then
  chk (x2c (!s11.1) (0≤s11.2)∧x2c (!s11.1) (s11.2<(↑(((get v55 s9.2.2.toNat).words).length):Int))) <|
  chk (s3.toNat<t2.length) <|
  chk (x2c ((!s11.1)&&(decide ((get ((get v55 s9.2.2.toNat).words) s11.2.toNat)=(get t2 s3.toNat)))) (0≤s11.2)∧x2c ((!s11.1)&&(decide ((get ((get v55 s9.2.2.toNat).words) s11.2.toNat)=(get t2 s3.toNat)))) (s11.2<(↑(((get v55 s9.2.2.toNat).bound).length):Int))) <|
  some (.nxt ((bif s11.1 then true else(bif (decide ((get ((get v55 s9.2.2.toNat).words) s11.2.toNat)=(get t2 s3.toNat)))then(!(get ((get v55 s9.2.2.toNat).bound) s11.2.toNat))else false)),(wr .i64 (s11.2+1))))
 else
  some (.brk s11.1)
def w5M(s9:Bool×Bool×Int)(t11:Bool):Option (Ctl (Ctl (w4b) (Int) (Unit)) (Bool×Bool×Int) (Bool×Bool)):=
 some (.nxt (t11,s9.2.1,(wr .i64 (s9.2.2+1))))
def w4L(n:Nat)(v55:(List w3U))(s3:Int)(a0:w3W)(t2:(List Bs))(s9:Bool×Bool×Int):Option (Ctl (Ctl (w4b) (Int) (Unit)) (Bool×Bool×Int) (Bool×Bool)):=
 bif (decide (s9.2.2<(↑v55.length:Int)))then
  bif (decide (s3<(↑a0.words.length:Int)))then
   w4h (w4K (w4D s9 v55 s3 t2) n (s9.1,0)) (w5M s9)
  else
   chk (0≤s9.2.2∧s9.2.2<(↑v55.length:Int)) <|
   chk (s3.toNat<t2.length) <|
   bif (bif (decide (((get v55 s9.2.2.toNat).kind)=2))then(decide (((get v55 s9.2.2.toNat).name)=(get t2 s3.toNat)))else false)then
    some (.nxt (true,(bif s9.2.1 then true else(decide (0<(↑(((get v55 s9.2.2.toNat).words).length):Int)))),(wr .i64 (s9.2.2+1))))
   else
    some (.nxt (s9.1,s9.2.1,(wr .i64 (s9.2.2+1))))
 else
  some (.brk (s9.1,s9.2.1))
def w5S(a0:w3W)(s3:Int)(t9:Bool×Bool):Option (Ctl (w4b) (Int) (Unit)):=
 bif (bif (decide ((wr .i64 ((↑a0.words.length:Int)+(↑a0.w4a.length:Int)))≤s3))then t9.2 else false)then
  some (.ret (w4b.mk 5 s3))
 else
  bif (!t9.1)then
   some (.ret (w4b.mk 15 s3))
  else
   some (.nxt (wr .i64 (s3+1)))
def w5R(n:Nat)(v55:(List w3U))(s3:Int)(a0:w3W)(t2:(List Bs))(t8:Unit):Option (Ctl (w4b) (Int) (Unit)):=
 w4h (w4K (w4L n v55 s3 a0 t2) n (false,false,0)) (w5S a0 s3)
def w4M(n:Nat)(t2:(List Bs))(v55:(List w3U))(a0:w3W)(s3:Int):Option (Ctl (w4b) (Int) (Unit)):=
 bif (decide (s3<(↑t2.length:Int)))then
  chk (0≤s3∧s3<(↑t2.length:Int)) <|
  (w6E n (get t2 s3.toNat)).bind fun v115=>
  bif (!v115)then
   some (.ret (w4b.mk 10 s3))
  else
   w4h (w4K (w5i s3 t2) n 0) (w5R n v55 s3 a0 t2)
 else
  some (.brk ())
def w4E(n:Nat)(v55:(List w3U))(a0:w3W)(s12:(List Bs)×Int):Option (Ctl (w4b) ((List Bs)×Int) (Unit)):=
 bif (decide (s12.2<(↑v55.length:Int)))then
  chk (0≤s12.2∧s12.2<(↑v55.length:Int)) <|
  bif (bif (decide (((get v55 s12.2.toNat).kind)=8))then true else(decide (((get v55 s12.2.toNat).kind)=9)))then
   (w8M n ((get v55 s12.2.toNat).name) s12.1).bind fun v195=>
   (gd (!(decide (0≤v195))) (w4f n a0.words ((get v55 s12.2.toNat).name)) default).bind fun v196=>
   bif (bif (decide (0≤v195))then true else(decide (0≤v196)))then
    some (.ret (w4b.mk 7 (-1)))
   else
    w6m (s12.1++[(get v55 s12.2.toNat).name]) fun c198=>
    chk (c198.length*16≤top∧c198.length≤top) <|
    some (.nxt (c198,(wr .i64 (s12.2+1))))
  else
   some (.nxt (s12.1,(wr .i64 (s12.2+1))))
 else
  some (.brk ())
def w7u(t12:Unit):Option (w4b):=
 some (w4b.mk 0 0)
def w5W(n:Nat)(v55:(List w3U))(a0:w3W)(t3:Unit):Option (w4b):=
 w4h (w4K (w4E n v55 a0) n ([],0)) (w7u)
def w5V(n:Nat)(a0:w3W)(t2:(List Bs)):Option (w4b):=
 (w5r n a0.form []).bind fun v55=>
 w4h (w4K (w4M n t2 v55 a0) n 0) (w5W n v55 a0)
def w5U(n:Nat)(a0:w3W)(t1:(List Bs)):Option (w4b):=
 w4h (w4K (w7Q a0) n (t1,0)) (w5V n a0)
def w5T(n:Nat)(a0:w3W)(t0:(List Bs)):Option (w4b):=
 w4h (w4K (w7P a0) n (t0,0)) (w5U n a0)
def w5G(n:Nat)(a0:w3W):Option (w4b):=
 (w5u n a0.form).bind fun v1=>
 bif (!decide (v1.code=0))then
  some v1
 else
  bif (decide (300<(wr .i64 ((wr .i64 ((↑a0.words.length:Int)+(↑a0.w4a.length:Int)))+(↑a0.parts.length:Int)))))then
   some (w4b.mk 2 (-1))
  else
   w4h (w4K (w7O a0) n ([],0)) (w5T n a0)
def w7y(s0:Int×Bs):Option (Ctl (Bs) (Int×Bs) (Unit)):=
 chk (w8R [UInt8.ofNat (wr .u8 (wr .i64 (48+(Int.tmod s0.1 10)))).toNat] s0.2) <|
 chk (InK .i64 (Int.tdiv s0.1 10)) <|
 bif (decide ((Int.tdiv s0.1 10)=0))then
  some (.ret (x5Z [UInt8.ofNat (wr .u8 (wr .i64 (48+(Int.tmod s0.1 10)))).toNat] s0.2))
 else
  some (.nxt ((Int.tdiv s0.1 10),(x5Z [UInt8.ofNat (wr .u8 (wr .i64 (48+(Int.tmod s0.1 10)))).toNat] s0.2)))
def w9O(t0:Unit):Option (Bs):=
 none
def w5b(n:Nat)(a0:Int):Option (Bs):=
 w4h (w4K (w7y) n (a0,[])) (w9O)
def w6f(a1:(List Bs))(a0:w3T)(k0:Nat)(a2:(List Bs))(s2:Int):Option (Ctl (Ctl (w3T×Int) ((List Bs)) ((List Bs))) (Int) (Bs)):=
 bif (decide (0≤s2))then
  chk (0≤s2∧s2<(↑a1.length:Int)) <|
  bif (decide ((get a1 s2.toNat)=(get a0.words k0)))then
   chk (s2<(↑a2.length:Int)) <|
   some (.brk (get a2 s2.toNat))
  else
   some (.nxt (wr .i64 (s2-1)))
 else
  some (.brk (get a0.words k0))
def w7A(s0:(List Bs))(t2:Bs):Option (Ctl (w3T×Int) ((List Bs)) ((List Bs))):=
 w6m (s0++[t2]) fun c20=>
 chk (c20.length*16≤top∧c20.length≤top) <|
 some (.nxt c20)
def w7z(n:Nat)(a1:(List Bs))(a0:w3T)(a2:(List Bs))(k0:Nat)(s0:(List Bs)):Option (Ctl (w3T×Int) ((List Bs)) ((List Bs))):=
 w4h (w4K (w6f a1 a0 k0 a2) n (wr .i64 ((↑a1.length:Int)-1))) (w7A s0)
def w7B(self:(w3T)→((List Bs))→((List Bs))→(Int)→Option (w3T×Int))(a0:w3T)(j3:Int×Bs×(List Bs)×(List Bs))(k4:Nat)(s4:Int×(List w3T)):Option (Ctl (w3T×Int) (Int×(List w3T)) (Int×(List w3T))):=
 (self (get a0.subs k4) j3.2.2.1 j3.2.2.2 s4.1).bind fun v57=>
 w6m (s4.2++[v57.1]) fun c59=>
 chk (c59.length*72≤top∧c59.length≤top) <|
 some (.nxt (v57.2,c59))
def w7C(a0:w3T)(j3:Int×Bs×(List Bs)×(List Bs))(t0:(List Bs))(t4:Int×(List w3T)):Option (w3T×Int):=
 some ((w3T.mk a0.kind j3.2.1 t0 t4.2),t4.1)
def w5v(self:(w3T)→((List Bs))→((List Bs))→(Int)→Option (w3T×Int))(a0:w3T)(t0:(List Bs))(j3:Int×Bs×(List Bs)×(List Bs)):Option (w3T×Int):=
 chk (a0.subs.length≤9223372036854775807) <|
 w4h (w4T (w7B self a0 j3) a0.subs.length (j3.1,[])) (w7C a0 j3 t0)
def w7D(self:(w3T)→((List Bs))→((List Bs))→(Int)→Option (w3T×Int))(n:Nat)(a0:w3T)(w4B:Int)(a1:(List Bs))(a2:(List Bs))(t0:(List Bs)):Option (w3T×Int):=
 bif (bif (decide (a0.kind=8))then true else(decide (a0.kind=9)))then
  (w5b n w4B).bind fun v25=>
  chk (w8R [33] v25) <|
  w6m ([]++a1) fun c27=>
  chk (c27.length*16≤top∧c27.length≤top) <|
  w6m (c27++[a0.name]) fun c33=>
  chk (c33.length*16≤top∧c33.length≤top) <|
  w6m ([]++a2) fun c38=>
  chk (c38.length*16≤top∧c38.length≤top) <|
  w6m (c38++[(x5Z [33] v25)]) fun c44=>
  chk (c44.length*16≤top∧c44.length≤top) <|
  w5v self a0 t0 ((wr .i64 (w4B+1)),(x5Z [33] v25),c33,c44)
 else
  w5v self a0 t0 (w4B,a0.name,a1,a2)
def w4x:Nat→(w3T)→((List Bs))→((List Bs))→(Int)→Option (w3T×Int)
 |0,_,_,_,_=>none
 |n+1,a0,a1,a2,w4B=>
  w4h (w4T (w7z n a1 a0 a2) a0.words.length []) (w7D (w4x n) n a0 w4B a1 a2)
def w9b(a0:(List Bs))(a1:Bs)(k0:Nat)(s0:Unit):Option (Ctl (Bool) (Unit) (Unit)):=
 bif (decide ((get a0 k0)=a1))then
  some (.ret true)
 else
  some (.nxt ())
def w9c(t0:Unit):Option (Bool):=
 some false
def w5N(a0:(List Bs))(a1:Bs):Option (Bool):=
 w4h (w4T (w9b a0 a1) a0.length ()) (w9c)
def w9e(a0:(List Bs))(a1:Bs)(s0:Int):Option (Ctl ((List Bs)) (Int) (Int)):=
 chk (x2c (decide (s0<(↑a0.length:Int))) (0≤s0)∧x2c (decide (s0<(↑a0.length:Int))) (s0<(↑a0.length:Int))) <|
 bif (bif (decide (s0<(↑a0.length:Int)))then(Op.bytesLess (get a0 s0.toNat) a1)else false)then
  some (.nxt (wr .i64 (s0+1)))
 else
  some (.brk s0)
def w9f(a0:(List Bs))(a1:Bs)(t0:Int):Option ((List Bs)):=
 chk (0≤t0∧t0.toNat≤a0.length) <|
 w6m (a0.take t0.toNat) fun c9=>
 chk (c9.length*16≤top∧c9.length≤top) <|
 w6m (c9++[a1]) fun c15=>
 chk (c15.length*16≤top∧c15.length≤top) <|
 w6m (c15++(a0.drop t0.toNat)) fun c20=>
 chk (c20.length*16≤top∧c20.length≤top) <|
 some c20
def w9d(n:Nat)(a0:(List Bs))(a1:Bs):Option ((List Bs)):=
 (w5N a0 a1).bind fun v1=>
 bif v1 then
  some a0
 else
  w4h (w4K (w9e a0 a1) n 0) (w9f a0 a1)
def w7E(n:Nat)(a1:(List Bs))(a0:w3T)(k0:Nat)(s0:(List Bs)):Option (Ctl ((List Bs)) ((List Bs)) ((List Bs))):=
 (w5N a1 (get a0.words k0)).bind fun v3=>
 bif (!v3)then
  (w9d n s0 (get a0.words k0)).bind fun v4=>
  some (.nxt v4)
 else
  some (.nxt s0)
def w7F(self:(w3T)→((List Bs))→((List Bs))→Option ((List Bs)))(a0:w3T)(j1:(List Bs))(k2:Nat)(s2:(List Bs)):Option (Ctl ((List Bs)) ((List Bs)) ((List Bs))):=
 (self (get a0.subs k2) j1 s2).bind fun v18=>
 some (.nxt v18)
def w7G(t2:(List Bs)):Option ((List Bs)):=
 some t2
def w5w(self:(w3T)→((List Bs))→((List Bs))→Option ((List Bs)))(a0:w3T)(t0:(List Bs))(j1:(List Bs)):Option ((List Bs)):=
 chk (a0.subs.length≤9223372036854775807) <|
 w4h (w4T (w7F self a0 j1) a0.subs.length t0) (w7G)
def w7H(self:(w3T)→((List Bs))→((List Bs))→Option ((List Bs)))(a0:w3T)(a1:(List Bs))(t0:(List Bs)):Option ((List Bs)):=
 bif (bif (decide (a0.kind=8))then true else(decide (a0.kind=9)))then
  w6m ([]++a1) fun c5=>
  chk (c5.length*16≤top∧c5.length≤top) <|
  w6m (c5++[a0.name]) fun c11=>
  chk (c11.length*16≤top∧c11.length≤top) <|
  w5w self a0 t0 c11
 else
  w5w self a0 t0 a1
def w4y:Nat→(w3T)→((List Bs))→((List Bs))→Option ((List Bs))
 |0,_,_,_=>none
 |n+1,a0,a1,a2=>
  w4h (w4T (w7E n a1 a0) a0.words.length a2) (w7H (w4y n) a0 a1)
def w8k(n:Nat)(a0:w3T):Option ((List Bs)):=
 (w4y n a0 [] []).bind fun v1=>
 some v1
def w9u(l0:(List Bs))(l1:(List Bs))(k2:Nat)(s2:Bs):Option (Ctl (Ctl (w3T) ((List Bs)) ((List Bs))) (Bs) (Bs)):=
 bif (decide ((get l0 k2)=s2))then
  chk ((↑k2:Int)<(↑l1.length:Int)) <|
  some (.brk (get l1 k2))
 else
  some (.nxt s2)
def w7i(s0:(List Bs))(t2:Bs):Option (Ctl (w3T) ((List Bs)) ((List Bs))):=
 w6m (s0++[t2]) fun c30=>
 chk (c30.length*16≤top∧c30.length≤top) <|
 some (.nxt c30)
def w7h(l0:(List Bs))(l1:(List Bs))(a0:w3T)(k0:Nat)(s0:(List Bs)):Option (Ctl (w3T) ((List Bs)) ((List Bs))):=
 chk (l0.length≤9223372036854775807) <|
 w4h (w4T (w9u l0 l1) l0.length (get a0.words k0)) (w7i s0)
def w7j(self:(w3T)→((List Bs))→((List Bs))→Option (w3T))(a0:w3T)(l0:(List Bs))(l1:(List Bs))(k5:Nat)(s5:(List w3T)):Option (Ctl (w3T) ((List w3T)) ((List w3T))):=
 (self (get a0.subs k5) l0 l1).bind fun v54=>
 w6m (s5++[v54]) fun c56=>
 chk (c56.length*72≤top∧c56.length≤top) <|
 some (.nxt c56)
def w7k(a0:w3T)(j3:Bs)(t0:(List Bs))(t5:(List w3T)):Option (w3T):=
 some (w3T.mk a0.kind j3 t0 t5)
def w5q(self:(w3T)→((List Bs))→((List Bs))→Option (w3T))(a0:w3T)(l0:(List Bs))(l1:(List Bs))(t0:(List Bs))(j3:Bs):Option (w3T):=
 chk (a0.subs.length≤9223372036854775807) <|
 w4h (w4T (w7j self a0 l0 l1) a0.subs.length []) (w7k a0 j3 t0)
def w7m(l0:(List Bs))(a0:w3T)(l1:(List Bs))(k4:Nat)(s4:Bs):Option (Ctl (w3T) (Bs) (Bs)):=
 bif (decide ((get l0 k4)=a0.name))then
  chk ((↑k4:Int)<(↑l1.length:Int)) <|
  some (.brk (get l1 k4))
 else
  some (.nxt s4)
def w7n(self:(w3T)→((List Bs))→((List Bs))→Option (w3T))(a0:w3T)(l0:(List Bs))(l1:(List Bs))(t0:(List Bs))(t4:Bs):Option (w3T):=
 w5q self a0 l0 l1 t0 t4
def w7l(self:(w3T)→((List Bs))→((List Bs))→Option (w3T))(a0:w3T)(l0:(List Bs))(l1:(List Bs))(t0:(List Bs)):Option (w3T):=
 bif (bif (decide (a0.kind=8))then true else(decide (a0.kind=9)))then
  chk (l0.length≤9223372036854775807) <|
  w4h (w4T (w7m l0 a0 l1) l0.length a0.name) (w7n self a0 l0 l1 t0)
 else
  w5q self a0 l0 l1 t0 a0.name
def w4q:Nat→(w3T)→((List Bs))→((List Bs))→Option (w3T)
 |0,_,_,_=>none
 |n+1,a0,l0,l1=>
  w4h (w4T (w7h l0 l1 a0) a0.words.length []) (w7l (w4q n) a0 l0 l1)
def w8N(v2:(List Bs))(k0:Nat)(s0:(List Bs)):Option (Ctl (w3T) ((List Bs)) ((List Bs))):=
 w6m (s0++[(get v2 k0)]) fun c10=>
 chk (c10.length*16≤top∧c10.length≤top) <|
 some (.nxt c10)
def w6S(n:Nat)(t0:(List Bs))(s3:Int):Option (Ctl (Ctl (w3T) ((List Bs)×(List Bs)×Int×Int) ((List Bs)×(List Bs))) (Int) (Int)):=
 (w5b n s3).bind fun v40=>
 chk (w8R [118] v40) <|
 (w5N t0 (x5Z [118] v40)).bind fun v42=>
 bif v42 then
  some (.nxt (wr .i64 (s3+1)))
 else
  some (.brk s3)
def w8P(n:Nat)(s1:(List Bs)×(List Bs)×Int×Int)(t3:Int):Option (Ctl (w3T) ((List Bs)×(List Bs)×Int×Int) ((List Bs)×(List Bs))):=
 (w5b n s1.2.2.2).bind fun v43=>
 chk (w8R [33] v43) <|
 w6m (s1.1++[(x5Z [33] v43)]) fun c46=>
 chk (c46.length*16≤top∧c46.length≤top) <|
 (w5b n t3).bind fun v51=>
 chk (w8R [118] v51) <|
 w6m (s1.2.1++[(x5Z [118] v51)]) fun c54=>
 chk (c54.length*16≤top∧c54.length≤top) <|
 some (.nxt (c46,c54,(wr .i64 (t3+1)),(wr .i64 (s1.2.2.2+1))))
def w6R(n:Nat)(v1:w3T×Int)(t0:(List Bs))(s1:(List Bs)×(List Bs)×Int×Int):Option (Ctl (w3T) ((List Bs)×(List Bs)×Int×Int) ((List Bs)×(List Bs))):=
 bif (decide (s1.2.2.2<v1.2))then
  w4h (w4K (w6S n t0) n s1.2.2.1) (w8P n s1)
 else
  some (.brk (s1.1,s1.2.1))
def w8Q(n:Nat)(v1:w3T×Int)(t1:(List Bs)×(List Bs)):Option (w3T):=
 (w4q n v1.1 t1.1 t1.2).bind fun v59=>
 some v59
def w8O(n:Nat)(v1:w3T×Int)(t0:(List Bs)):Option (w3T):=
 w4h (w4K (w6R n v1 t0) n ([],[],0,0)) (w8Q n v1)
def w9W(n:Nat)(a0:w3T)(a1:(List Bs))(a2:(List Bs)):Option (w3T):=
 (w4x n a0 a1 a2 0).bind fun v1=>
 (w8k n v1.1).bind fun v2=>
 w4h (w4T (w8N v2) v2.length []) (w8O n v1)
def w6g(n:Nat)(a0:w3T):Option (w3T):=
 (w9W n a0 [] []).bind fun v1=>
 some v1
def w7R(a0:w3W)(s0:(List Bs)×Int):Option (Ctl ((List Bs)) ((List Bs)×Int) ((List Bs))):=
 bif (decide (s0.2<(↑a0.words.length:Int)))then
  chk (0≤s0.2∧s0.2<(↑a0.words.length:Int)) <|
  w6m (s0.1++[(get a0.words s0.2.toNat)]) fun c19=>
  chk (c19.length*16≤top∧c19.length≤top) <|
  some (.nxt (c19,(wr .i64 (s0.2+1))))
 else
  some (.brk s0.1)
def w7S(a0:w3W)(s1:(List Bs)×Int):Option (Ctl ((List Bs)) ((List Bs)×Int) ((List Bs))):=
 bif (decide (s1.2<(↑a0.w4a.length:Int)))then
  chk (0≤s1.2∧s1.2<(↑a0.w4a.length:Int)) <|
  w6m (s1.1++[(get a0.w4a s1.2.toNat)]) fun c34=>
  chk (c34.length*16≤top∧c34.length≤top) <|
  some (.nxt (c34,(wr .i64 (s1.2+1))))
 else
  some (.brk s1.1)
def w7T(a0:w3W)(s2:(List Bs)×Int):Option (Ctl ((List Bs)) ((List Bs)×Int) ((List Bs))):=
 bif (decide (s2.2<(↑a0.parts.length:Int)))then
  chk (0≤s2.2∧s2.2<(↑a0.parts.length:Int)) <|
  w6m (s2.1++[(get a0.parts s2.2.toNat)]) fun c49=>
  chk (c49.length*16≤top∧c49.length≤top) <|
  some (.nxt (c49,(wr .i64 (s2.2+1))))
 else
  some (.brk s2.1)
def w5k(v54:(List w3U))(s3:(List Bs)×Int):Option (Ctl ((List Bs)) ((List Bs)×Int) ((List Bs))):=
 bif (decide (s3.2<(↑v54.length:Int)))then
  chk (0≤s3.2∧s3.2<(↑v54.length:Int)) <|
  bif (bif (decide (((get v54 s3.2.toNat).kind)=8))then true else(decide (((get v54 s3.2.toNat).kind)=9)))then
   w6m (s3.1++[(get v54 s3.2.toNat).name]) fun c65=>
   chk (c65.length*16≤top∧c65.length≤top) <|
   some (.nxt (c65,(wr .i64 (s3.2+1))))
  else
   some (.nxt (s3.1,(wr .i64 (s3.2+1))))
 else
  some (.brk s3.1)
def w7U(t3:(List Bs)):Option ((List Bs)):=
 some t3
def w5Z(n:Nat)(a0:w3W)(t2:(List Bs)):Option ((List Bs)):=
 (w5r n a0.form []).bind fun v54=>
 w4h (w4K (w5k v54) n (t2,0)) (w7U)
def w5Y(n:Nat)(a0:w3W)(t1:(List Bs)):Option ((List Bs)):=
 w4h (w4K (w7T a0) n (t1,0)) (w5Z n a0)
def w5X(n:Nat)(a0:w3W)(t0:(List Bs)):Option ((List Bs)):=
 w4h (w4K (w7S a0) n (t0,0)) (w5Y n a0)
def w5I(n:Nat)(a0:w3W):Option ((List Bs)):=
 w4h (w4K (w7R a0) n ([],0)) (w5X n a0)
def x3G(a0:(List w3U))(s0:Int)(a1:(List w3U))(s2:Int):Option (Ctl (Ctl (Bool) (Int) (Unit)) (Int) (Unit)):=
 bif (decide (s2<(↑(((get a0 s0.toNat).words).length):Int)))then
  chk (0≤s2∧s2<(↑(((get a0 s0.toNat).words).length):Int)) <|
  chk (s2<(↑(((get a1 s0.toNat).words).length):Int)) <|
  bif (!decide ((get ((get a0 s0.toNat).words) s2.toNat)=(get ((get a1 s0.toNat).words) s2.toNat)))then
   some (.ret (.ret false))
  else
   some (.nxt (wr .i64 (s2+1)))
 else
  some (.brk ())
def x3H(s0:Int)(t2:Unit):Option (Ctl (Bool) (Int) (Unit)):=
 some (.nxt (wr .i64 (s0+1)))
def x3I(n:Nat)(a0:(List w3U))(a1:(List w3U))(s0:Int):Option (Ctl (Bool) (Int) (Unit)):=
 bif (decide (s0<(↑a0.length:Int)))then
  chk (0≤s0∧s0<(↑a0.length:Int)) <|
  chk (s0<(↑a1.length:Int)) <|
  bif (bif (bif (!decide (((get a0 s0.toNat).kind)=((get a1 s0.toNat).kind)))then true else(!decide (((get a0 s0.toNat).name)=((get a1 s0.toNat).name))))then true else(!decide ((↑(((get a0 s0.toNat).words).length):Int)=(↑(((get a1 s0.toNat).words).length):Int))))then
   some (.ret false)
  else
   w4h (w4K (x3G a0 s0 a1) n 0) (x3H s0)
 else
  some (.brk ())
def x3J(t0:Unit):Option (Bool):=
 some true
def x4G(n:Nat)(a0:(List w3U))(a1:(List w3U)):Option (Bool):=
 bif (!decide ((↑a0.length:Int)=(↑a1.length:Int)))then
  some false
 else
  w4h (w4K (x3I n a0 a1) n 0) (x3J)
def w6c(a0:Int):Option (Int):=
 bif (bif (bif (decide (a0=4))then true else(decide (a0=8)))then true else(decide (a0=9)))then
  some 1
 else
  bif (bif (bif (decide (a0=5))then true else(decide (a0=6)))then true else(decide (a0=7)))then
   some 2
  else
   some 0
def w6k(a0:(List w3U))(a1:Int)(s0:(List Bs)×Int):Option (Ctl (w3T) ((List Bs)×Int) ((List Bs))):=
 bif (decide (s0.2<(↑(((get a0 a1.toNat).words).length):Int)))then
  chk (0≤s0.2∧s0.2<(↑(((get a0 a1.toNat).words).length):Int)) <|
  w6m (s0.1++[(get ((get a0 a1.toNat).words) s0.2.toNat)]) fun c13=>
  chk (c13.length*16≤top∧c13.length≤top) <|
  some (.nxt (c13,(wr .i64 (s0.2+1))))
 else
  some (.brk s0.1)
def w6l(self:((List w3U))→(Int)→Option (w3T))(a0:(List w3U))(a1:Int)(s1:(List w3T)×Int×Int):Option (Ctl (w3T) ((List w3T)×Int×Int) ((List w3T))):=
 (w6c ((get a0 a1.toNat).kind)).bind fun v28=>
 bif (decide (s1.2.2<v28))then
  (self a0 s1.2.1).bind fun v29=>
  w6m (s1.1++[v29]) fun c31=>
  chk (c31.length*72≤top∧c31.length≤top) <|
  chk (0≤s1.2.1∧s1.2.1<(↑a0.length:Int)) <|
  some (.nxt (c31,(get a0 s1.2.1.toNat).end_,(wr .i64 (s1.2.2+1))))
 else
  some (.brk s1.1)
def w7J(a0:(List w3U))(a1:Int)(t0:(List Bs))(t1:(List w3T)):Option (w3T):=
 some (w3T.mk ((get a0 a1.toNat).kind) ((get a0 a1.toNat).name) t0 t1)
def w7I(self:((List w3U))→(Int)→Option (w3T))(n:Nat)(a0:(List w3U))(a1:Int)(t0:(List Bs)):Option (w3T):=
 w4h (w4K (w6l self a0 a1) n ([],(wr .i64 (a1+1)),0)) (w7J a0 a1 t0)
def w4R:Nat→((List w3U))→(Int)→Option (w3T)
 |0,_,_=>none
 |n+1,a0,a1=>
  chk (0≤a1∧a1<(↑a0.length:Int)) <|
  w4h (w4K (w6k a0 a1) n ([],0)) (w7I (w4R n) n a0 a1)
def x0J(s0:(List w3V)×(List Bool)×(List Int)×Int×Int)(a1:(List w3U))(j7:(List w3V)×(List Bool)×(List Int)):Option (Ctl ((List w3V)×(List Int)×Bool) ((List w3V)×(List Bool)×(List Int)×Int×Int) ((List w3V)×(List Int))):=
 chk (0≤s0.2.2.2.1∧s0.2.2.2.1<(↑a1.length:Int)) <|
 some (.nxt (j7.1,j7.2.1,j7.2.2,(get a1 s0.2.2.2.1.toNat).end_,(wr .i64 (s0.2.2.2.2+1))))
def w8t(s10:(List w3V)×(List Bool)×Int)(a1:(List w3U))(s0:(List w3V)×(List Bool)×(List Int)×Int×Int)(v1:(List Bs))(j12:Int):Option (Ctl (Ctl ((List w3V)×(List Int)×Bool) ((List w3V)×(List Bool)×(List Int)×Int×Int) ((List w3V)×(List Int))) ((List w3V)×(List Bool)×Int) ((List w3V)×(List Bool))):=
 bif (decide (0≤j12))then
  chk (0≤j12∧j12<(↑s10.2.1.length:Int)) <|
  chk (x2c (get s10.2.1 j12.toNat) (j12<(↑s10.1.length:Int))) <|
  chk (j12.toNat<s10.1.length) <|
  chk (x2c (get s10.2.1 j12.toNat) (s10.2.2<(↑(((get a1 s0.2.2.2.1.toNat).words).length):Int))) <|
  bif (bif (get s10.2.1 j12.toNat)then(!decide (((get s10.1 j12.toNat).text)=(get ((get a1 s0.2.2.2.1.toNat).words) s10.2.2.toNat)))else false)then
   some (.ret (.ret ([],[],false)))
  else
   w6m (s10.2.1.set j12.toNat true) fun c281=>
   chk (j12<(↑v1.length:Int)) <|
   chk (s10.2.2<(↑(((get a1 s0.2.2.2.1.toNat).words).length):Int)) <|
   chk (j12<(↑s10.1.length:Int)) <|
   w6m (s10.1.set j12.toNat (w3V.mk (get v1 j12.toNat) (get ((get a1 s0.2.2.2.1.toNat).words) s10.2.2.toNat) (w3T.mk 0 [] [] []))) fun c289=>
   some (.nxt (c289,c281,(wr .i64 (s10.2.2+1))))
 else
  some (.nxt (s10.1,s10.2.1,(wr .i64 (s10.2.2+1))))
def x3h(n:Nat)(v8:(List w3U))(s0:(List w3V)×(List Bool)×(List Int)×Int×Int)(a0:w3W)(v1:(List Bs))(a1:(List w3U))(s10:(List w3V)×(List Bool)×Int):Option (Ctl (Ctl ((List w3V)×(List Int)×Bool) ((List w3V)×(List Bool)×(List Int)×Int×Int) ((List w3V)×(List Int))) ((List w3V)×(List Bool)×Int) ((List w3V)×(List Bool))):=
 bif (decide (s10.2.2<(↑(((get v8 s0.2.2.2.2.toNat).words).length):Int)))then
  chk (0≤s10.2.2∧s10.2.2<(↑(((get v8 s0.2.2.2.2.toNat).words).length):Int)) <|
  chk (s10.2.2<(↑(((get v8 s0.2.2.2.2.toNat).bound).length):Int)) <|
  bif (get ((get v8 s0.2.2.2.2.toNat).bound) s10.2.2.toNat)then
   chk (0≤(wr .i64 ((wr .i64 ((↑a0.words.length:Int)+(↑a0.w4a.length:Int)))+(↑a0.parts.length:Int)))∧(wr .i64 ((wr .i64 ((↑a0.words.length:Int)+(↑a0.w4a.length:Int)))+(↑a0.parts.length:Int))).toNat≤v1.length) <|
   (w4f n (v1.drop ((wr .i64 ((wr .i64 ((↑a0.words.length:Int)+(↑a0.w4a.length:Int)))+(↑a0.parts.length:Int))).toNat)) (get ((get v8 s0.2.2.2.2.toNat).words) s10.2.2.toNat)).bind fun v264=>
   w8t s10 a1 s0 v1 (wr .i64 ((wr .i64 ((wr .i64 ((↑a0.words.length:Int)+(↑a0.w4a.length:Int)))+(↑a0.parts.length:Int)))+v264))
  else
   (w4f n a0.words (get ((get v8 s0.2.2.2.2.toNat).words) s10.2.2.toNat)).bind fun v265=>
   bif (decide (0≤v265))then
    (w4f n a0.words (get ((get v8 s0.2.2.2.2.toNat).words) s10.2.2.toNat)).bind fun v266=>
    w8t s10 a1 s0 v1 v266
   else
    chk (s10.2.2<(↑(((get a1 s0.2.2.2.1.toNat).words).length):Int)) <|
    bif (!decide ((get ((get v8 s0.2.2.2.2.toNat).words) s10.2.2.toNat)=(get ((get a1 s0.2.2.2.1.toNat).words) s10.2.2.toNat)))then
     some (.ret (.ret ([],[],false)))
    else
     w8t s10 a1 s0 v1 (-1)
 else
  some (.brk (s10.1,s10.2.1))
def x3i(s0:(List w3V)×(List Bool)×(List Int)×Int×Int)(t10:(List w3V)×(List Bool)):Option (Ctl ((List w3V)×(List Int)×Bool) ((List w3V)×(List Bool)×(List Int)×Int×Int) ((List w3V)×(List Int))):=
 some (.nxt (t10.1,t10.2,s0.2.2.1,(wr .i64 (s0.2.2.2.1+1)),(wr .i64 (s0.2.2.2.2+1))))
def x0K(n:Nat)(v8:(List w3U))(s0:(List w3V)×(List Bool)×(List Int)×Int×Int)(a0:w3W)(v1:(List Bs))(a1:(List w3U))(j9:(List w3V)×(List Bool)):Option (Ctl ((List w3V)×(List Int)×Bool) ((List w3V)×(List Bool)×(List Int)×Int×Int) ((List w3V)×(List Int))):=
 w4h (w4K (x3h n v8 s0 a0 v1 a1) n (j9.1,j9.2,0)) (x3i s0)
def w8J(n:Nat)(s0:(List w3V)×(List Bool)×(List Int)×Int×Int)(a1:(List w3U))(v1:(List Bs))(v8:(List w3U))(a0:w3W)(j8:Int):Option (Ctl ((List w3V)×(List Int)×Bool) ((List w3V)×(List Bool)×(List Int)×Int×Int) ((List w3V)×(List Int))):=
 bif (decide (0≤j8))then
  chk (0≤j8∧j8<(↑s0.2.1.length:Int)) <|
  chk (x2c (get s0.2.1 j8.toNat) (j8<(↑s0.1.length:Int))) <|
  chk (j8.toNat<s0.1.length) <|
  bif (bif (get s0.2.1 j8.toNat)then(!decide (((get s0.1 j8.toNat).text)=((get a1 s0.2.2.2.1.toNat).name)))else false)then
   some (.ret ([],[],false))
  else
   w6m (s0.2.1.set j8.toNat true) fun c219=>
   chk (j8<(↑v1.length:Int)) <|
   chk (j8<(↑s0.1.length:Int)) <|
   w6m (s0.1.set j8.toNat (w3V.mk (get v1 j8.toNat) ((get a1 s0.2.2.2.1.toNat).name) (w3T.mk 0 [] [] []))) fun c226=>
   x0K n v8 s0 a0 v1 a1 (c226,c219)
 else
  x0K n v8 s0 a0 v1 a1 (s0.1,s0.2.1)
def x3C(n:Nat)(v8:(List w3U))(a0:w3W)(a1:(List w3U))(v1:(List Bs))(s0:(List w3V)×(List Bool)×(List Int)×Int×Int):Option (Ctl ((List w3V)×(List Int)×Bool) ((List w3V)×(List Bool)×(List Int)×Int×Int) ((List w3V)×(List Int))):=
 bif (decide (s0.2.2.2.2<(↑v8.length:Int)))then
  chk (0≤s0.2.2.2.2∧s0.2.2.2.2<(↑v8.length:Int)) <|
  (gd (bif (decide (((get v8 s0.2.2.2.2.toNat).kind)=2))then(decide ((↑(((get v8 s0.2.2.2.2.toNat).words).length):Int)=0))else false) (w4f n a0.parts ((get v8 s0.2.2.2.2.toNat).name)) default).bind fun v146=>
  bif (bif (bif (decide (((get v8 s0.2.2.2.2.toNat).kind)=2))then(decide ((↑(((get v8 s0.2.2.2.2.toNat).words).length):Int)=0))else false)then(decide (0≤v146))else false)then
   (w4f n a0.parts ((get v8 s0.2.2.2.2.toNat).name)).bind fun v147=>
   chk (0≤(wr .i64 ((wr .i64 ((↑a0.words.length:Int)+(↑a0.w4a.length:Int)))+v147))∧(wr .i64 ((wr .i64 ((↑a0.words.length:Int)+(↑a0.w4a.length:Int)))+v147))<(↑s0.2.1.length:Int)) <|
   chk (x2c (get s0.2.1 ((wr .i64 ((wr .i64 ((↑a0.words.length:Int)+(↑a0.w4a.length:Int)))+v147)).toNat)) ((wr .i64 ((wr .i64 ((↑a0.words.length:Int)+(↑a0.w4a.length:Int)))+v147))<(↑s0.2.2.1.length:Int))) <|
   chk ((wr .i64 ((wr .i64 ((↑a0.words.length:Int)+(↑a0.w4a.length:Int)))+v147)).toNat<s0.2.2.1.length) <|
   chk (x2c (get s0.2.1 ((wr .i64 ((wr .i64 ((↑a0.words.length:Int)+(↑a0.w4a.length:Int)))+v147)).toNat)) ((wr .i64 ((wr .i64 ((↑a0.words.length:Int)+(↑a0.w4a.length:Int)))+v147))<(↑s0.2.2.1.length:Int))) <|
   chk (x2c (get s0.2.1 ((wr .i64 ((wr .i64 ((↑a0.words.length:Int)+(↑a0.w4a.length:Int)))+v147)).toNat)) (0≤(get s0.2.2.1 ((wr .i64 ((wr .i64 ((↑a0.words.length:Int)+(↑a0.w4a.length:Int)))+v147)).toNat)))∧x2c (get s0.2.1 ((wr .i64 ((wr .i64 ((↑a0.words.length:Int)+(↑a0.w4a.length:Int)))+v147)).toNat)) ((get s0.2.2.1 ((wr .i64 ((wr .i64 ((↑a0.words.length:Int)+(↑a0.w4a.length:Int)))+v147)).toNat))<(↑a1.length:Int))) <|
   chk (x2c (get s0.2.1 ((wr .i64 ((wr .i64 ((↑a0.words.length:Int)+(↑a0.w4a.length:Int)))+v147)).toNat)) (0≤(get s0.2.2.1 ((wr .i64 ((wr .i64 ((↑a0.words.length:Int)+(↑a0.w4a.length:Int)))+v147)).toNat)))∧x2c (get s0.2.1 ((wr .i64 ((wr .i64 ((↑a0.words.length:Int)+(↑a0.w4a.length:Int)))+v147)).toNat)) (0≤(get a1 ((get s0.2.2.1 ((wr .i64 ((wr .i64 ((↑a0.words.length:Int)+(↑a0.w4a.length:Int)))+v147)).toNat)).toNat)).end_)∧x2c (get s0.2.1 ((wr .i64 ((wr .i64 ((↑a0.words.length:Int)+(↑a0.w4a.length:Int)))+v147)).toNat)) ((get s0.2.2.1 ((wr .i64 ((wr .i64 ((↑a0.words.length:Int)+(↑a0.w4a.length:Int)))+v147)).toNat)).toNat≤((get a1 ((get s0.2.2.1 ((wr .i64 ((wr .i64 ((↑a0.words.length:Int)+(↑a0.w4a.length:Int)))+v147)).toNat)).toNat)).end_).toNat)∧x2c (get s0.2.1 ((wr .i64 ((wr .i64 ((↑a0.words.length:Int)+(↑a0.w4a.length:Int)))+v147)).toNat)) (((get a1 ((get s0.2.2.1 ((wr .i64 ((wr .i64 ((↑a0.words.length:Int)+(↑a0.w4a.length:Int)))+v147)).toNat)).toNat)).end_).toNat≤a1.length)) <|
   chk (x2c (get s0.2.1 ((wr .i64 ((wr .i64 ((↑a0.words.length:Int)+(↑a0.w4a.length:Int)))+v147)).toNat)) (0≤s0.2.2.2.1)∧x2c (get s0.2.1 ((wr .i64 ((wr .i64 ((↑a0.words.length:Int)+(↑a0.w4a.length:Int)))+v147)).toNat)) (s0.2.2.2.1<(↑a1.length:Int))) <|
   chk (x2c (get s0.2.1 ((wr .i64 ((wr .i64 ((↑a0.words.length:Int)+(↑a0.w4a.length:Int)))+v147)).toNat)) (0≤s0.2.2.2.1)∧x2c (get s0.2.1 ((wr .i64 ((wr .i64 ((↑a0.words.length:Int)+(↑a0.w4a.length:Int)))+v147)).toNat)) (0≤(get a1 s0.2.2.2.1.toNat).end_)∧x2c (get s0.2.1 ((wr .i64 ((wr .i64 ((↑a0.words.length:Int)+(↑a0.w4a.length:Int)))+v147)).toNat)) (s0.2.2.2.1.toNat≤((get a1 s0.2.2.2.1.toNat).end_).toNat)∧x2c (get s0.2.1 ((wr .i64 ((wr .i64 ((↑a0.words.length:Int)+(↑a0.w4a.length:Int)))+v147)).toNat)) (((get a1 s0.2.2.2.1.toNat).end_).toNat≤a1.length)) <|
   (gd (get s0.2.1 ((wr .i64 ((wr .i64 ((↑a0.words.length:Int)+(↑a0.w4a.length:Int)))+v147)).toNat)) (x4G n ((a1.drop ((get s0.2.2.1 ((wr .i64 ((wr .i64 ((↑a0.words.length:Int)+(↑a0.w4a.length:Int)))+v147)).toNat)).toNat)).take (((get a1 ((get s0.2.2.1 ((wr .i64 ((wr .i64 ((↑a0.words.length:Int)+(↑a0.w4a.length:Int)))+v147)).toNat)).toNat)).end_).toNat-(get s0.2.2.1 ((wr .i64 ((wr .i64 ((↑a0.words.length:Int)+(↑a0.w4a.length:Int)))+v147)).toNat)).toNat)) ((a1.drop s0.2.2.2.1.toNat).take (((get a1 s0.2.2.2.1.toNat).end_).toNat-s0.2.2.2.1.toNat))) default).bind fun v177=>
   bif (bif (get s0.2.1 ((wr .i64 ((wr .i64 ((↑a0.words.length:Int)+(↑a0.w4a.length:Int)))+v147)).toNat))then(!v177)else false)then
    some (.ret ([],[],false))
   else
    bif (!(get s0.2.1 ((wr .i64 ((wr .i64 ((↑a0.words.length:Int)+(↑a0.w4a.length:Int)))+v147)).toNat)))then
     w6m (s0.2.1.set ((wr .i64 ((wr .i64 ((↑a0.words.length:Int)+(↑a0.w4a.length:Int)))+v147)).toNat) true) fun c182=>
     chk ((wr .i64 ((wr .i64 ((↑a0.words.length:Int)+(↑a0.w4a.length:Int)))+v147))<(↑s0.2.2.1.length:Int)) <|
     w6m (s0.2.2.1.set ((wr .i64 ((wr .i64 ((↑a0.words.length:Int)+(↑a0.w4a.length:Int)))+v147)).toNat) s0.2.2.2.1) fun c188=>
     chk ((wr .i64 ((wr .i64 ((↑a0.words.length:Int)+(↑a0.w4a.length:Int)))+v147))<(↑v1.length:Int)) <|
     (w4R n a1 s0.2.2.2.1).bind fun v192=>
     chk ((wr .i64 ((wr .i64 ((↑a0.words.length:Int)+(↑a0.w4a.length:Int)))+v147))<(↑s0.1.length:Int)) <|
     w6m (s0.1.set ((wr .i64 ((wr .i64 ((↑a0.words.length:Int)+(↑a0.w4a.length:Int)))+v147)).toNat) (w3V.mk (get v1 ((wr .i64 ((wr .i64 ((↑a0.words.length:Int)+(↑a0.w4a.length:Int)))+v147)).toNat)) [] v192)) fun c196=>
     x0J s0 a1 (c196,c182,c188)
    else
     x0J s0 a1 (s0.1,s0.2.1,s0.2.2.1)
  else
   chk (0≤s0.2.2.2.1∧s0.2.2.2.1<(↑a1.length:Int)) <|
   bif (bif (!decide (((get v8 s0.2.2.2.2.toNat).kind)=((get a1 s0.2.2.2.1.toNat).kind)))then true else(!decide ((↑(((get v8 s0.2.2.2.2.toNat).words).length):Int)=(↑(((get a1 s0.2.2.2.1.toNat).words).length):Int))))then
    some (.ret ([],[],false))
   else
    bif (bif (decide (((get v8 s0.2.2.2.2.toNat).kind)=8))then true else(decide (((get v8 s0.2.2.2.2.toNat).kind)=9)))then
     chk (0≤(wr .i64 ((wr .i64 ((↑a0.words.length:Int)+(↑a0.w4a.length:Int)))+(↑a0.parts.length:Int)))∧(wr .i64 ((wr .i64 ((↑a0.words.length:Int)+(↑a0.w4a.length:Int)))+(↑a0.parts.length:Int))).toNat≤v1.length) <|
     (w4f n (v1.drop ((wr .i64 ((wr .i64 ((↑a0.words.length:Int)+(↑a0.w4a.length:Int)))+(↑a0.parts.length:Int))).toNat)) ((get v8 s0.2.2.2.2.toNat).name)).bind fun v205=>
     w8J n s0 a1 v1 v8 a0 (wr .i64 ((wr .i64 ((wr .i64 ((↑a0.words.length:Int)+(↑a0.w4a.length:Int)))+(↑a0.parts.length:Int)))+v205))
    else
     (gd (decide (((get v8 s0.2.2.2.2.toNat).kind)=2)) (w4f n a0.w4a ((get v8 s0.2.2.2.2.toNat).name)) default).bind fun v206=>
     bif (bif (decide (((get v8 s0.2.2.2.2.toNat).kind)=2))then(decide (0≤v206))else false)then
      (w4f n a0.w4a ((get v8 s0.2.2.2.2.toNat).name)).bind fun v207=>
      w8J n s0 a1 v1 v8 a0 (wr .i64 ((↑a0.words.length:Int)+v207))
     else
      bif (!decide (((get v8 s0.2.2.2.2.toNat).name)=((get a1 s0.2.2.2.1.toNat).name)))then
       some (.ret ([],[],false))
      else
       w8J n s0 a1 v1 v8 a0 (-1)
 else
  some (.brk (s0.1,s0.2.2.1))
def w8m(t0:(List w3V)×(List Int))(s13:Int)(s15:Int):Option (Ctl (Ctl ((List w3V)×(List Int)×Bool) (Int) (Unit)) (Int) (Unit)):=
 bif (decide (s15<(↑t0.1.length:Int)))then
  chk (0≤s13∧s13<(↑t0.1.length:Int)) <|
  chk (0≤s15∧s15<(↑t0.1.length:Int)) <|
  bif (decide (((get t0.1 s13.toNat).text)=((get t0.1 s15.toNat).text)))then
   some (.ret (.ret ([],[],false)))
  else
   some (.nxt (wr .i64 (s15+1)))
 else
  some (.brk ())
def x0u(s13:Int)(t15:Unit):Option (Ctl ((List w3V)×(List Int)×Bool) (Int) (Unit)):=
 some (.nxt (wr .i64 (s13+1)))
def w8l(n:Nat)(a0:w3W)(t0:(List w3V)×(List Int))(s13:Int):Option (Ctl ((List w3V)×(List Int)×Bool) (Int) (Unit)):=
 bif (decide (s13<(↑a0.words.length:Int)))then
  w4h (w4K (w8m t0 s13) n (wr .i64 ((wr .i64 ((↑a0.words.length:Int)+(↑a0.w4a.length:Int)))+(↑a0.parts.length:Int)))) (x0u s13)
 else
  some (.brk ())
def x0v(t0:(List w3V)×(List Int))(t13:Unit):Option ((List w3V)×(List Int)×Bool):=
 some (t0.1,t0.2,true)
def x0I(n:Nat)(a0:w3W)(t0:(List w3V)×(List Int)):Option ((List w3V)×(List Int)×Bool):=
 w4h (w4K (w8l n a0 t0) n 0) (x0v t0)
def x2w(self:(w3T)→Option (Int×Int))(a0:w3T)(k0:Nat)(s0:Int×Int):Option (Ctl (Int×Int) (Int×Int) (Int×Int)):=
 (self (get a0.subs k0)).bind fun v2=>
 some (.nxt ((wr .i64 (s0.1+v2.1)),(max s0.2 v2.2)))
def x2x(t0:Int×Int):Option (Int×Int):=
 some (t0.1,(wr .i64 (t0.2+1)))
def x1A:Nat→(w3T)→Option (Int×Int)
 |0,_=>none
 |n+1,a0=>
  w4h (w4T (x2w (x1A n) a0) a0.subs.length (1,0)) (x2x)
def w7t(a1:Int)(w4B:(List w3V))(a2:Bs)(s0:Int):Option (Ctl (Bs) (Int) (Unit)):=
 bif (decide (s0<a1))then
  chk (0≤s0∧s0<(↑w4B.length:Int)) <|
  bif (decide (((get w4B s0.toNat).name)=a2))then
   some (.ret ((get w4B s0.toNat).text))
  else
   some (.nxt (wr .i64 (s0+1)))
 else
  some (.brk ())
def x0L(a2:Bs)(t0:Unit):Option (Bs):=
 some a2
def w4Q(n:Nat)(a0:Int)(a1:Int)(a2:Bs)(w4B:(List w3V)):Option (Bs):=
 w4h (w4K (w7t a1 w4B a2) n a0) (x0L a2)
def w9h(n:Nat)(a2:(List Bs))(a0:w3T)(w9w:Int)(w8T:(List Bs))(w5n:(List w3V))(x0g:(List Bs))(k2:Nat)(s2:(List Bs)):Option (Ctl (w3T×Bool×Int) ((List Bs)) ((List Bs))):=
 (w4c a2 (get a0.words k2)).bind fun v22=>
 bif v22 then
  (w4Q n (wr .i64 (w9w+(↑w8T.length:Int))) (↑w5n.length:Int) (get a0.words k2) w5n).bind fun v23=>
  w6m (s2++[v23]) fun c25=>
  chk (c25.length*16≤top∧c25.length≤top) <|
  some (.nxt c25)
 else
  (w4Q n 0 (↑x0g.length:Int) (get a0.words k2) w5n).bind fun v30=>
  w6m (s2++[v30]) fun c32=>
  chk (c32.length*16≤top∧c32.length≤top) <|
  some (.nxt c32)
def w9i(self:(w3T)→(Int)→((List Bs))→(Int)→(Bs)→((List Bs))→((List w3T))→((List Bs))→((List Bs))→((List Bs))→((List w3V))→(Int)→(Int)→Option (w3T×Bool×Int))(a0:w3T)(a1:Int)(j3:Bs×(List Bs))(w4B:Int)(x0X:Bs)(x0Y:(List Bs))(x0Z:(List w3T))(x0g:(List Bs))(x0Q:(List Bs))(w8T:(List Bs))(w5n:(List w3V))(w9w:Int)(k4:Nat)(s4:Int×(List w3T)×Bool):Option (Ctl (w3T×Bool×Int) (Int×(List w3T)×Bool) (Int×(List w3T)×Bool)):=
 (self (get a0.subs k4) (wr .i64 (a1+1)) j3.2 w4B x0X x0Y x0Z x0g x0Q w8T w5n w9w s4.1).bind fun v54=>
 w6m (s4.2.1++[v54.1]) fun c56=>
 chk (c56.length*72≤top∧c56.length≤top) <|
 some (.nxt (v54.2.2,c56,(bif s4.2.2 then v54.2.1 else false)))
def w9j(a0:w3T)(j3:Bs×(List Bs))(t2:(List Bs))(t4:Int×(List w3T)×Bool):Option (w3T×Bool×Int):=
 some ((w3T.mk a0.kind j3.1 t2 t4.2.1),t4.2.2,t4.1)
def w5z(self:(w3T)→(Int)→((List Bs))→(Int)→(Bs)→((List Bs))→((List w3T))→((List Bs))→((List Bs))→((List Bs))→((List w3V))→(Int)→(Int)→Option (w3T×Bool×Int))(a0:w3T)(a1:Int)(w4B:Int)(x0X:Bs)(x0Y:(List Bs))(x0Z:(List w3T))(x0g:(List Bs))(x0Q:(List Bs))(w8T:(List Bs))(w5n:(List w3V))(w9w:Int)(x4s:Int)(t2:(List Bs))(j3:Bs×(List Bs)):Option (w3T×Bool×Int):=
 w4h (w4T (w9i self a0 a1 j3 w4B x0X x0Y x0Z x0g x0Q w8T w5n w9w) a0.subs.length ((wr .i64 (x4s+1)),[],(bif (decide ((wr .i64 (x4s+1))≤200))then(decide (a1≤40))else false))) (w9j a0 j3 t2)
def w9k(self:(w3T)→(Int)→((List Bs))→(Int)→(Bs)→((List Bs))→((List w3T))→((List Bs))→((List Bs))→((List Bs))→((List w3V))→(Int)→(Int)→Option (w3T×Bool×Int))(n:Nat)(a0:w3T)(a2:(List Bs))(w9w:Int)(w8T:(List Bs))(w5n:(List w3V))(a1:Int)(w4B:Int)(x0X:Bs)(x0Y:(List Bs))(x0Z:(List w3T))(x0g:(List Bs))(x0Q:(List Bs))(x4s:Int)(t2:(List Bs)):Option (w3T×Bool×Int):=
 (w4V a0).bind fun v37=>
 bif v37 then
  (w7o a2 []).bind fun v38=>
  w6m (v38++[a0.name]) fun c40=>
  chk (c40.length*16≤top∧c40.length≤top) <|
  (w4Q n (wr .i64 (w9w+(↑w8T.length:Int))) (↑w5n.length:Int) a0.name w5n).bind fun v45=>
  w5z self a0 a1 w4B x0X x0Y x0Z x0g x0Q w8T w5n w9w x4s t2 (v45,c40)
 else
  bif (decide (a0.kind=2))then
   (w4Q n (↑x0g.length:Int) w9w a0.name w5n).bind fun v46=>
   w5z self a0 a1 w4B x0X x0Y x0Z x0g x0Q w8T w5n w9w x4s t2 (v46,a2)
  else
   w5z self a0 a1 w4B x0X x0Y x0Z x0g x0Q w8T w5n w9w x4s t2 (a0.name,a2)
def w6j(self:(w3T)→(Int)→((List Bs))→(Int)→(Bs)→((List Bs))→((List w3T))→((List Bs))→((List Bs))→((List Bs))→((List w3V))→(Int)→(Int)→Option (w3T×Bool×Int))(n:Nat)(a2:(List Bs))(a0:w3T)(w9w:Int)(w8T:(List Bs))(w5n:(List w3V))(x0g:(List Bs))(a1:Int)(w4B:Int)(x0X:Bs)(x0Y:(List Bs))(x0Z:(List w3T))(x0Q:(List Bs))(x4s:Int)(j0:Unit):Option (w3T×Bool×Int):=
 w4h (w4T (w9h n a2 a0 w9w w8T w5n x0g) a0.words.length []) (w9k self n a0 a2 w9w w8T w5n a1 w4B x0X x0Y x0Z x0g x0Q x4s)
def w9l(n:Nat)(w5n:(List w3V))(w9w:Int)(w8T:(List Bs))(a0:w3T)(x4s:Int)(a1:Int)(k1:Nat)(s1:Unit):Option (Ctl (w3T×Bool×Int) (Unit) (Unit)):=
 bif (decide (((get ((w5n.drop w9w.toNat).take ((wr .i64 (w9w+(↑w8T.length:Int))).toNat-w9w.toNat)) k1).name)=a0.name))then
  (x1A n ((get ((w5n.drop w9w.toNat).take ((wr .i64 (w9w+(↑w8T.length:Int))).toNat-w9w.toNat)) k1).form)).bind fun v6=>
  some (.ret ((get ((w5n.drop w9w.toNat).take ((wr .i64 (w9w+(↑w8T.length:Int))).toNat-w9w.toNat)) k1).form,(bif (decide ((wr .i64 (x4s+v6.1))≤200))then(decide ((wr .i64 ((wr .i64 (a1+v6.2))-1))≤40))else false),(wr .i64 (x4s+v6.1))))
 else
  some (.nxt ())
def x0M(self:(w3T)→(Int)→((List Bs))→(Int)→(Bs)→((List Bs))→((List w3T))→((List Bs))→((List Bs))→((List Bs))→((List w3V))→(Int)→(Int)→Option (w3T×Bool×Int))(n:Nat)(a2:(List Bs))(a0:w3T)(w9w:Int)(w8T:(List Bs))(w5n:(List w3V))(x0g:(List Bs))(a1:Int)(w4B:Int)(x0X:Bs)(x0Y:(List Bs))(x0Z:(List w3T))(x0Q:(List Bs))(x4s:Int)(t1:Unit):Option (w3T×Bool×Int):=
 w6j self n a2 a0 w9w w8T w5n x0g a1 w4B x0X x0Y x0Z x0Q x4s ()
def w4r:Nat→(w3T)→(Int)→((List Bs))→(Int)→(Bs)→((List Bs))→((List w3T))→((List Bs))→((List Bs))→((List Bs))→((List w3V))→(Int)→(Int)→Option (w3T×Bool×Int)
 |0,_,_,_,_,_,_,_,_,_,_,_,_,_=>none
 |n+1,a0,a1,a2,w4B,x0X,x0Y,x0Z,x0g,x0Q,w8T,w5n,w9w,x4s=>
  (w9X (w3W.mk (w3T.mk w4B x0X x0Y x0Z) x0g x0Q w8T) a0).bind fun v1=>
  bif v1 then
   chk (0≤w9w∧0≤(wr .i64 (w9w+(↑w8T.length:Int)))∧w9w.toNat≤(wr .i64 (w9w+(↑w8T.length:Int))).toNat∧(wr .i64 (w9w+(↑w8T.length:Int))).toNat≤w5n.length) <|
   w4h (w4T (w9l n w5n w9w w8T a0 x4s a1) (((w5n.drop w9w.toNat).take ((wr .i64 (w9w+(↑w8T.length:Int))).toNat-w9w.toNat)).length) ()) (x0M (w4r n) n a2 a0 w9w w8T w5n x0g a1 w4B x0X x0Y x0Z x0Q x4s)
  else
   w6j (w4r n) n a2 a0 w9w w8T w5n x0g a1 w4B x0X x0Y x0Z x0Q x4s ()
def w5s(n:Nat)(k0:Nat)(a0:w3W)(a1:(List w3V))(j2:Bool):Option (Ctl (w3T×w4b) (Unit) (Unit)):=
 bif j2 then
  (w4n 5 (↑k0:Int)).bind fun v16=>
  some (.ret ((w3T.mk 0 [] [] []),v16))
 else
  bif (bif (decide ((wr .i64 ((↑a0.words.length:Int)+(↑a0.w4a.length:Int)))≤(↑k0:Int)))then(decide ((↑k0:Int)<(wr .i64 ((wr .i64 ((↑a0.words.length:Int)+(↑a0.w4a.length:Int)))+(↑a0.parts.length:Int)))))else false)then
   (w7r n ((get a1 k0).form)).bind fun v17=>
   bif (!decide (v17.code=0))then
    (w4n v17.code (↑k0:Int)).bind fun v18=>
    some (.ret ((w3T.mk 0 [] [] []),v18))
   else
    some (.nxt ())
  else
   some (.nxt ())
def w9G(n:Nat)(v5:(List Bs))(a1:(List w3V))(a0:w3W)(k0:Nat)(s0:Unit):Option (Ctl (w3T×w4b) (Unit) (Unit)):=
 chk ((↑k0:Int)<(↑v5.length:Int)) <|
 bif (!decide (((get a1 k0).name)=(get v5 k0)))then
  (w4n 10 (↑k0:Int)).bind fun v14=>
  some (.ret ((w3T.mk 0 [] [] []),v14))
 else
  bif (bif (bif (decide ((wr .i64 ((↑a0.words.length:Int)+(↑a0.w4a.length:Int)))≤(↑k0:Int)))then(decide ((↑k0:Int)<(wr .i64 ((wr .i64 ((↑a0.words.length:Int)+(↑a0.w4a.length:Int)))+(↑a0.parts.length:Int)))))else false)then(!decide (((get a1 k0).text)=[]))else false)then
   w5s n k0 a0 a1 (bif (bif (decide ((wr .i64 ((↑a0.words.length:Int)+(↑a0.w4a.length:Int)))≤(↑k0:Int)))then(decide ((↑k0:Int)<(wr .i64 ((wr .i64 ((↑a0.words.length:Int)+(↑a0.w4a.length:Int)))+(↑a0.parts.length:Int)))))else false)then(!decide (((get a1 k0).text)=[]))else false)
  else
   (gd ((!(bif (decide ((wr .i64 ((↑a0.words.length:Int)+(↑a0.w4a.length:Int)))≤(↑k0:Int)))then(decide ((↑k0:Int)<(wr .i64 ((wr .i64 ((↑a0.words.length:Int)+(↑a0.w4a.length:Int)))+(↑a0.parts.length:Int)))))else false))&&(!(!(bif (bif (bif (decide (((get a1 k0).form.kind)=0))then(decide (((get a1 k0).form.name)=[]))else false)then(decide ((↑(((get a1 k0).form.words).length):Int)=0))else false)then(decide ((↑(((get a1 k0).form.subs).length):Int)=0))else false)))) (termName ((get a1 k0).text)) default).bind fun v15=>
   w5s n k0 a0 a1 (bif (!(bif (decide ((wr .i64 ((↑a0.words.length:Int)+(↑a0.w4a.length:Int)))≤(↑k0:Int)))then(decide ((↑k0:Int)<(wr .i64 ((wr .i64 ((↑a0.words.length:Int)+(↑a0.w4a.length:Int)))+(↑a0.parts.length:Int)))))else false))then(bif (!(bif (bif (bif (decide (((get a1 k0).form.kind)=0))then(decide (((get a1 k0).form.name)=[]))else false)then(decide ((↑(((get a1 k0).form.words).length):Int)=0))else false)then(decide ((↑(((get a1 k0).form.subs).length):Int)=0))else false))then true else(!v15))else false)
def w9H(n:Nat)(a0:w3W)(a1:(List w3V))(t0:Unit):Option (w3T×w4b):=
 (w4r n a0.form 1 [] a0.form.kind a0.form.name a0.form.words a0.form.subs a0.words a0.w4a a0.parts a1 (wr .i64 ((↑a0.words.length:Int)+(↑a0.w4a.length:Int))) 0).bind fun v19=>
 bif (!v19.2.1)then
  (w4n 1 0).bind fun v20=>
  some ((w3T.mk 0 [] [] []),v20)
 else
  (x0G n v19.1).bind fun v21=>
  some (v21,(w4b.mk 0 0))
def w9N(n:Nat)(a0:w3W)(a1:(List w3V)):Option (w3T×w4b):=
 (w6V n a0).bind fun v1=>
 bif (!decide (v1.code=0))then
  some ((w3T.mk 0 [] [] []),v1)
 else
  (w6v a0).bind fun v2=>
  (w4o n a0.form).bind fun v3=>
  (x6B [v2,v3]).bind fun v5=>
  bif (!decide ((↑a1.length:Int)=(↑v5.length:Int)))then
   (w4n 9 (-2)).bind fun v6=>
   some ((w3T.mk 0 [] [] []),v6)
  else
   w4h (w4T (w9G n v5 a1 a0) a1.length ()) (w9H n a0 a1)
def w5c(n:Nat)(a0:w3T):Option (Bool):=
 (w4t n a0 (w3T.mk 0 [] [] [])).bind fun v1=>
 some v1
def w4Z(n:Nat)(a2:(List w3V))(a1:(List Bs))(a0:w3W)(s0:Int):Option (Ctl (w4b) (Int) (Unit)):=
 bif (decide (s0<(↑a2.length:Int)))then
  chk (0≤s0∧s0<(↑a2.length:Int)) <|
  chk (s0<(↑a1.length:Int)) <|
  bif (!decide (((get a2 s0.toNat).name)=(get a1 s0.toNat)))then
   some (.ret (w4b.mk 10 s0))
  else
   bif (bif (decide ((wr .i64 ((↑a0.words.length:Int)+(↑a0.w4a.length:Int)))≤s0))then(decide (s0<(wr .i64 ((wr .i64 ((↑a0.words.length:Int)+(↑a0.w4a.length:Int)))+(↑a0.parts.length:Int)))))else false)then
    bif (!decide (((get a2 s0.toNat).text)=[]))then
     some (.ret (w4b.mk 5 s0))
    else
     (w5u n ((get a2 s0.toNat).form)).bind fun v8=>
     bif (!decide (v8.code=0))then
      some (.ret (w4b.mk v8.code s0))
     else
      some (.nxt (wr .i64 (s0+1)))
   else
    (gd (!(bif (bif (bif (!decide (((get a2 s0.toNat).form.kind)=0))then true else(!decide (((get a2 s0.toNat).form.name)=[])))then true else(decide (0<(↑(((get a2 s0.toNat).form.words).length):Int))))then true else(decide (0<(↑(((get a2 s0.toNat).form.subs).length):Int))))) (w6E n ((get a2 s0.toNat).text)) default).bind fun v9=>
    bif (bif (bif (bif (bif (!decide (((get a2 s0.toNat).form.kind)=0))then true else(!decide (((get a2 s0.toNat).form.name)=[])))then true else(decide (0<(↑(((get a2 s0.toNat).form.words).length):Int))))then true else(decide (0<(↑(((get a2 s0.toNat).form.subs).length):Int))))then true else(!v9))then
     some (.ret (w4b.mk 5 s0))
    else
     some (.nxt (wr .i64 (s0+1)))
 else
  some (.brk ())
def w5F(t0:Unit):Option (w4b):=
 some (w4b.mk 0 0)
def w5t(n:Nat)(a0:w3W)(a1:(List Bs))(a2:(List w3V)):Option (w4b):=
 bif (!decide ((↑a2.length:Int)=(↑a1.length:Int)))then
  some (w4b.mk 9 (-2))
 else
  w4h (w4K (w4Z n a2 a1 a0) n 0) (w5F)
def w6A(s0:(List w3U)×Int)(s2:Int×Int):Option (Ctl (Ctl ((List w3U)) ((List w3U)×Int) ((List w3U))) (Int×Int) (Int)):=
 chk (0≤s0.2∧s0.2<(↑s0.1.length:Int)) <|
 (w6c ((get s0.1 s0.2.toNat).kind)).bind fun v39=>
 bif (decide (s2.2<v39))then
  chk (0≤s2.1∧s2.1<(↑s0.1.length:Int)) <|
  some (.nxt ((get s0.1 s2.1.toNat).end_,(wr .i64 (s2.2+1))))
 else
  some (.brk s2.1)
def w8o(s0:(List w3U)×Int)(t2:Int):Option (Ctl ((List w3U)) ((List w3U)×Int) ((List w3U))):=
 chk (0≤s0.2∧s0.2<(↑s0.1.length:Int)) <|
 w6m (s0.1.set s0.2.toNat (w3U.mk ((get s0.1 s0.2.toNat).kind) ((get s0.1 s0.2.toNat).name) ((get s0.1 s0.2.toNat).words) ((get s0.1 s0.2.toNat).bound) t2)) fun c48=>
 some (.nxt (c48,(wr .i64 (s0.2-1))))
def w6z(n:Nat)(s0:(List w3U)×Int):Option (Ctl ((List w3U)) ((List w3U)×Int) ((List w3U))):=
 bif (decide (0≤s0.2))then
  w4h (w4K (w6A s0) n ((wr .i64 (s0.2+1)),0)) (w8o s0)
 else
  some (.brk s0.1)
def w8p(t0:(List w3U)):Option ((List w3U)):=
 some t0
def w7Y(n:Nat)(l0:(List w3U)):Option ((List w3U)):=
 w4h (w4K (w6z n) n (l0,(wr .i64 ((↑l0.length:Int)-1)))) (w8p)
def w5J(v111:(List w3U))(s4:(List w3U)×Int):Option (Ctl (Ctl ((List w3U)) ((List w3U)×Int) ((List w3U))) ((List w3U)×Int) ((List w3U))):=
 bif (decide (s4.2<(↑v111.length:Int)))then
  chk (0≤s4.2∧s4.2<(↑v111.length:Int)) <|
  w6m (s4.1++[(get v111 s4.2.toNat)]) fun c122=>
  chk (c122.length*80≤top∧c122.length≤top) <|
  some (.nxt (c122,(wr .i64 (s4.2+1))))
 else
  some (.brk s4.1)
def w6N(s0:(List w3U)×Int)(t4:(List w3U)):Option (Ctl ((List w3U)) ((List w3U)×Int) ((List w3U))):=
 some (.nxt (t4,(wr .i64 (s0.2+1))))
def w5d(n:Nat)(v1:(List w3U))(s0:(List w3U)×Int)(a0:w3W)(a1:(List Bs))(a2:(List w3V))(s6:(List Bs)×Int):Option (Ctl (Ctl ((List w3U)) ((List w3U)×Int) ((List w3U))) ((List Bs)×Int) ((List Bs))):=
 bif (decide (s6.2<(↑(((get v1 s0.2.toNat).words).length):Int)))then
  chk (0≤s6.2∧s6.2<(↑(((get v1 s0.2.toNat).words).length):Int)) <|
  chk (s6.2<(↑(((get v1 s0.2.toNat).bound).length):Int)) <|
  bif (get ((get v1 s0.2.toNat).bound) s6.2.toNat)then
   chk (0≤(wr .i64 ((wr .i64 ((↑a0.words.length:Int)+(↑a0.w4a.length:Int)))+(↑a0.parts.length:Int)))∧(wr .i64 ((wr .i64 ((↑a0.words.length:Int)+(↑a0.w4a.length:Int)))+(↑a0.parts.length:Int))).toNat≤a1.length) <|
   (w4f n (a1.drop ((wr .i64 ((wr .i64 ((↑a0.words.length:Int)+(↑a0.w4a.length:Int)))+(↑a0.parts.length:Int))).toNat)) (get ((get v1 s0.2.toNat).words) s6.2.toNat)).bind fun v170=>
   chk (0≤(wr .i64 ((wr .i64 ((wr .i64 ((↑a0.words.length:Int)+(↑a0.w4a.length:Int)))+(↑a0.parts.length:Int)))+v170))∧(wr .i64 ((wr .i64 ((wr .i64 ((↑a0.words.length:Int)+(↑a0.w4a.length:Int)))+(↑a0.parts.length:Int)))+v170))<(↑a2.length:Int)) <|
   w6m (s6.1++[(get a2 ((wr .i64 ((wr .i64 ((wr .i64 ((↑a0.words.length:Int)+(↑a0.w4a.length:Int)))+(↑a0.parts.length:Int)))+v170)).toNat)).text]) fun c174=>
   chk (c174.length*16≤top∧c174.length≤top) <|
   some (.nxt (c174,(wr .i64 (s6.2+1))))
  else
   (w4f n a0.words (get ((get v1 s0.2.toNat).words) s6.2.toNat)).bind fun v179=>
   bif (decide (0≤v179))then
    (w4f n a0.words (get ((get v1 s0.2.toNat).words) s6.2.toNat)).bind fun v180=>
    chk (0≤v180∧v180<(↑a2.length:Int)) <|
    w6m (s6.1++[(get a2 v180.toNat).text]) fun c184=>
    chk (c184.length*16≤top∧c184.length≤top) <|
    some (.nxt (c184,(wr .i64 (s6.2+1))))
   else
    w6m (s6.1++[(get ((get v1 s0.2.toNat).words) s6.2.toNat)]) fun c190=>
    chk (c190.length*16≤top∧c190.length≤top) <|
    some (.nxt (c190,(wr .i64 (s6.2+1))))
 else
  some (.brk s6.1)
def w6M(s0:(List w3U)×Int)(v1:(List w3U))(j5:Bs)(t6:(List Bs)):Option (Ctl ((List w3U)) ((List w3U)×Int) ((List w3U))):=
 w6m (s0.1++[(w3U.mk ((get v1 s0.2.toNat).kind) j5 t6 [] 0)]) fun c196=>
 chk (c196.length*80≤top∧c196.length≤top) <|
 some (.nxt (c196,(wr .i64 (s0.2+1))))
def w4I(n:Nat)(v1:(List w3U))(s0:(List w3U)×Int)(a0:w3W)(a1:(List Bs))(a2:(List w3V))(j5:Bs):Option (Ctl ((List w3U)) ((List w3U)×Int) ((List w3U))):=
 w4h (w4K (w5d n v1 s0 a0 a1 a2) n ([],0)) (w6M s0 v1 j5)
def w4j(n:Nat)(v1:(List w3U))(a0:w3W)(a2:(List w3V))(a1:(List Bs))(s0:(List w3U)×Int):Option (Ctl ((List w3U)) ((List w3U)×Int) ((List w3U))):=
 bif (decide (s0.2<(↑v1.length:Int)))then
  chk (0≤s0.2∧s0.2<(↑v1.length:Int)) <|
  (gd (bif (decide (((get v1 s0.2.toNat).kind)=2))then(decide ((↑(((get v1 s0.2.toNat).words).length):Int)=0))else false) (w4f n a0.parts ((get v1 s0.2.toNat).name)) default).bind fun v107=>
  bif (bif (bif (decide (((get v1 s0.2.toNat).kind)=2))then(decide ((↑(((get v1 s0.2.toNat).words).length):Int)=0))else false)then(decide (0≤v107))else false)then
   (w4f n a0.parts ((get v1 s0.2.toNat).name)).bind fun v108=>
   chk (0≤(wr .i64 ((wr .i64 ((↑a0.words.length:Int)+(↑a0.w4a.length:Int)))+v108))∧(wr .i64 ((wr .i64 ((↑a0.words.length:Int)+(↑a0.w4a.length:Int)))+v108))<(↑a2.length:Int)) <|
   (w5r n ((get a2 ((wr .i64 ((wr .i64 ((↑a0.words.length:Int)+(↑a0.w4a.length:Int)))+v108)).toNat)).form) []).bind fun v111=>
   w4h (w4K (w5J v111) n (s0.1,0)) (w6N s0)
  else
   bif (bif (decide (((get v1 s0.2.toNat).kind)=8))then true else(decide (((get v1 s0.2.toNat).kind)=9)))then
    chk (0≤(wr .i64 ((wr .i64 ((↑a0.words.length:Int)+(↑a0.w4a.length:Int)))+(↑a0.parts.length:Int)))∧(wr .i64 ((wr .i64 ((↑a0.words.length:Int)+(↑a0.w4a.length:Int)))+(↑a0.parts.length:Int))).toNat≤a1.length) <|
    (w4f n (a1.drop ((wr .i64 ((wr .i64 ((↑a0.words.length:Int)+(↑a0.w4a.length:Int)))+(↑a0.parts.length:Int))).toNat)) ((get v1 s0.2.toNat).name)).bind fun v129=>
    chk (0≤(wr .i64 ((wr .i64 ((wr .i64 ((↑a0.words.length:Int)+(↑a0.w4a.length:Int)))+(↑a0.parts.length:Int)))+v129))∧(wr .i64 ((wr .i64 ((wr .i64 ((↑a0.words.length:Int)+(↑a0.w4a.length:Int)))+(↑a0.parts.length:Int)))+v129))<(↑a2.length:Int)) <|
    w4I n v1 s0 a0 a1 a2 ((get a2 ((wr .i64 ((wr .i64 ((wr .i64 ((↑a0.words.length:Int)+(↑a0.w4a.length:Int)))+(↑a0.parts.length:Int)))+v129)).toNat)).text)
   else
    (gd (decide (((get v1 s0.2.toNat).kind)=2)) (w4f n a0.w4a ((get v1 s0.2.toNat).name)) default).bind fun v132=>
    bif (bif (decide (((get v1 s0.2.toNat).kind)=2))then(decide (0≤v132))else false)then
     (w4f n a0.w4a ((get v1 s0.2.toNat).name)).bind fun v133=>
     chk (0≤(wr .i64 ((↑a0.words.length:Int)+v133))∧(wr .i64 ((↑a0.words.length:Int)+v133))<(↑a2.length:Int)) <|
     w4I n v1 s0 a0 a1 a2 ((get a2 ((wr .i64 ((↑a0.words.length:Int)+v133)).toNat)).text)
    else
     w4I n v1 s0 a0 a1 a2 ((get v1 s0.2.toNat).name)
 else
  some (.brk s0.1)
def w6O(n:Nat)(t0:(List w3U)):Option ((List w3U)):=
 (w7Y n t0).bind fun v201=>
 some v201
def w6B(n:Nat)(a0:w3W)(a1:(List Bs))(a2:(List w3V)):Option ((List w3U)):=
 (w5r n a0.form []).bind fun v1=>
 w4h (w4K (w4j n v1 a0 a2 a1) n ([],0)) (w6O n)
def w6y(self:((List w3U))→(Int)→Option (Int))(a1:Int)(a0:(List w3U))(s0:Int×Int×Int):Option (Ctl (Int) (Int×Int×Int) (Int)):=
 chk (0≤a1∧a1<(↑a0.length:Int)) <|
 (w6c ((get a0 a1.toNat).kind)).bind fun v11=>
 bif (decide (s0.2.2<v11))then
  (self a0 s0.2.1).bind fun v12=>
  bif (decide (s0.1<v12))then
   chk (0≤s0.2.1∧s0.2.1<(↑a0.length:Int)) <|
   some (.nxt (v12,(get a0 s0.2.1.toNat).end_,(wr .i64 (s0.2.2+1))))
  else
   chk (0≤s0.2.1∧s0.2.1<(↑a0.length:Int)) <|
   some (.nxt (s0.1,(get a0 s0.2.1.toNat).end_,(wr .i64 (s0.2.2+1))))
 else
  some (.brk s0.1)
def w8n(t0:Int):Option (Int):=
 some (wr .i64 (t0+1))
def w5K:Nat→((List w3U))→(Int)→Option (Int)
 |0,_,_=>none
 |n+1,a0,a1=>
  w4h (w4K (w6y (w5K n) a1 a0) n (0,(wr .i64 (a1+1)),0)) (w8n)
def w4v(n:Nat)(a0:w3W)(a1:(List w3V)):Option (Bool):=
 (w5j n).bind fun v1=>
 bif (!v1)then
  some false
 else
  (w9N n a0 a1).bind fun v2=>
  (w5G n a0).bind fun v3=>
  bif (!decide (v3.code=0))then
   (gd (decide (v2.2.code=v3.code)&&(decide (v2.2.index=v3.index))) (w5c n v2.1) default).bind fun v4=>
   some (bif (decide (v2.2.code=v3.code)&&(decide (v2.2.index=v3.index)))then v4 else false)
  else
   (w5I n a0).bind fun v5=>
   (w5t n a0 v5 a1).bind fun v6=>
   bif (!decide (v6.code=0))then
    (gd (decide (v2.2.code=v6.code)&&(decide (v2.2.index=v6.index))) (w5c n v2.1) default).bind fun v7=>
    some (bif (decide (v2.2.code=v6.code)&&(decide (v2.2.index=v6.index)))then v7 else false)
   else
    (w6B n a0 v5 a1).bind fun v8=>
    (gd (!(decide (200<(↑v8.length:Int)))) (w5K n v8 0) default).bind fun v9=>
    bif (bif (decide (200<(↑v8.length:Int)))then true else(decide (40<v9)))then
     (gd (decide (v2.2.code=1)&&(decide (v2.2.index=0))) (w5c n v2.1) default).bind fun v10=>
     some (bif (decide (v2.2.code=1)&&(decide (v2.2.index=0)))then v10 else false)
    else
     (gd (decide (v2.2.code=0)) (w4R n v8 0) default).bind fun v11=>
     (gd (decide (v2.2.code=0)) (w6g n v11) default).bind fun v12=>
     (gd (decide (v2.2.code=0)) (w4t n v2.1 v12) default).bind fun v13=>
     some (bif (decide (v2.2.code=0))then v13 else false)
end Go.Proofs.YtdjnbjnlnjhllaaGreatDoor
