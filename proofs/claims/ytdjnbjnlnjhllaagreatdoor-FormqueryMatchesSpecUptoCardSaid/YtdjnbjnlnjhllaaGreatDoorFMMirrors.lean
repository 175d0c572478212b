import Derived.Test.YtdjnbjnlnjhllaaGreatDoorFMStrs
import Derived.Test.YtdjnbjnlnjhllaaGreatDoorFMCat
set_option linter.unusedVariables false
set_option linter.unusedSimpArgs false
namespace Go.Proofs.YtdjnbjnlnjhllaaGreatDoor
open Go Go.Am
def p4w(a0:Bs)(a1:(List Bs)):Option (i8F):=
 some (i8F.mk 2 a0 a1 [])
def p3j(a0:Int)(a1:i8F)(a2:i8F):Option (i8F):=
 some (i8F.mk a0 [] [] [a1,a2])
def p2W(a0:Int)(p0s:Int):Option (i8N):=
 some (i8N.mk a0 p0s)
def p4H(j2:Bool):Option (Int):=
 bif j2 then
  some 2
 else
  some (-1)
def p4G(a0:Int)(j1:Bool):Option (Int):=
 bif j1 then
  some 1
 else
  bif (decide (a0=5))then
   p4H (decide (a0=5))
  else
   bif (decide (a0=6))then
    p4H (decide (a0=6))
   else
    p4H (decide (a0=7))
def p4F(a0:Int)(j0:Bool):Option (Int):=
 bif j0 then
  some 0
 else
  bif (decide (a0=4))then
   p4G a0 (decide (a0=4))
  else
   bif (decide (a0=8))then
    p4G a0 (decide (a0=8))
   else
    p4G a0 (decide (a0=9))
def p7s(a0:Int):Option (Int):=
 bif (decide (a0=1))then
  p4F a0 (decide (a0=1))
 else
  bif (decide (a0=2))then
   p4F a0 (decide (a0=2))
  else
   p4F a0 (decide (a0=3))
def i9W(a0:i8F):Option (Bool):=
 some (bif (decide (a0.kind=8))then true else(decide (a0.kind=9)))
def p8N(a0:Bs)(k0:Nat)(s0:Unit):Option (Ctl (Bool) (Unit) (Unit)):=
 bif (!(bif (bif (bif (bif (decide (97≤(i9O a0 (↑k0:Int))))then(decide ((i9O a0 (↑k0:Int))≤122))else false)then true else(bif (decide (48≤(i9O a0 (↑k0:Int))))then(decide ((i9O a0 (↑k0:Int))≤57))else false))then true else(decide ((i9O a0 (↑k0:Int))=95)))then true else(decide ((i9O a0 (↑k0:Int))=45))))then
  some (.ret false)
 else
  some (.nxt ())
def p8O(t0:Unit):Option (Bool):=
 some true
def termName(a0:Bs):Option (Bool):=
 chk (p5Q (!(bif (decide ((↑a0.length:Int)=0))then true else(decide (30<(↑a0.length:Int))))) (0<(↑a0.length:Int))) <|
 chk (p5Q (!(bif (bif (decide ((↑a0.length:Int)=0))then true else(decide (30<(↑a0.length:Int))))then true else(decide ((i9O a0 0)<97)))) (0<(↑a0.length:Int))) <|
 bif (bif (bif (bif (decide ((↑a0.length:Int)=0))then true else(decide (30<(↑a0.length:Int))))then true else(decide ((i9O a0 0)<97)))then true else(decide (122<(i9O a0 0))))then
  some false
 else
  chk (a0.length≤9223372036854775807) <|
  i8R (i9P (p8N a0) a0.length ()) (p8O)
def p5u(a0:i8F)(p0s:Int)(k2:Nat)(s2:Unit):Option (Ctl (i8N×Int) (Unit) (Unit)):=
 (termName (get a0.words k2)).bind fun v9=>
 bif (!v9)then
  (p2W 10 p0s).bind fun v10=>
  some (.ret (v10,(wr .i64 (p0s+1))))
 else
  some (.nxt ())
def p5w(self:(i8F)→(Int)→(Int)→(Bool)→Option (i8N×Int))(a0:i8F)(a1:Int)(p3x:Bool)(k3:Nat)(s3:Int):Option (Ctl (i8N×Int) (Int) (Int)):=
 (self (get a0.subs k3) (wr .i64 (a1+1)) s3 p3x).bind fun v12=>
 bif (!decide (v12.1.code=0))then
  some (.ret (v12.1,v12.2))
 else
  some (.nxt v12.2)
def p5x(t3:Int):Option (i8N×Int):=
 some ((i8N.mk 0 0),t3)
def p5v(self:(i8F)→(Int)→(Int)→(Bool)→Option (i8N×Int))(a0:i8F)(a1:Int)(p3x:Bool)(p0s:Int)(t2:Unit):Option (i8N×Int):=
 i8R (i9P (p5w self a0 a1 p3x) a0.subs.length (wr .i64 (p0s+1))) (p5x)
def p2z(self:(i8F)→(Int)→(Int)→(Bool)→Option (i8N×Int))(a0:i8F)(j0:Int)(p0s:Int)(a1:Int)(p3x:Bool)(j1:Bool):Option (i8N×Int):=
 bif (bif (!decide ((↑a0.subs.length:Int)=j0))then true else(!j1))then
  (p2W 9 p0s).bind fun v4=>
  some (v4,(wr .i64 (p0s+1)))
 else
  (gd (!(decide (a0.kind=2))) (i9W a0) default).bind fun v5=>
  (gd (bif (bif (decide (a0.kind=2))then true else v5)then true else(decide (a0.kind=10))) (termName a0.name) default).bind fun v6=>
  bif (bif (bif (bif (decide (a0.kind=2))then true else v5)then true else(decide (a0.kind=10)))then(!v6)else false)then
   (p2W 10 p0s).bind fun v7=>
   some (v7,(wr .i64 (p0s+1)))
  else
   bif (bif (!(bif (bif (decide (a0.kind=2))then true else v5)then true else(decide (a0.kind=10))))then(!decide (a0.name=[]))else false)then
    (p2W 5 p0s).bind fun v8=>
    some (v8,(wr .i64 (p0s+1)))
   else
    i8R (i9P (p5u a0 p0s) a0.words.length ()) (p5v self a0 a1 p3x p0s)
def p3B(self:(i8F)→(Int)→(Int)→(Bool)→Option (i8N×Int))(p0s:Int)(a0:i8F)(a1:Int)(p3x:Bool)(j0:Int):Option (i8N×Int):=
 bif (decide (j0<0))then
  (p2W 4 p0s).bind fun v3=>
  some (v3,(wr .i64 (p0s+1)))
 else
  bif (decide (a0.kind=2))then
   p2z self a0 j0 p0s a1 p3x (decide ((↑a0.words.length:Int)≤3))
  else
   bif (decide (a0.kind=3))then
    p2z self a0 j0 p0s a1 p3x (decide ((↑a0.words.length:Int)=2))
   else
    p2z self a0 j0 p0s a1 p3x (decide ((↑a0.words.length:Int)=0))
def p0t:Nat→(i8F)→(Int)→(Int)→(Bool)→Option (i8N×Int)
 |0,_,_,_,_=>none
 |n+1,a0,a1,p0s,p3x=>
  bif (bif (decide (200<(wr .i64 (p0s+1))))then true else(decide (40<a1)))then
   (p2W 1 p0s).bind fun v1=>
   some (v1,(wr .i64 (p0s+1)))
  else
   (p7s a0.kind).bind fun v2=>
   bif (bif (decide (a0.kind=10))then p3x else false)then
    p3B (p0t n) p0s a0 a1 p3x 0
   else
    p3B (p0t n) p0s a0 a1 p3x v2
def p7M(n:Nat)(a0:i8F)(a1:Bool):Option (i8N):=
 (p0t n a0 1 0 a1).bind fun v1=>
 some v1.1
def p3e(n:Nat)(a0:i8F):Option (i8N):=
 (p7M n a0 false).bind fun v1=>
 some v1
def p2j(a0:i8I):Option ((List Bs)):=
 (r1E [a0.words,a0.i8M,a0.parts]).bind fun v2=>
 some v2
def p0o(a0:Int)(a1:Int):Option (i8N):=
 some (i8N.mk a0 a1)
def p1z(a1:Bs)(a0:(List Bs))(k0:Nat)(s0:Unit):Option (Ctl (Int) (Unit) (Unit)):=
 bif (decide (a1=(get a0 k0)))then
  some (.ret (↑k0:Int))
 else
  some (.nxt ())
def p1A(t0:Unit):Option (Int):=
 some (-1)
def p2P(a0:(List Bs))(a1:Bs):Option (Int):=
 i8R (i9P (p1z a1 a0) a0.length ()) (p1A)
def i8O(a0:(List Bs))(a1:Bs):Option (Bool):=
 (p2P a0 a1).bind fun v1=>
 some (decide (0≤v1))
def p3U(a1:(List Bs))(a0:i8F)(k0:Nat)(s0:(List Bs)):Option (Ctl ((List Bs)) ((List Bs)) ((List Bs))):=
 (i8O a1 (get a0.words k0)).bind fun v8=>
 bif (!v8)then
  p1m (s0++[(get a0.words k0)]) fun c10=>
  chk (c10.length*16≤top∧c10.length≤top) <|
  some (.nxt c10)
 else
  some (.nxt s0)
def p3V(self:(i8F)→((List Bs))→((List Bs))→Option ((List Bs)))(a0:i8F)(j1:(List Bs))(k2:Nat)(s2:(List Bs)):Option (Ctl ((List Bs)) ((List Bs)) ((List Bs))):=
 (self (get a0.subs k2) j1 s2).bind fun v26=>
 some (.nxt v26)
def p3W(t2:(List Bs)):Option ((List Bs)):=
 some t2
def p1t(self:(i8F)→((List Bs))→((List Bs))→Option ((List Bs)))(a0:i8F)(t0:(List Bs))(j1:(List Bs)):Option ((List Bs)):=
 i8R (i9P (p3V self a0 j1) a0.subs.length t0) (p3W)
def p3X(self:(i8F)→((List Bs))→((List Bs))→Option ((List Bs)))(a0:i8F)(a1:(List Bs))(t0:(List Bs)):Option ((List Bs)):=
 (i9W a0).bind fun v15=>
 bif v15 then
  chk (0≤(↑a1.length:Int)∧0≤(↑a1.length:Int)) <|
  p1m (a1++[a0.name]) fun c19=>
  chk (c19.length*16≤top∧c19.length≤top) <|
  p1t self a0 t0 c19
 else
  p1t self a0 t0 a1
def i9Y:Nat→(i8F)→((List Bs))→((List Bs))→Option ((List Bs))
 |0,_,_,_=>none
 |n+1,a0,a1,l1=>
  i8R (i9P (p3U a1 a0) a0.words.length l1) (p3X (i9Y n) a0 a1)
def p0G(l0:(List Bs)):Option ((List Bs)):=
 chk (l0.length<4611686018427387904) (some (r5Y cfB l0))
def p1P(l0:(List Bs)):Option (List Bs):=
 chk (l0.length≤9223372036854775807) (some (cpt l0))
def p3C(n:Nat)(a0:i8F):Option ((List Bs)):=
 (i9Y n a0 [] []).bind fun v1=>
 (p0G v1).bind fun v3=>
 (p1P v3).bind fun v5=>
 some (Lib.compact v3)
def p5y(self:(i8F)→(Bs)→Option (Bool×Bool))(a0:i8F)(a1:Bs)(k1:Nat)(s1:Bool×Bool):Option (Ctl (Bool×Bool) (Bool×Bool) (Bool×Bool)):=
 (self (get a0.subs k1) a1).bind fun v2=>
 some (.nxt ((bif s1.1 then true else v2.1),(bif s1.2 then true else v2.2)))
def p5z(t1:Bool×Bool):Option (Bool×Bool):=
 some (t1.1,t1.2)
def p3D(self:(i8F)→(Bs)→Option (Bool×Bool))(a0:i8F)(a1:Bs)(j0:Bool×Bool):Option (Bool×Bool):=
 i8R (i9P (p5y self a0 a1) a0.subs.length (j0.1,j0.2)) (p5z)
def p1Q:Nat→(i8F)→(Bs)→Option (Bool×Bool)
 |0,_,_=>none
 |n+1,a0,a1=>
  bif (bif (decide (a0.kind=2))then(decide (a0.name=a1))else false)then
   p3D (p1Q n) a0 a1 ((decide (0<(↑a0.words.length:Int))),(decide ((↑a0.words.length:Int)=0)))
  else
   p3D (p1Q n) a0 a1 (false,false)
def p2Q(self:(i8F)→Option ((List Bs)))(a0:i8F)(k1:Nat)(s1:(List Bs)):Option (Ctl ((List Bs)) ((List Bs)) ((List Bs))):=
 (self (get a0.subs k1)).bind fun v14=>
 p1m (s1++v14) fun c15=>
 chk (c15.length*16≤top∧c15.length≤top) <|
 some (.nxt c15)
def p2R(t1:(List Bs)):Option ((List Bs)):=
 some t1
def p0v(self:(i8F)→Option ((List Bs)))(a0:i8F)(j0:(List Bs)):Option ((List Bs)):=
 i8R (i9P (p2Q self a0) a0.subs.length j0) (p2R)
def i9a:Nat→(i8F)→Option ((List Bs))
 |0,_=>none
 |n+1,a0=>
  (i9W a0).bind fun v1=>
  bif v1 then
   p1m ([]++[a0.name]) fun c3=>
   chk (c3.length*16≤top∧c3.length≤top) <|
   p0v (i9a n) a0 c3
  else
   p0v (i9a n) a0 []
def p3Y(n:Nat)(v2:(List Bs))(a0:i8I)(v4:(List Bs))(k0:Nat)(s0:Unit):Option (Ctl (i8N) (Unit) (Unit)):=
 (termName (get v2 k0)).bind fun v17=>
 bif (!v17)then
  (p0o 10 (↑k0:Int)).bind fun v18=>
  some (.ret v18)
 else
  chk (0≤(↑k0:Int)∧k0≤v2.length) <|
  (i8O (v2.take k0) (get v2 k0)).bind fun v21=>
  bif v21 then
   (p0o 7 (↑k0:Int)).bind fun v22=>
   some (.ret v22)
  else
   (p1Q n a0.form (get v2 k0)).bind fun v23=>
   bif (decide ((↑k0:Int)<(↑a0.words.length:Int)))then
    (i8O v4 (get v2 k0)).bind fun v24=>
    bif (!v24)then
     (p0o 15 (↑k0:Int)).bind fun v25=>
     some (.ret v25)
    else
     some (.nxt ())
   else
    bif (decide ((↑k0:Int)<(wr .i64 ((↑a0.words.length:Int)+(↑a0.i8M.length:Int)))))then
     bif (bif (!v23.1)then(!v23.2)else false)then
      (p0o 15 (↑k0:Int)).bind fun v26=>
      some (.ret v26)
     else
      some (.nxt ())
    else
     bif v23.1 then
      (p0o 5 (↑k0:Int)).bind fun v27=>
      some (.ret v27)
     else
      bif (!v23.2)then
       (p0o 15 (↑k0:Int)).bind fun v28=>
       some (.ret v28)
      else
       some (.nxt ())
def p4a(v29:(List Bs))(a0:i8I)(k1:Nat)(s1:Unit):Option (Ctl (i8N) (Unit) (Unit)):=
 chk (0≤(↑k1:Int)∧k1≤v29.length) <|
 (i8O (v29.take k1) (get v29 k1)).bind fun v37=>
 (gd (!v37) (i8O a0.words (get v29 k1)) default).bind fun v38=>
 bif (bif v37 then true else v38)then
  (p0o 7 (-1)).bind fun v39=>
  some (.ret v39)
 else
  some (.nxt ())
def p4b(t1:Unit):Option (i8N):=
 some (i8N.mk 0 0)
def p3Z(n:Nat)(a0:i8I)(t0:Unit):Option (i8N):=
 (i9a n a0.form).bind fun v29=>
 i8R (i9P (p4a v29 a0) v29.length ()) (p4b)
def p2Y(n:Nat)(a0:i8I):Option (i8N):=
 (p3e n a0.form).bind fun v1=>
 bif (!decide (v1.code=0))then
  some v1
 else
  (p2j a0).bind fun v2=>
  bif (decide (300<(↑v2.length:Int)))then
   (p0o 2 (-1)).bind fun v3=>
   some v3
  else
   (p3C n a0.form).bind fun v4=>
   i8R (i9P (p3Y n v2 a0 v4) v2.length ()) (p3Z n a0)
def p4C(p3x:(List Bs))(s0:Int):Option (Ctl (Bs×Int) (Int) (Unit)):=
 (itoa s0).bind fun v4=>
 chk (p1w [118] v4) <|
 (i8O p3x (p9P [118] v4)).bind fun v6=>
 bif (!v6)then
  some (.ret ((p9P [118] v4),(wr .i64 (s0+1))))
 else
  some (.nxt (wr .i64 (s0+1)))
def p6P(t0:Unit):Option (Bs×Int):=
 none
def p5Z(n:Nat)(p0s:Int)(p3x:(List Bs)):Option (Bs×Int):=
 i8R (i9z (p4C p3x) n p0s) (p6P)
def p4d(a1:(List i8P))(a0:i8F)(k0:Nat)(s2:Int):Option (Ctl (Ctl (i8F×Int) ((List Bs)) ((List Bs))) (Int) (Bs)):=
 bif (decide (0≤s2))then
  chk (0≤s2∧s2<(↑a1.length:Int)) <|
  bif (decide (((get a1 s2.toNat).from_)=(get a0.words k0)))then
   some (.brk ((get a1 s2.toNat).to_))
  else
   some (.nxt (wr .i64 (s2-1)))
 else
  some (.brk (get a0.words k0))
def p5b(s0:(List Bs))(t2:Bs):Option (Ctl (i8F×Int) ((List Bs)) ((List Bs))):=
 p1m (s0++[t2]) fun c16=>
 chk (c16.length*16≤top∧c16.length≤top) <|
 some (.nxt c16)
def p5a(n:Nat)(a1:(List i8P))(a0:i8F)(k0:Nat)(s0:(List Bs)):Option (Ctl (i8F×Int) ((List Bs)) ((List Bs))):=
 i8R (i9z (p4d a1 a0 k0) n (wr .i64 ((↑a1.length:Int)-1))) (p5b s0)
def p5c(self:(i8F)→((List i8P))→(Int)→((List Bs))→Option (i8F×Int))(a0:i8F)(j3:Int×Bs×(List i8P))(p3x:(List Bs))(k4:Nat)(s4:Int×(List i8F)):Option (Ctl (i8F×Int) (Int×(List i8F)) (Int×(List i8F))):=
 (self (get a0.subs k4) j3.2.2 s4.1 p3x).bind fun v38=>
 p1m (s4.2++[v38.1]) fun c40=>
 chk (c40.length*72≤top∧c40.length≤top) <|
 some (.nxt (v38.2,c40))
def p5d(a0:i8F)(j3:Int×Bs×(List i8P))(t0:(List Bs))(t4:Int×(List i8F)):Option (i8F×Int):=
 some ((i8F.mk a0.kind j3.2.1 t0 t4.2),t4.1)
def p2Z(self:(i8F)→((List i8P))→(Int)→((List Bs))→Option (i8F×Int))(a0:i8F)(p3x:(List Bs))(t0:(List Bs))(j3:Int×Bs×(List i8P)):Option (i8F×Int):=
 i8R (i9P (p5c self a0 j3 p3x) a0.subs.length (j3.1,[])) (p5d a0 j3 t0)
def p5e(self:(i8F)→((List i8P))→(Int)→((List Bs))→Option (i8F×Int))(n:Nat)(a0:i8F)(p0s:Int)(p3x:(List Bs))(a1:(List i8P))(t0:(List Bs)):Option (i8F×Int):=
 (i9W a0).bind fun v21=>
 bif v21 then
  (p5Z n p0s p3x).bind fun v22=>
  chk (0≤(↑a1.length:Int)∧0≤(↑a1.length:Int)) <|
  p1m (a1++[(i8P.mk a0.name v22.1)]) fun c26=>
  chk (c26.length*32≤top∧c26.length≤top) <|
  p2Z self a0 p3x t0 (v22.2,v22.1,c26)
 else
  p2Z self a0 p3x t0 (p0s,a0.name,a1)
def p1n:Nat→(i8F)→((List i8P))→(Int)→((List Bs))→Option (i8F×Int)
 |0,_,_,_,_=>none
 |n+1,a0,a1,p0s,p3x=>
  i8R (i9P (p5a n a1 a0) a0.words.length []) (p5e (p1n n) n a0 p0s p3x a1)
def p6m(v1:(List Bs))(a1:(List i8P))(k0:Nat)(k1:Nat)(s1:Unit):Option (Ctl (Ctl (i8F) (Unit) (Unit)) (Unit) (Unit)):=
 bif (decide ((get v1 k1)=((get a1 k0).from_)))then
  none
 else
  some (.nxt ())
def p6n(t1:Unit):Option (Ctl (i8F) (Unit) (Unit)):=
 some (.nxt ())
def p6o(v1:(List Bs))(a1:(List i8P))(k0:Nat)(s0:Unit):Option (Ctl (i8F) (Unit) (Unit)):=
 i8R (i9P (p6m v1 a1 k0) v1.length ()) (p6n)
def p5f(n:Nat)(a0:i8F)(a1:(List i8P))(v1:(List Bs))(t0:Unit):Option (i8F):=
 (p1n n a0 a1 0 v1).bind fun v2=>
 some v2.1
def p6s(n:Nat)(a0:i8F)(a1:(List i8P)):Option (i8F):=
 (p3C n a0).bind fun v1=>
 i8R (i9P (p6o v1 a1) a1.length ()) (p5f n a0 a1 v1)
def p5P(n:Nat)(a0:i8F):Option (i8F):=
 (p6s n a0 []).bind fun v1=>
 some v1
def p3M(a0 l0:(List Bs)):Option (List Bs):=
 bif l0.isEmpty then some a0 else none
def p5g(a0:i8I)(a1:i8F):Option (Bool):=
 (gd (bif (decide (a1.kind=2))then(decide ((↑a1.words.length:Int)=0))else false) (i8O a0.parts a1.name) default).bind fun v1=>
 some (bif (bif (decide (a1.kind=2))then(decide ((↑a1.words.length:Int)=0))else false)then v1 else false)
def p4n(a1:(List Bs))(a0:i8F)(p9Q:(List Bs))(k0:Nat)(s0:(List Bs)):Option (Ctl (i8F) ((List Bs)) ((List Bs))):=
 (i8O a1 (get a0.words k0)).bind fun v23=>
 bif v23 then
  chk (p1w [63] (get a0.words k0)) <|
  p1m (s0++[(p9P [63] (get a0.words k0))]) fun c26=>
  chk (c26.length*16≤top∧c26.length≤top) <|
  some (.nxt c26)
 else
  (i8O p9Q (get a0.words k0)).bind fun v31=>
  bif v31 then
   chk (p1w [46] (get a0.words k0)) <|
   p1m (s0++[(p9P [46] (get a0.words k0))]) fun c34=>
   chk (c34.length*16≤top∧c34.length≤top) <|
   some (.nxt c34)
  else
   p1m (s0++[(get a0.words k0)]) fun c40=>
   chk (c40.length*16≤top∧c40.length≤top) <|
   some (.nxt c40)
def p4o(self:(i8F)→((List Bs))→(Int)→(Bs)→((List Bs))→((List i8F))→((List Bs))→((List Bs))→((List Bs))→Option (i8F))(a0:i8F)(j1:Bs×(List Bs))(p0s:Int)(r1g:Bs)(r1h:(List Bs))(r1i:(List i8F))(p9Q:(List Bs))(r0C:(List Bs))(r1j:(List Bs))(k2:Nat)(s2:(List i8F)):Option (Ctl (i8F) ((List i8F)) ((List i8F))):=
 (self (get a0.subs k2) j1.2 p0s r1g r1h r1i p9Q r0C r1j).bind fun v65=>
 p1m (s2++[v65]) fun c67=>
 chk (c67.length*72≤top∧c67.length≤top) <|
 some (.nxt c67)
def p4p(a0:i8F)(j1:Bs×(List Bs))(t0:(List Bs))(t2:(List i8F)):Option (i8F):=
 some (i8F.mk a0.kind j1.1 t0 t2)
def p0j(self:(i8F)→((List Bs))→(Int)→(Bs)→((List Bs))→((List i8F))→((List Bs))→((List Bs))→((List Bs))→Option (i8F))(a0:i8F)(p0s:Int)(r1g:Bs)(r1h:(List Bs))(r1i:(List i8F))(p9Q:(List Bs))(r0C:(List Bs))(r1j:(List Bs))(t0:(List Bs))(j1:Bs×(List Bs)):Option (i8F):=
 i8R (i9P (p4o self a0 j1 p0s r1g r1h r1i p9Q r0C r1j) a0.subs.length []) (p4p a0 j1 t0)
def p4q(self:(i8F)→((List Bs))→(Int)→(Bs)→((List Bs))→((List i8F))→((List Bs))→((List Bs))→((List Bs))→Option (i8F))(a0:i8F)(a1:(List Bs))(p0s:Int)(r1g:Bs)(r1h:(List Bs))(r1i:(List i8F))(p9Q:(List Bs))(r0C:(List Bs))(r1j:(List Bs))(t0:(List Bs)):Option (i8F):=
 (i9W a0).bind fun v45=>
 bif v45 then
  (p3M a1 []).bind fun v46=>
  p1m (v46++[a0.name]) fun c48=>
  chk (c48.length*16≤top∧c48.length≤top) <|
  chk (p1w [63] a0.name) <|
  p0j self a0 p0s r1g r1h r1i p9Q r0C r1j t0 ((p9P [63] a0.name),c48)
 else
  (p5g (i8I.mk (i8F.mk p0s r1g r1h r1i) p9Q r0C r1j) a0).bind fun v54=>
  bif v54 then
   chk (p1w [43] a0.name) <|
   p0j self a0 p0s r1g r1h r1i p9Q r0C r1j t0 ((p9P [43] a0.name),a1)
  else
   (gd (decide (a0.kind=2)) (i8O r0C a0.name) default).bind fun v56=>
   bif (bif (decide (a0.kind=2))then v56 else false)then
    chk (p1w [33] a0.name) <|
    p0j self a0 p0s r1g r1h r1i p9Q r0C r1j t0 ((p9P [33] a0.name),a1)
   else
    p0j self a0 p0s r1g r1h r1i p9Q r0C r1j t0 (a0.name,a1)
def p0p:Nat→(i8F)→((List Bs))→(Int)→(Bs)→((List Bs))→((List i8F))→((List Bs))→((List Bs))→((List Bs))→Option (i8F)
 |0,_,_,_,_,_,_,_,_,_=>none
 |n+1,a0,a1,p0s,r1g,r1h,r1i,p9Q,r0C,r1j=>
  i8R (i9P (p4n a1 a0 p9Q) a0.words.length []) (p4q (p0p n) a0 a1 p0s r1g r1h r1i p9Q r0C r1j)
def p4r(a0:Bs)(a1:(List Bs))(k0:Nat)(s0:(List Bs)):Option (Ctl ((List Bs)) ((List Bs)) ((List Bs))):=
 chk (p1w a0 (get a1 k0)) <|
 p1m (s0++[(p9P a0 (get a1 k0))]) fun c10=>
 chk (c10.length*16≤top∧c10.length≤top) <|
 some (.nxt c10)
def p5H(t0:(List Bs)):Option ((List Bs)):=
 some t0
def p2A(a0:Bs)(a1:(List Bs)):Option ((List Bs)):=
 i8R (i9P (p4r a0 a1) a1.length []) (p5H)
def p4U(n:Nat)(a0:i8I):Option (i8I):=
 (p0p n a0.form [] a0.form.kind a0.form.name a0.form.words a0.form.subs a0.words a0.i8M a0.parts).bind fun v1=>
 (p2A [46] a0.words).bind fun v2=>
 (p2A [33] a0.i8M).bind fun v3=>
 (p2A [43] a0.parts).bind fun v4=>
 some (i8I.mk v1 v2 v3 v4)
def p1B(a1:(List Bs))(a0:(List Bs))(k0:Nat)(s0:Unit):Option (Ctl (Bool) (Unit) (Unit)):=
 chk ((↑k0:Int)<(↑a1.length:Int)) <|
 bif (!decide ((get a0 k0)=(get a1 k0)))then
  some (.ret false)
 else
  some (.nxt ())
def p1C(t0:Unit):Option (Bool):=
 some true
def p0w(a0:(List Bs))(a1:(List Bs)):Option (Bool):=
 bif (!decide ((↑a0.length:Int)=(↑a1.length:Int)))then
  some false
 else
  i8R (i9P (p1B a1 a0) a0.length ()) (p1C)
def p6t(self:(i8F)→(i8F)→Option (Bool))(a1:i8F)(a0:i8F)(k0:Nat)(s0:Unit):Option (Ctl (Bool) (Unit) (Unit)):=
 chk ((↑k0:Int)<(↑a1.subs.length:Int)) <|
 (self (get a0.subs k0) (get a1.subs k0)).bind fun v4=>
 bif (!v4)then
  some (.ret false)
 else
  some (.nxt ())
def p6u(t0:Unit):Option (Bool):=
 some true
def p5G:Nat→(i8F)→(i8F)→Option (Bool)
 |0,_,_=>none
 |n+1,a0,a1=>
  (gd (!(bif (!decide (a0.kind=a1.kind))then true else(!decide (a0.name=a1.name)))) (p0w a0.words a1.words) default).bind fun v1=>
  bif (bif (bif (bif (!decide (a0.kind=a1.kind))then true else(!decide (a0.name=a1.name)))then true else(!v1))then true else(!decide ((↑a0.subs.length:Int)=(↑a1.subs.length:Int))))then
   some false
  else
   chk (a0.subs.length≤9223372036854775807) <|
   i8R (i9P (p6t (p5G n) a1 a0) a0.subs.length ()) (p6u)
def p3g(a1:Bs)(a2:Bs)(m0:(List (Bs×i8H))):Option (Bool×(List (Bs×i8H))):=
 bif (assoc a1 m0).isSome then
  some ((decide ((((assoc a1 m0).getD default).text)=a2)),m0)
 else
  p1m (i9J a1 (i8H.mk a1 a2 (i8F.mk 0 [] [] [])) m0) fun c1=>
  some (true,c1)
def p3h(a1:i8F)(a0:i8I)(a2:i8F)(k2:Nat)(s2:(List (Bs×i8H))):Option (Ctl (Bool×(List (Bs×i8H))) ((List (Bs×i8H))) ((List (Bs×i8H)))):=
 (gd (!(assoc (get a1.words k2) s2).isSome) (i8O a0.words (get a1.words k2)) default).bind fun v12=>
 bif (bif (assoc (get a1.words k2) s2).isSome then true else v12)then
  chk ((↑k2:Int)<(↑a2.words.length:Int)) <|
  (p3g (get a1.words k2) (get a2.words k2) s2).bind fun v14=>
  bif (!v14.1)then
   some (.ret (false,v14.2))
  else
   some (.nxt v14.2)
 else
  chk ((↑k2:Int)<(↑a2.words.length:Int)) <|
  bif (!decide ((get a1.words k2)=(get a2.words k2)))then
   some (.ret (false,s2))
  else
   some (.nxt s2)
def p4u(self:(i8I)→(i8F)→(i8F)→((List (Bs×i8H)))→Option (Bool×(List (Bs×i8H))))(a2:i8F)(a0:i8I)(a1:i8F)(k3:Nat)(s3:(List (Bs×i8H))):Option (Ctl (Bool×(List (Bs×i8H))) ((List (Bs×i8H))) ((List (Bs×i8H)))):=
 chk ((↑k3:Int)<(↑a2.subs.length:Int)) <|
 (self a0 (get a1.subs k3) (get a2.subs k3) s3).bind fun v19=>
 bif (!v19.1)then
  some (.ret (false,v19.2))
 else
  some (.nxt v19.2)
def p4v(t3:(List (Bs×i8H))):Option (Bool×(List (Bs×i8H))):=
 some (true,t3)
def p4t(self:(i8I)→(i8F)→(i8F)→((List (Bs×i8H)))→Option (Bool×(List (Bs×i8H))))(a2:i8F)(a0:i8I)(a1:i8F)(t2:(List (Bs×i8H))):Option (Bool×(List (Bs×i8H))):=
 i8R (i9P (p4u self a2 a0 a1) a1.subs.length t2) (p4v)
def p1J(self:(i8I)→(i8F)→(i8F)→((List (Bs×i8H)))→Option (Bool×(List (Bs×i8H))))(a1:i8F)(a0:i8I)(a2:i8F)(j1:(List (Bs×i8H))):Option (Bool×(List (Bs×i8H))):=
 i8R (i9P (p3h a1 a0 a2) a1.words.length j1) (p4t self a2 a0 a1)
def p0U(self:(i8I)→(i8F)→(i8F)→((List (Bs×i8H)))→Option (Bool×(List (Bs×i8H))))(a1:i8F)(a2:i8F)(m0:(List (Bs×i8H)))(a0:i8I)(j0:Bool):Option (Bool×(List (Bs×i8H))):=
 bif j0 then
  (p3g a1.name a2.name m0).bind fun v7=>
  bif (!v7.1)then
   some (false,v7.2)
  else
   p1J self a1 a0 a2 v7.2
 else
  bif (!decide (a1.name=a2.name))then
   some (false,m0)
  else
   p1J self a1 a0 a2 m0
def i9u:Nat→(i8I)→(i8F)→(i8F)→((List (Bs×i8H)))→Option (Bool×(List (Bs×i8H)))
 |0,_,_,_,_=>none
 |n+1,a0,a1,a2,m0=>
  (p5g a0 a1).bind fun v1=>
  bif v1 then
   bif (assoc a1.name m0).isSome then
    (p5G n (((assoc a1.name m0).getD default).form) a2).bind fun v2=>
    some (v2,m0)
   else
    p1m (i9J a1.name (i8H.mk a1.name [] a2) m0) fun c3=>
    some (true,c3)
  else
   bif (bif (!decide (a1.kind=a2.kind))then true else(!decide ((↑a1.words.length:Int)=(↑a2.words.length:Int))))then
    some (false,m0)
   else
    (i9W a1).bind fun v5=>
    bif v5 then
     p0U (i9u n) a1 a2 m0 a0 v5
    else
     (gd (decide (a1.kind=2)) (i8O a0.i8M a1.name) default).bind fun v6=>
     p0U (i9u n) a1 a2 m0 a0 (bif (decide (a1.kind=2))then v6 else false)
def p1h(a1:Bs)(l0:(List Bs))(k0:Nat)(s0:Unit):Option (Ctl (Int) (Unit) (Unit)):=
 bif (decide (a1=(get l0 k0)))then
  some (.ret (↑k0:Int))
 else
  some (.nxt ())
def p1i(t0:Unit):Option (Int):=
 some (-1)
def p2b(a1:Bs)(l0:(List Bs)):Option (Int):=
 chk (l0.length≤9223372036854775807) <|
 i8R (i9P (p1h a1 l0) l0.length ()) (p1i)
def i9j(a1:Bs)(l0:(List Bs)):Option (Bool):=
 (p2b a1 l0).bind fun v1=>
 some (decide (0≤v1))
def p2a(a0:(List Bs)):Option (List Bs):=
 some a0
def p6a(self:(i8F)→Option (i8F))(a0:i8F)(k0:Nat)(s0:(List i8F)):Option (Ctl (i8F) ((List i8F)) ((List i8F))):=
 (self (get a0.subs k0)).bind fun v9=>
 p1m (s0++[v9]) fun c11=>
 chk (c11.length*72≤top∧c11.length≤top) <|
 some (.nxt c11)
def p6b(a0:i8F)(v1:(List Bs))(t0:(List i8F)):Option (i8F):=
 some (i8F.mk a0.kind a0.name v1 t0)
def p4V:Nat→(i8F)→Option (i8F)
 |0,_=>none
 |n+1,a0=>
  (p2a a0.words).bind fun v1=>
  i8R (i9P (p6a (p4V n) a0) a0.subs.length []) (p6b a0 v1)
def p5A(v3:(List Bs))(v2:Bool×(List (Bs×i8H)))(k0:Nat)(s0:(List Bs)):Option (Ctl ((List i8H)×Bool) ((List Bs)) ((List Bs))):=
 p1m (s0++[((assoc (get v3 k0) v2.2).getD default).text]) fun c11=>
 chk (c11.length*16≤top∧c11.length≤top) <|
 some (.nxt c11)
def p5C(n:Nat)(v1:i8I)(v19:(List Bs))(v2:Bool×(List (Bs×i8H)))(t0:(List Bs))(k1:Nat)(s1:(List i8H)):Option (Ctl ((List i8H)×Bool) ((List i8H)) ((List i8H))):=
 (i8O v1.words (get v19 k1)).bind fun v38=>
 (gd v38 (i9j (((assoc (get v19 k1) v2.2).getD default).text) t0) (default:Bool)).bind fun v39=>
 bif (bif v38 then v39 else false)then
  some (.ret ([],false))
 else
  chk (0≤1∧1≤(get v19 k1).length) <|
  (i8O v1.parts (get v19 k1)).bind fun v42=>
  bif v42 then
   (p4V n (((assoc (get v19 k1) v2.2).getD default).form)).bind fun v43=>
   p1m (s1++[(i8H.mk ((get v19 k1).drop 1) (((assoc (get v19 k1) v2.2).getD default).text) v43)]) fun c45=>
   chk (c45.length*104≤top∧c45.length≤top) <|
   some (.nxt c45)
  else
   p1m (s1++[(i8H.mk ((get v19 k1).drop 1) (((assoc (get v19 k1) v2.2).getD default).text) (((assoc (get v19 k1) v2.2).getD default).form))]) fun c51=>
   chk (c51.length*104≤top∧c51.length≤top) <|
   some (.nxt c51)
def p5D(t1:(List i8H)):Option ((List i8H)×Bool):=
 some (t1,true)
def p5B(n:Nat)(v1:i8I)(v2:Bool×(List (Bs×i8H)))(t0:(List Bs)):Option ((List i8H)×Bool):=
 (p2j v1).bind fun v16=>
 (i9a n v1.form).bind fun v17=>
 (r1E [v16,v17]).bind fun v19=>
 i8R (i9P (p5C n v1 v19 v2 t0) v19.length []) (p5D)
def p5h(n:Nat)(a0:i8I)(a1:i8F):Option ((List i8H)×Bool):=
 (p4U n a0).bind fun v1=>
 (i9u n v1 v1.form a1 []).bind fun v2=>
 bif (!v2.1)then
  some ([],false)
 else
  (i9a n v1.form).bind fun v3=>
  i8R (i9P (p5A v3 v2) v3.length []) (p5B n v1 v2)
def p4I(n:Nat)(a0:i8I)(a1:i8F):Option ((List i8H)×Bool×i8N):=
 (p2Y n a0).bind fun v1=>
 bif (!decide (v1.code=0))then
  some ([],false,v1)
 else
  (p3e n a1).bind fun v2=>
  bif (!decide (v2.code=0))then
   some ([],false,v2)
  else
   (p5P n a1).bind fun v3=>
   (p5h n a0 v3).bind fun v4=>
   some (v4.1,v4.2,(i8N.mk 0 0))
def p5i(self:(i8F)→(Int)→(Int)→(Bs)→((List Bs))→((List i8F))→((List Bs))→((List Bs))→((List Bs))→((List i8U))→Option (Int×(List i8U)))(a0:i8F)(p3x:Int)(r5l:Bs)(r5m:(List Bs))(r5n:(List i8F))(r5o:(List Bs))(r5p:(List Bs))(r5q:(List Bs))(k1:Nat)(s1:Int×(List i8U)):Option (Ctl (Int×(List i8U)) (Int×(List i8U)) (Int×(List i8U))):=
 (self (get a0.subs k1) s1.1 p3x r5l r5m r5n r5o r5p r5q s1.2).bind fun v10=>
 some (.nxt (v10.1,v10.2))
def p5j(t1:Int×(List i8U)):Option (Int×(List i8U)):=
 some (t1.1,t1.2)
def p3a(self:(i8F)→(Int)→(Int)→(Bs)→((List Bs))→((List i8F))→((List Bs))→((List Bs))→((List Bs))→((List i8U))→Option (Int×(List i8U)))(a0:i8F)(p3x:Int)(r5l:Bs)(r5m:(List Bs))(r5n:(List i8F))(r5o:(List Bs))(r5p:(List Bs))(r5q:(List Bs))(p0s:Int)(j0:(List i8U)):Option (Int×(List i8U)):=
 i8R (i9P (p5i self a0 p3x r5l r5m r5n r5o r5p r5q) a0.subs.length ((wr .i64 (p0s+1)),j0)) (p5j)
def p1o:Nat→(i8F)→(Int)→(Int)→(Bs)→((List Bs))→((List i8F))→((List Bs))→((List Bs))→((List Bs))→((List i8U))→Option (Int×(List i8U))
 |0,_,_,_,_,_,_,_,_,_,_=>none
 |n+1,a0,p0s,p3x,r5l,r5m,r5n,r5o,r5p,r5q,l3=>
  (p5h n (i8I.mk (i8F.mk p3x r5l r5m r5n) r5o r5p r5q) a0).bind fun v1=>
  bif v1.2 then
   p1m (l3++[(i8U.mk p0s v1.1)]) fun c3=>
   chk (c3.length*32≤top∧c3.length≤top) <|
   p3a (p1o n) a0 p3x r5l r5m r5n r5o r5p r5q p0s c3
  else
   p3a (p1o n) a0 p3x r5l r5m r5n r5o r5p r5q p0s l3
def p5k(n:Nat)(a0:i8I)(a1:i8F):Option ((List i8U)×i8N):=
 (p2Y n a0).bind fun v1=>
 bif (!decide (v1.code=0))then
  some ([],v1)
 else
  (p3e n a1).bind fun v2=>
  bif (!decide (v2.code=0))then
   some ([],v2)
  else
   (p5P n a1).bind fun v3=>
   (p1o n v3 0 a0.form.kind a0.form.name a0.form.words a0.form.subs a0.words a0.i8M a0.parts []).bind fun v4=>
   some (v4.2,(i8N.mk 0 0))
def p0k(a0:(List Bs))(a1:(List Bs))(s0:Int):Option (Ctl (Bool) (Int) (Unit)):=
 bif (decide (s0<(↑a0.length:Int)))then
  chk (0≤s0∧s0<(↑a0.length:Int)) <|
  chk (s0<(↑a1.length:Int)) <|
  bif (!decide ((get a0 s0.toNat)=(get a1 s0.toNat)))then
   some (.ret false)
  else
   some (.nxt (wr .i64 (s0+1)))
 else
  some (.brk ())
def p3k(t0:Unit):Option (Bool):=
 some true
def p0Y(n:Nat)(a0:(List Bs))(a1:(List Bs)):Option (Bool):=
 bif (!decide ((↑a0.length:Int)=(↑a1.length:Int)))then
  some false
 else
  i8R (i9z (p0k a0 a1) n 0) (p3k)
def p0z(self:(i8F)→(i8F)→Option (Bool))(a0:i8F)(a1:i8F)(s0:Int):Option (Ctl (Bool) (Int) (Unit)):=
 bif (decide (s0<(↑a0.subs.length:Int)))then
  chk (0≤s0∧s0<(↑a0.subs.length:Int)) <|
  chk (s0<(↑a1.subs.length:Int)) <|
  (self (get a0.subs s0.toNat) (get a1.subs s0.toNat)).bind fun v8=>
  bif (!v8)then
   some (.ret false)
  else
   some (.nxt (wr .i64 (s0+1)))
 else
  some (.brk ())
def p3y(t0:Unit):Option (Bool):=
 some true
def i9k:Nat→(i8F)→(i8F)→Option (Bool)
 |0,_,_=>none
 |n+1,a0,a1=>
  (gd (!(bif (!decide (a0.kind=a1.kind))then true else(!decide (a0.name=a1.name)))) (p0Y n a0.words a1.words) default).bind fun v1=>
  bif (bif (bif (bif (!decide (a0.kind=a1.kind))then true else(!decide (a0.name=a1.name)))then true else(!v1))then true else(!decide ((↑a0.subs.length:Int)=(↑a1.subs.length:Int))))then
   some false
  else
   i8R (i9z (p0z (i9k n) a0 a1) n 0) (p3y)
def i9U(n:Nat):Option (Bool):=
 (p4w [112] []).bind fun v1=>
 (p4w [113] []).bind fun v2=>
 (p3j 5 v1 v2).bind fun v3=>
 (p3j 5 (i8F.mk 1 [] [] []) (i8F.mk 4 [] [] [(i8F.mk 1 [] [] [])])).bind fun v6=>
 (p4I n (i8I.mk v3 [] [] [[112],[113]]) v6).bind fun v7=>
 (p3j 5 (i8F.mk 1 [] [] []) (i8F.mk 4 [] [] [(i8F.mk 1 [] [] [])])).bind fun v8=>
 (p5k n (i8I.mk v3 [] [] [[112],[113]]) v8).bind fun v9=>
 chk (p5Q (bif (bif (bif (decide (v7.2.2.code=0))then(decide (v9.2.code=0))else false)then v7.2.1 else false)then(decide ((↑v7.1.length:Int)=2))else false) (0<(↑v7.1.length:Int))) <|
 (gd (bif (bif (bif (decide (v7.2.2.code=0))then(decide (v9.2.code=0))else false)then v7.2.1 else false)then(decide ((↑v7.1.length:Int)=2))else false) (i9k n ((get v7.1 0).form) (i8F.mk 1 [] [] [])) default).bind fun v12=>
 chk (p5Q (bif (bif (bif (bif (decide (v7.2.2.code=0))then(decide (v9.2.code=0))else false)then v7.2.1 else false)then(decide ((↑v7.1.length:Int)=2))else false)then v12 else false) (1<(↑v7.1.length:Int))) <|
 (gd (bif (bif (bif (bif (decide (v7.2.2.code=0))then(decide (v9.2.code=0))else false)then v7.2.1 else false)then(decide ((↑v7.1.length:Int)=2))else false)then v12 else false) (i9k n ((get v7.1 1).form) (i8F.mk 4 [] [] [(i8F.mk 1 [] [] [])])) default).bind fun v15=>
 chk (p5Q (bif (bif (bif (bif (bif (bif (decide (v7.2.2.code=0))then(decide (v9.2.code=0))else false)then v7.2.1 else false)then(decide ((↑v7.1.length:Int)=2))else false)then v12 else false)then v15 else false)then(decide ((↑v9.1.length:Int)=1))else false) (0<(↑v9.1.length:Int))) <|
 some (bif (bif (bif (bif (bif (bif (bif (decide (v7.2.2.code=0))then(decide (v9.2.code=0))else false)then v7.2.1 else false)then(decide ((↑v7.1.length:Int)=2))else false)then v12 else false)then v15 else false)then(decide ((↑v9.1.length:Int)=1))else false)then(decide (((get v9.1 0).at_)=0))else false)
def p2e(a0:Int):Option (Int):=
 bif (bif (decide (a0<1))then true else(decide (9<a0)))then
  some (-1)
 else
  chk (0≤a0∧a0<10) <|
  some (get [0,0,0,0,1,2,2,2,1,1] a0.toNat)
def p3o(a0:Bs)(s0:Int):Option (Ctl (Bool) (Int) (Unit)):=
 bif (decide (s0<(↑a0.length:Int)))then
  chk (0≤s0∧s0<(↑a0.length:Int)) <|
  bif (bif (!(bif (decide (97≤(i9O a0 s0)))then(decide ((i9O a0 s0)≤122))else false))then(bif (decide (s0=0))then true else(!(bif (bif (bif (decide (48≤(i9O a0 s0)))then(decide ((i9O a0 s0)≤57))else false)then true else(decide ((i9O a0 s0)=95)))then true else(decide ((i9O a0 s0)=45)))))else false)then
   some (.ret false)
  else
   some (.nxt (wr .i64 (s0+1)))
 else
  some (.brk ())
def p4L(t0:Unit):Option (Bool):=
 some true
def p1I(n:Nat)(a0:Bs):Option (Bool):=
 bif (bif (decide ((↑a0.length:Int)<1))then true else(decide (30<(↑a0.length:Int))))then
  some false
 else
  i8R (i9z (p3o a0) n 0) (p4L)
def p1d(s0:(List i8J)×Int×Nat)(s12:(List i8J)×Int×Nat):Option (Ctl (Ctl (i8N) ((List i8J)×Int×Nat) (Unit)) ((List i8J)×Int×Nat) ((List i8J)×Nat)):=
 bif (decide (0≤s12.2.1))then
  chk (0≤s12.2.1∧s12.2.1<(↑(((get s0.1 ((wr .i64 ((↑s0.2.2:Int)-1)).toNat)).f.subs).length):Int)) <|
  chk (s12.2.2≤s12.1.length) <|
  p1m ((s12.1.take s12.2.2)++[(i8J.mk (get ((get s0.1 ((wr .i64 ((↑s0.2.2:Int)-1)).toNat)).f.subs) s12.2.1.toNat) (wr .i64 (((get s0.1 ((wr .i64 ((↑s0.2.2:Int)-1)).toNat)).depth)+1)))]) fun c51=>
  chk (c51.length*80≤top∧c51.length≤top) <|
  some (.nxt (c51,(wr .i64 (s12.2.1-1)),c51.length))
 else
  some (.brk (s12.1,s12.2.2))
def p1e(s0:(List i8J)×Int×Nat)(t12:(List i8J)×Nat):Option (Ctl (i8N) ((List i8J)×Int×Nat) (Unit)):=
 some (.nxt (t12.1,(wr .i64 (s0.2.1+1)),t12.2))
def i8T(n:Nat)(s0:(List i8J)×Int×Nat)(j10:Int):Option (Ctl (i8N) ((List i8J)×Int×Nat) (Unit)):=
 bif (!decide (j10=0))then
  some (.ret (i8N.mk j10 s0.2.1))
 else
  i8R (i9z (p1d s0) n (s0.1,(wr .i64 ((↑(((get s0.1 ((wr .i64 ((↑s0.2.2:Int)-1)).toNat)).f.subs).length):Int)-1)),(wr .i64 ((↑s0.2.2:Int)-1)).toNat)) (p1e s0)
def p1f(n:Nat)(s0:(List i8J)×Int×Nat)(k11:Nat)(s11:Int):Option (Ctl (Ctl (i8N) ((List i8J)×Int×Nat) (Unit)) (Int) (Int)):=
 (p1I n (get ((get s0.1 ((wr .i64 ((↑s0.2.2:Int)-1)).toNat)).f.words) k11)).bind fun v37=>
 bif (!v37)then
  some (.nxt 10)
 else
  some (.nxt s11)
def p1g(n:Nat)(s0:(List i8J)×Int×Nat)(t11:Int):Option (Ctl (i8N) ((List i8J)×Int×Nat) (Unit)):=
 i8T n s0 t11
def i9D(n:Nat)(s0:(List i8J)×Int×Nat)(j7:Int)(j9:Int×Int):Option (Ctl (i8N) ((List i8J)×Int×Nat) (Unit)):=
 bif (bif (decide (200≤s0.2.1))then true else(decide (40<((get s0.1 ((wr .i64 ((↑s0.2.2:Int)-1)).toNat)).depth))))then
  i8T n s0 1
 else
  bif (decide (j7<0))then
   i8T n s0 4
  else
   bif (bif (bif (!decide ((↑(((get s0.1 ((wr .i64 ((↑s0.2.2:Int)-1)).toNat)).f.subs).length):Int)=j7))then true else(decide ((↑(((get s0.1 ((wr .i64 ((↑s0.2.2:Int)-1)).toNat)).f.words).length):Int)<j9.2)))then true else(decide (j9.1<(↑(((get s0.1 ((wr .i64 ((↑s0.2.2:Int)-1)).toNat)).f.words).length):Int))))then
    i8T n s0 9
   else
    (gd (bif (bif (bif (decide (((get s0.1 ((wr .i64 ((↑s0.2.2:Int)-1)).toNat)).f.kind)=2))then true else(decide (((get s0.1 ((wr .i64 ((↑s0.2.2:Int)-1)).toNat)).f.kind)=8)))then true else(decide (((get s0.1 ((wr .i64 ((↑s0.2.2:Int)-1)).toNat)).f.kind)=9)))then true else(decide (((get s0.1 ((wr .i64 ((↑s0.2.2:Int)-1)).toNat)).f.kind)=10))) (p1I n ((get s0.1 ((wr .i64 ((↑s0.2.2:Int)-1)).toNat)).f.name)) default).bind fun v35=>
    bif (bif (bif (bif (bif (decide (((get s0.1 ((wr .i64 ((↑s0.2.2:Int)-1)).toNat)).f.kind)=2))then true else(decide (((get s0.1 ((wr .i64 ((↑s0.2.2:Int)-1)).toNat)).f.kind)=8)))then true else(decide (((get s0.1 ((wr .i64 ((↑s0.2.2:Int)-1)).toNat)).f.kind)=9)))then true else(decide (((get s0.1 ((wr .i64 ((↑s0.2.2:Int)-1)).toNat)).f.kind)=10)))then(!v35)else false)then
     i8T n s0 10
    else
     bif (bif (!(bif (bif (bif (decide (((get s0.1 ((wr .i64 ((↑s0.2.2:Int)-1)).toNat)).f.kind)=2))then true else(decide (((get s0.1 ((wr .i64 ((↑s0.2.2:Int)-1)).toNat)).f.kind)=8)))then true else(decide (((get s0.1 ((wr .i64 ((↑s0.2.2:Int)-1)).toNat)).f.kind)=9)))then true else(decide (((get s0.1 ((wr .i64 ((↑s0.2.2:Int)-1)).toNat)).f.kind)=10))))then(!decide (((get s0.1 ((wr .i64 ((↑s0.2.2:Int)-1)).toNat)).f.name)=[]))else false)then
      i8T n s0 5
     else
      i8R (i9P (p1f n s0) (((get s0.1 ((wr .i64 ((↑s0.2.2:Int)-1)).toNat)).f.words).length) 0) (p1g n s0)
def i9E(n:Nat)(s0:(List i8J)×Int×Nat)(j7:Int)(j8:Int):Option (Ctl (i8N) ((List i8J)×Int×Nat) (Unit)):=
 bif (decide (((get s0.1 ((wr .i64 ((↑s0.2.2:Int)-1)).toNat)).f.kind)=3))then
  i9D n s0 j7 (2,2)
 else
  i9D n s0 j7 (j8,0)
def p0i(n:Nat)(s0:(List i8J)×Int×Nat)(j7:Int):Option (Ctl (i8N) ((List i8J)×Int×Nat) (Unit)):=
 bif (decide (((get s0.1 ((wr .i64 ((↑s0.2.2:Int)-1)).toNat)).f.kind)=2))then
  i9E n s0 j7 3
 else
  i9E n s0 j7 0
def i9C(n:Nat)(a1:Bool)(s0:(List i8J)×Int×Nat):Option (Ctl (i8N) ((List i8J)×Int×Nat) (Unit)):=
 bif (decide (0<(↑s0.2.2:Int)))then
  chk (s0.2.2≤s0.1.length) <|
  chk (0≤(wr .i64 ((↑s0.2.2:Int)-1))∧(wr .i64 ((↑s0.2.2:Int)-1))<(↑s0.2.2:Int)) <|
  chk ((wr .i64 ((↑s0.2.2:Int)-1)).toNat≤s0.2.2) <|
  (p2e ((get s0.1 ((wr .i64 ((↑s0.2.2:Int)-1)).toNat)).f.kind)).bind fun v34=>
  bif (bif a1 then(decide (((get s0.1 ((wr .i64 ((↑s0.2.2:Int)-1)).toNat)).f.kind)=10))else false)then
   p0i n s0 0
  else
   p0i n s0 v34
 else
  some (.brk ())
def p3l(t0:Unit):Option (i8N):=
 some (i8N.mk 0 0)
def p2i(n:Nat)(a0:i8F)(a1:Bool):Option (i8N):=
 i8R (i9z (i9C n a1) n ([(i8J.mk a0 1)],0,1)) (p3l)
def p0f(n:Nat)(a0:i8F):Option (i8N):=
 (p2i n a0 false).bind fun v1=>
 some v1
def p1L(a2:(List Bs))(s0:(List Bool)×Int)(a1:i8F)(s2:Bool×Int):Option (Ctl (Ctl ((List i8G)) ((List Bool)×Int) ((List Bool))) (Bool×Int) (Bool)):=
 bif (decide (s2.2<(↑a2.length:Int)))then
  chk (p5Q (!s2.1) (0≤s2.2)∧p5Q (!s2.1) (s2.2<(↑a2.length:Int))) <|
  chk (p5Q (!s2.1) (0≤s0.2)∧p5Q (!s2.1) (s0.2<(↑a1.words.length:Int))) <|
  some (.nxt ((bif s2.1 then true else(decide ((get a2 s2.2.toNat)=(get a1.words s0.2.toNat)))),(wr .i64 (s2.2+1))))
 else
  some (.brk s2.1)
def p3N(s0:(List Bool)×Int)(t2:Bool):Option (Ctl ((List i8G)) ((List Bool)×Int) ((List Bool))):=
 p1m (s0.1++[t2]) fun c28=>
 chk (c28.length*1≤top∧c28.length≤top) <|
 some (.nxt (c28,(wr .i64 (s0.2+1))))
def p1K(n:Nat)(a1:i8F)(a2:(List Bs))(s0:(List Bool)×Int):Option (Ctl ((List i8G)) ((List Bool)×Int) ((List Bool))):=
 bif (decide (s0.2<(↑a1.words.length:Int)))then
  i8R (i9z (p1L a2 s0 a1) n (false,0)) (p3N s0)
 else
  some (.brk s0.1)
def p0I(self:(i8F)→((List Bs))→((List i8G))→Option ((List i8G)))(a1:i8F)(j3:(List Bs))(s5:(List i8G)×Int):Option (Ctl ((List i8G)) ((List i8G)×Int) ((List i8G))):=
 bif (decide (s5.2<(↑a1.subs.length:Int)))then
  chk (0≤s5.2∧s5.2<(↑a1.subs.length:Int)) <|
  (self (get a1.subs s5.2.toNat) j3 s5.1).bind fun v68=>
  some (.nxt (v68,(wr .i64 (s5.2+1))))
 else
  some (.brk s5.1)
def p1N(l0:(List i8G))(t5:(List i8G)):Option ((List i8G)):=
 chk ((↑l0.length:Int)<(↑t5.length:Int)) <|
 p1m (t5.set l0.length (i8G.mk ((get t5 l0.length).kind) ((get t5 l0.length).name) ((get t5 l0.length).words) ((get t5 l0.length).bound) (↑t5.length:Int))) fun c73=>
 some c73
def i9X(self:(i8F)→((List Bs))→((List i8G))→Option ((List i8G)))(n:Nat)(a1:i8F)(c34:(List i8G))(l0:(List i8G))(j3:(List Bs)):Option ((List i8G)):=
 i8R (i9z (p0I self a1 j3) n (c34,0)) (p1N l0)
def p1O(a2:(List Bs))(s4:(List Bs)×Int):Option (Ctl ((List i8G)) ((List Bs)×Int) ((List Bs))):=
 bif (decide (s4.2<(↑a2.length:Int)))then
  chk (0≤s4.2∧s4.2<(↑a2.length:Int)) <|
  p1m (s4.1++[(get a2 s4.2.toNat)]) fun c58=>
  chk (c58.length*16≤top∧c58.length≤top) <|
  some (.nxt (c58,(wr .i64 (s4.2+1))))
 else
  some (.brk s4.1)
def p3O(self:(i8F)→((List Bs))→((List i8G))→Option ((List i8G)))(n:Nat)(a1:i8F)(c34:(List i8G))(l0:(List i8G))(t4:(List Bs)):Option ((List i8G)):=
 i9X self n a1 c34 l0 t4
def p1M(self:(i8F)→((List Bs))→((List i8G))→Option ((List i8G)))(n:Nat)(l0:(List i8G))(a1:i8F)(a2:(List Bs))(t0:(List Bool)):Option ((List i8G)):=
 p1m (l0++[(i8G.mk a1.kind a1.name a1.words t0 0)]) fun c34=>
 chk (c34.length*80≤top∧c34.length≤top) <|
 bif (bif (decide (a1.kind=8))then true else(decide (a1.kind=9)))then
  i8R (i9z (p1O a2) n ([a1.name],0)) (p3O self n a1 c34 l0)
 else
  i9X self n a1 c34 l0 a2
def i9c:Nat→(i8F)→((List Bs))→((List i8G))→Option ((List i8G))
 |0,_,_,_=>none
 |n+1,a1,a2,l0=>
  i8R (i9z (p1K n a1 a2) n ([],0)) (p1M (i9c n) n l0 a1 a2)
def p2L(a2:(List Bs))(s0:(List Bool)×Int)(a1:i8F)(s2:Bool×Int):Option (Ctl (Ctl ((List i8G)) ((List Bool)×Int) ((List Bool))) (Bool×Int) (Bool)):=
 bif (decide (s2.2<(↑a2.length:Int)))then
  chk (p5Q (!s2.1) (0≤s2.2)∧p5Q (!s2.1) (s2.2<(↑a2.length:Int))) <|
  chk (p5Q (!s2.1) (0≤s0.2)∧p5Q (!s2.1) (s0.2<(↑a1.words.length:Int))) <|
  some (.nxt ((bif s2.1 then true else(decide ((get a2 s2.2.toNat)=(get a1.words s0.2.toNat)))),(wr .i64 (s2.2+1))))
 else
  some (.brk s2.1)
def p4x(s0:(List Bool)×Int)(t2:Bool):Option (Ctl ((List i8G)) ((List Bool)×Int) ((List Bool))):=
 p1m (s0.1++[t2]) fun c28=>
 chk (c28.length*1≤top∧c28.length≤top) <|
 some (.nxt (c28,(wr .i64 (s0.2+1))))
def p2K(n:Nat)(a1:i8F)(a2:(List Bs))(s0:(List Bool)×Int):Option (Ctl ((List i8G)) ((List Bool)×Int) ((List Bool))):=
 bif (decide (s0.2<(↑a1.words.length:Int)))then
  i8R (i9z (p2L a2 s0 a1) n (false,0)) (p4x s0)
 else
  some (.brk s0.1)
def p1p(n:Nat)(a1:i8F)(j3:(List Bs))(s5:(List i8G)×Int):Option (Ctl ((List i8G)) ((List i8G)×Int) ((List i8G))):=
 bif (decide (s5.2<(↑a1.subs.length:Int)))then
  chk (0≤s5.2∧s5.2<(↑a1.subs.length:Int)) <|
  (i9c n (get a1.subs s5.2.toNat) j3 s5.1).bind fun v68=>
  some (.nxt (v68,(wr .i64 (s5.2+1))))
 else
  some (.brk s5.1)
def p2N(t5:(List i8G)):Option ((List i8G)):=
 chk (0<(↑t5.length:Int)) <|
 p1m (t5.set 0 (i8G.mk ((get t5 0).kind) ((get t5 0).name) ((get t5 0).words) ((get t5 0).bound) (↑t5.length:Int))) fun c73=>
 some c73
def p0u(n:Nat)(a1:i8F)(c34:(List i8G))(j3:(List Bs)):Option ((List i8G)):=
 i8R (i9z (p1p n a1 j3) n (c34,0)) (p2N)
def p2O(a2:(List Bs))(s4:(List Bs)×Int):Option (Ctl ((List i8G)) ((List Bs)×Int) ((List Bs))):=
 bif (decide (s4.2<(↑a2.length:Int)))then
  chk (0≤s4.2∧s4.2<(↑a2.length:Int)) <|
  p1m (s4.1++[(get a2 s4.2.toNat)]) fun c58=>
  chk (c58.length*16≤top∧c58.length≤top) <|
  some (.nxt (c58,(wr .i64 (s4.2+1))))
 else
  some (.brk s4.1)
def p4y(n:Nat)(a1:i8F)(c34:(List i8G))(t4:(List Bs)):Option ((List i8G)):=
 p0u n a1 c34 t4
def p2M(n:Nat)(a1:i8F)(a2:(List Bs))(t0:(List Bool)):Option ((List i8G)):=
 p1m [(i8G.mk a1.kind a1.name a1.words t0 0)] fun c34=>
 chk (c34.length*80≤top∧c34.length≤top) <|
 bif (bif (decide (a1.kind=8))then true else(decide (a1.kind=9)))then
  i8R (i9z (p2O a2) n ([a1.name],0)) (p4y n a1 c34)
 else
  p0u n a1 c34 a2
def p0b(n:Nat)(a1:i8F)(a2:(List Bs)):Option ((List i8G)):=
 i8R (i9z (p2K n a1 a2) n ([],0)) (p2M n a1 a2)
def p1q(a0:Bs)(s0:Int):Option (Ctl (Bool) (Int) (Unit)):=
 bif (decide (s0<(↑a0.length:Int)))then
  chk (0≤s0∧s0<(↑a0.length:Int)) <|
  bif (!(bif (bif (decide (97≤(i9O a0 s0)))then(decide ((i9O a0 s0)≤122))else false)then true else(bif (decide (0<s0))then(bif (bif (bif (decide (48≤(i9O a0 s0)))then(decide ((i9O a0 s0)≤57))else false)then true else(decide ((i9O a0 s0)=95)))then true else(decide ((i9O a0 s0)=45)))else false)))then
   some (.ret false)
  else
   some (.nxt (wr .i64 (s0+1)))
 else
  some (.brk ())
def p2S(a0:Bs)(t0:Unit):Option (Bool):=
 some (bif (decide (0<(↑a0.length:Int)))then(decide ((↑a0.length:Int)≤30))else false)
def p2J(n:Nat)(a0:Bs):Option (Bool):=
 i8R (i9z (p1q a0) n 0) (p2S a0)
def p1R(a0:(List Bs))(a1:Bs)(s0:Int):Option (Ctl (Int) (Int) (Unit)):=
 bif (decide (s0<(↑a0.length:Int)))then
  chk (0≤s0∧s0<(↑a0.length:Int)) <|
  bif (decide ((get a0 s0.toNat)=a1))then
   some (.ret s0)
  else
   some (.nxt (wr .i64 (s0+1)))
 else
  some (.brk ())
def p3P(t0:Unit):Option (Int):=
 some (-1)
def i8X(n:Nat)(a0:(List Bs))(a1:Bs):Option (Int):=
 i8R (i9z (p1R a0 a1) n 0) (p3P)
def p1S(l0:(List Bs))(a1:Bs)(s0:Int):Option (Ctl (Int) (Int) (Unit)):=
 bif (decide (s0<(↑l0.length:Int)))then
  chk (0≤s0∧s0<(↑l0.length:Int)) <|
  bif (decide ((get l0 s0.toNat)=a1))then
   some (.ret s0)
  else
   some (.nxt (wr .i64 (s0+1)))
 else
  some (.brk ())
def p3Q(t0:Unit):Option (Int):=
 some (-1)
def p3p(n:Nat)(a1:Bs)(l0:(List Bs)):Option (Int):=
 i8R (i9z (p1S l0 a1) n 0) (p3Q)
def p2B(a0:i8I)(s0:(List Bs)×Int):Option (Ctl (i8N) ((List Bs)×Int) ((List Bs))):=
 bif (decide (s0.2<(↑a0.words.length:Int)))then
  chk (0≤s0.2∧s0.2<(↑a0.words.length:Int)) <|
  p1m (s0.1++[(get a0.words s0.2.toNat)]) fun c20=>
  chk (c20.length*16≤top∧c20.length≤top) <|
  some (.nxt (c20,(wr .i64 (s0.2+1))))
 else
  some (.brk s0.1)
def p2C(a0:i8I)(s1:(List Bs)×Int):Option (Ctl (i8N) ((List Bs)×Int) ((List Bs))):=
 bif (decide (s1.2<(↑a0.i8M.length:Int)))then
  chk (0≤s1.2∧s1.2<(↑a0.i8M.length:Int)) <|
  p1m (s1.1++[(get a0.i8M s1.2.toNat)]) fun c35=>
  chk (c35.length*16≤top∧c35.length≤top) <|
  some (.nxt (c35,(wr .i64 (s1.2+1))))
 else
  some (.brk s1.1)
def p2D(a0:i8I)(s2:(List Bs)×Int):Option (Ctl (i8N) ((List Bs)×Int) ((List Bs))):=
 bif (decide (s2.2<(↑a0.parts.length:Int)))then
  chk (0≤s2.2∧s2.2<(↑a0.parts.length:Int)) <|
  p1m (s2.1++[(get a0.parts s2.2.toNat)]) fun c50=>
  chk (c50.length*16≤top∧c50.length≤top) <|
  some (.nxt (c50,(wr .i64 (s2.2+1))))
 else
  some (.brk s2.1)
def i9T(s3:Int)(t2:(List Bs))(s8:Int):Option (Ctl (Ctl (i8N) (Int) (Unit)) (Int) (Unit)):=
 bif (decide (s8<s3))then
  chk (0≤s8∧s8<(↑t2.length:Int)) <|
  bif (decide ((get t2 s8.toNat)=(get t2 s3.toNat)))then
   some (.ret (.ret (i8N.mk 7 s3)))
  else
   some (.nxt (wr .i64 (s8+1)))
 else
  some (.brk ())
def i9o(s9:Bool×Bool×Int)(v55:(List i8G))(s3:Int)(t2:(List Bs))(s11:Bool×Int):Option (Ctl (Ctl (Ctl (i8N) (Int) (Unit)) (Bool×Bool×Int) (Bool×Bool)) (Bool×Int) (Bool)):=
 chk (0≤s9.2.2∧s9.2.2<(↑v55.length:Int)) <|
 bif (decide (s11.2<(↑(((get v55 s9.2.2.toNat).words).length):Int)))then
  chk (p5Q (!s11.1) (0≤s11.2)∧p5Q (!s11.1) (s11.2<(↑(((get v55 s9.2.2.toNat).words).length):Int))) <|
  chk (s3.toNat<t2.length) <|
  chk (p5Q ((!s11.1)&&(decide ((get ((get v55 s9.2.2.toNat).words) s11.2.toNat)=(get t2 s3.toNat)))) (0≤s11.2)∧p5Q ((!s11.1)&&(decide ((get ((get v55 s9.2.2.toNat).words) s11.2.toNat)=(get t2 s3.toNat)))) (s11.2<(↑(((get v55 s9.2.2.toNat).bound).length):Int))) <|
  some (.nxt ((bif s11.1 then true else(bif (decide ((get ((get v55 s9.2.2.toNat).words) s11.2.toNat)=(get t2 s3.toNat)))then(!(get ((get v55 s9.2.2.toNat).bound) s11.2.toNat))else false)),(wr .i64 (s11.2+1))))
 else
  some (.brk s11.1)
def p0B(s9:Bool×Bool×Int)(t11:Bool):Option (Ctl (Ctl (i8N) (Int) (Unit)) (Bool×Bool×Int) (Bool×Bool)):=
 some (.nxt (t11,s9.2.1,(wr .i64 (s9.2.2+1))))
def i9s(n:Nat)(v55:(List i8G))(s3:Int)(a0:i8I)(t2:(List Bs))(s9:Bool×Bool×Int):Option (Ctl (Ctl (i8N) (Int) (Unit)) (Bool×Bool×Int) (Bool×Bool)):=
 bif (decide (s9.2.2<(↑v55.length:Int)))then
  bif (decide (s3<(↑a0.words.length:Int)))then
   i8R (i9z (i9o s9 v55 s3 t2) n (s9.1,0)) (p0B s9)
  else
   chk (0≤s9.2.2∧s9.2.2<(↑v55.length:Int)) <|
   chk (s3.toNat<t2.length) <|
   bif (bif (decide (((get v55 s9.2.2.toNat).kind)=2))then(decide (((get v55 s9.2.2.toNat).name)=(get t2 s3.toNat)))else false)then
    some (.nxt (true,(bif s9.2.1 then true else(decide (0<(↑(((get v55 s9.2.2.toNat).words).length):Int)))),(wr .i64 (s9.2.2+1))))
   else
    some (.nxt (s9.1,s9.2.1,(wr .i64 (s9.2.2+1))))
 else
  some (.brk (s9.1,s9.2.1))
def p0K(a0:i8I)(s3:Int)(t9:Bool×Bool):Option (Ctl (i8N) (Int) (Unit)):=
 bif (bif (decide ((wr .i64 ((↑a0.words.length:Int)+(↑a0.i8M.length:Int)))≤s3))then t9.2 else false)then
  some (.ret (i8N.mk 5 s3))
 else
  bif (!t9.1)then
   some (.ret (i8N.mk 15 s3))
  else
   some (.nxt (wr .i64 (s3+1)))
def p0J(n:Nat)(v55:(List i8G))(s3:Int)(a0:i8I)(t2:(List Bs))(t8:Unit):Option (Ctl (i8N) (Int) (Unit)):=
 i8R (i9z (i9s n v55 s3 a0 t2) n (false,false,0)) (p0K a0 s3)
def i9t(n:Nat)(t2:(List Bs))(v55:(List i8G))(a0:i8I)(s3:Int):Option (Ctl (i8N) (Int) (Unit)):=
 bif (decide (s3<(↑t2.length:Int)))then
  chk (0≤s3∧s3<(↑t2.length:Int)) <|
  (p2J n (get t2 s3.toNat)).bind fun v115=>
  bif (!v115)then
   some (.ret (i8N.mk 10 s3))
  else
   i8R (i9z (i9T s3 t2) n 0) (p0J n v55 s3 a0 t2)
 else
  some (.brk ())
def i9p(n:Nat)(v55:(List i8G))(a0:i8I)(s12:(List Bs)×Int):Option (Ctl (i8N) ((List Bs)×Int) (Unit)):=
 bif (decide (s12.2<(↑v55.length:Int)))then
  chk (0≤s12.2∧s12.2<(↑v55.length:Int)) <|
  bif (bif (decide (((get v55 s12.2.toNat).kind)=8))then true else(decide (((get v55 s12.2.toNat).kind)=9)))then
   (p3p n ((get v55 s12.2.toNat).name) s12.1).bind fun v195=>
   (gd (!(decide (0≤v195))) (i8X n a0.words ((get v55 s12.2.toNat).name)) default).bind fun v196=>
   bif (bif (decide (0≤v195))then true else(decide (0≤v196)))then
    some (.ret (i8N.mk 7 (-1)))
   else
    p1m (s12.1++[(get v55 s12.2.toNat).name]) fun c198=>
    chk (c198.length*16≤top∧c198.length≤top) <|
    some (.nxt (c198,(wr .i64 (s12.2+1))))
  else
   some (.nxt (s12.1,(wr .i64 (s12.2+1))))
 else
  some (.brk ())
def p2f(t12:Unit):Option (i8N):=
 some (i8N.mk 0 0)
def p0O(n:Nat)(v55:(List i8G))(a0:i8I)(t3:Unit):Option (i8N):=
 i8R (i9z (i9p n v55 a0) n ([],0)) (p2f)
def p0N(n:Nat)(a0:i8I)(t2:(List Bs)):Option (i8N):=
 (p0b n a0.form []).bind fun v55=>
 i8R (i9z (i9t n t2 v55 a0) n 0) (p0O n v55 a0)
def p0M(n:Nat)(a0:i8I)(t1:(List Bs)):Option (i8N):=
 i8R (i9z (p2D a0) n (t1,0)) (p0N n a0)
def p0L(n:Nat)(a0:i8I)(t0:(List Bs)):Option (i8N):=
 i8R (i9z (p2C a0) n (t0,0)) (p0M n a0)
def p0y(n:Nat)(a0:i8I):Option (i8N):=
 (p0f n a0.form).bind fun v1=>
 bif (!decide (v1.code=0))then
  some v1
 else
  bif (decide (300<(wr .i64 ((wr .i64 ((↑a0.words.length:Int)+(↑a0.i8M.length:Int)))+(↑a0.parts.length:Int)))))then
   some (i8N.mk 2 (-1))
  else
   i8R (i9z (p2B a0) n ([],0)) (p0L n a0)
def p2k(s0:Int×Bs):Option (Ctl (Bs) (Int×Bs) (Unit)):=
 chk (p1w [UInt8.ofNat (wr .u8 (wr .i64 (48+(Int.tmod s0.1 10)))).toNat] s0.2) <|
 chk (InK .i64 (Int.tdiv s0.1 10)) <|
 bif (decide ((Int.tdiv s0.1 10)=0))then
  some (.ret (p9P [UInt8.ofNat (wr .u8 (wr .i64 (48+(Int.tmod s0.1 10)))).toNat] s0.2))
 else
  some (.nxt ((Int.tdiv s0.1 10),(p9P [UInt8.ofNat (wr .u8 (wr .i64 (48+(Int.tmod s0.1 10)))).toNat] s0.2)))
def p4e(t0:Unit):Option (Bs):=
 none
def i9K(n:Nat)(a0:Int):Option (Bs):=
 i8R (i9z (p2k) n (a0,[])) (p4e)
def p0W(a1:(List Bs))(a0:i8F)(k0:Nat)(a2:(List Bs))(s2:Int):Option (Ctl (Ctl (i8F×Int) ((List Bs)) ((List Bs))) (Int) (Bs)):=
 bif (decide (0≤s2))then
  chk (0≤s2∧s2<(↑a1.length:Int)) <|
  bif (decide ((get a1 s2.toNat)=(get a0.words k0)))then
   chk (s2<(↑a2.length:Int)) <|
   some (.brk (get a2 s2.toNat))
  else
   some (.nxt (wr .i64 (s2-1)))
 else
  some (.brk (get a0.words k0))
def p2m(s0:(List Bs))(t2:Bs):Option (Ctl (i8F×Int) ((List Bs)) ((List Bs))):=
 p1m (s0++[t2]) fun c20=>
 chk (c20.length*16≤top∧c20.length≤top) <|
 some (.nxt c20)
def p2l(n:Nat)(a1:(List Bs))(a0:i8F)(a2:(List Bs))(k0:Nat)(s0:(List Bs)):Option (Ctl (i8F×Int) ((List Bs)) ((List Bs))):=
 i8R (i9z (p0W a1 a0 k0 a2) n (wr .i64 ((↑a1.length:Int)-1))) (p2m s0)
def p2n(self:(i8F)→((List Bs))→((List Bs))→(Int)→Option (i8F×Int))(a0:i8F)(j3:Int×Bs×(List Bs)×(List Bs))(k4:Nat)(s4:Int×(List i8F)):Option (Ctl (i8F×Int) (Int×(List i8F)) (Int×(List i8F))):=
 (self (get a0.subs k4) j3.2.2.1 j3.2.2.2 s4.1).bind fun v57=>
 p1m (s4.2++[v57.1]) fun c59=>
 chk (c59.length*72≤top∧c59.length≤top) <|
 some (.nxt (v57.2,c59))
def p2o(a0:i8F)(j3:Int×Bs×(List Bs)×(List Bs))(t0:(List Bs))(t4:Int×(List i8F)):Option (i8F×Int):=
 some ((i8F.mk a0.kind j3.2.1 t0 t4.2),t4.1)
def p0g(self:(i8F)→((List Bs))→((List Bs))→(Int)→Option (i8F×Int))(a0:i8F)(t0:(List Bs))(j3:Int×Bs×(List Bs)×(List Bs)):Option (i8F×Int):=
 chk (a0.subs.length≤9223372036854775807) <|
 i8R (i9P (p2n self a0 j3) a0.subs.length (j3.1,[])) (p2o a0 j3 t0)
def p2p(self:(i8F)→((List Bs))→((List Bs))→(Int)→Option (i8F×Int))(n:Nat)(a0:i8F)(p0s:Int)(a1:(List Bs))(a2:(List Bs))(t0:(List Bs)):Option (i8F×Int):=
 bif (bif (decide (a0.kind=8))then true else(decide (a0.kind=9)))then
  (i9K n p0s).bind fun v25=>
  chk (p1w [33] v25) <|
  p1m ([]++a1) fun c27=>
  chk (c27.length*16≤top∧c27.length≤top) <|
  p1m (c27++[a0.name]) fun c33=>
  chk (c33.length*16≤top∧c33.length≤top) <|
  p1m ([]++a2) fun c38=>
  chk (c38.length*16≤top∧c38.length≤top) <|
  p1m (c38++[(p9P [33] v25)]) fun c44=>
  chk (c44.length*16≤top∧c44.length≤top) <|
  p0g self a0 t0 ((wr .i64 (p0s+1)),(p9P [33] v25),c33,c44)
 else
  p0g self a0 t0 (p0s,a0.name,a1,a2)
def i9l:Nat→(i8F)→((List Bs))→((List Bs))→(Int)→Option (i8F×Int)
 |0,_,_,_,_=>none
 |n+1,a0,a1,a2,p0s=>
  i8R (i9P (p2l n a1 a0 a2) a0.words.length []) (p2p (i9l n) n a0 p0s a1 a2)
def p3G(a0:(List Bs))(a1:Bs)(k0:Nat)(s0:Unit):Option (Ctl (Bool) (Unit) (Unit)):=
 bif (decide ((get a0 k0)=a1))then
  some (.ret true)
 else
  some (.nxt ())
def p3H(t0:Unit):Option (Bool):=
 some false
def p0C(a0:(List Bs))(a1:Bs):Option (Bool):=
 i8R (i9P (p3G a0 a1) a0.length ()) (p3H)
def p3J(a0:(List Bs))(a1:Bs)(s0:Int):Option (Ctl ((List Bs)) (Int) (Int)):=
 chk (p5Q (decide (s0<(↑a0.length:Int))) (0≤s0)∧p5Q (decide (s0<(↑a0.length:Int))) (s0<(↑a0.length:Int))) <|
 bif (bif (decide (s0<(↑a0.length:Int)))then(Op.bytesLess (get a0 s0.toNat) a1)else false)then
  some (.nxt (wr .i64 (s0+1)))
 else
  some (.brk s0)
def p3K(a0:(List Bs))(a1:Bs)(t0:Int):Option ((List Bs)):=
 chk (0≤t0∧t0.toNat≤a0.length) <|
 p1m (a0.take t0.toNat) fun c9=>
 chk (c9.length*16≤top∧c9.length≤top) <|
 p1m (c9++[a1]) fun c15=>
 chk (c15.length*16≤top∧c15.length≤top) <|
 p1m (c15++(a0.drop t0.toNat)) fun c20=>
 chk (c20.length*16≤top∧c20.length≤top) <|
 some c20
def p3I(n:Nat)(a0:(List Bs))(a1:Bs):Option ((List Bs)):=
 (p0C a0 a1).bind fun v1=>
 bif v1 then
  some a0
 else
  i8R (i9z (p3J a0 a1) n 0) (p3K a0 a1)
def p2q(n:Nat)(a1:(List Bs))(a0:i8F)(k0:Nat)(s0:(List Bs)):Option (Ctl ((List Bs)) ((List Bs)) ((List Bs))):=
 (p0C a1 (get a0.words k0)).bind fun v3=>
 bif (!v3)then
  (p3I n s0 (get a0.words k0)).bind fun v4=>
  some (.nxt v4)
 else
  some (.nxt s0)
def p2r(self:(i8F)→((List Bs))→((List Bs))→Option ((List Bs)))(a0:i8F)(j1:(List Bs))(k2:Nat)(s2:(List Bs)):Option (Ctl ((List Bs)) ((List Bs)) ((List Bs))):=
 (self (get a0.subs k2) j1 s2).bind fun v18=>
 some (.nxt v18)
def p2s(t2:(List Bs)):Option ((List Bs)):=
 some t2
def p0h(self:(i8F)→((List Bs))→((List Bs))→Option ((List Bs)))(a0:i8F)(t0:(List Bs))(j1:(List Bs)):Option ((List Bs)):=
 chk (a0.subs.length≤9223372036854775807) <|
 i8R (i9P (p2r self a0 j1) a0.subs.length t0) (p2s)
def p2t(self:(i8F)→((List Bs))→((List Bs))→Option ((List Bs)))(a0:i8F)(a1:(List Bs))(t0:(List Bs)):Option ((List Bs)):=
 bif (bif (decide (a0.kind=8))then true else(decide (a0.kind=9)))then
  p1m ([]++a1) fun c5=>
  chk (c5.length*16≤top∧c5.length≤top) <|
  p1m (c5++[a0.name]) fun c11=>
  chk (c11.length*16≤top∧c11.length≤top) <|
  p0h self a0 t0 c11
 else
  p0h self a0 t0 a1
def i9m:Nat→(i8F)→((List Bs))→((List Bs))→Option ((List Bs))
 |0,_,_,_=>none
 |n+1,a0,a1,a2=>
  i8R (i9P (p2q n a1 a0) a0.words.length a2) (p2t (i9m n) a0 a1)
def p2T(n:Nat)(a0:i8F):Option ((List Bs)):=
 (i9m n a0 [] []).bind fun v1=>
 some v1
def p3R(l0:(List Bs))(l1:(List Bs))(k2:Nat)(s2:Bs):Option (Ctl (Ctl (i8F) ((List Bs)) ((List Bs))) (Bs) (Bs)):=
 bif (decide ((get l0 k2)=s2))then
  chk ((↑k2:Int)<(↑l1.length:Int)) <|
  some (.brk (get l1 k2))
 else
  some (.nxt s2)
def p1U(s0:(List Bs))(t2:Bs):Option (Ctl (i8F) ((List Bs)) ((List Bs))):=
 p1m (s0++[t2]) fun c30=>
 chk (c30.length*16≤top∧c30.length≤top) <|
 some (.nxt c30)
def p1T(l0:(List Bs))(l1:(List Bs))(a0:i8F)(k0:Nat)(s0:(List Bs)):Option (Ctl (i8F) ((List Bs)) ((List Bs))):=
 chk (l0.length≤9223372036854775807) <|
 i8R (i9P (p3R l0 l1) l0.length (get a0.words k0)) (p1U s0)
def p1V(self:(i8F)→((List Bs))→((List Bs))→Option (i8F))(a0:i8F)(l0:(List Bs))(l1:(List Bs))(k5:Nat)(s5:(List i8F)):Option (Ctl (i8F) ((List i8F)) ((List i8F))):=
 (self (get a0.subs k5) l0 l1).bind fun v54=>
 p1m (s5++[v54]) fun c56=>
 chk (c56.length*72≤top∧c56.length≤top) <|
 some (.nxt c56)
def p1W(a0:i8F)(j3:Bs)(t0:(List Bs))(t5:(List i8F)):Option (i8F):=
 some (i8F.mk a0.kind j3 t0 t5)
def i9Z(self:(i8F)→((List Bs))→((List Bs))→Option (i8F))(a0:i8F)(l0:(List Bs))(l1:(List Bs))(t0:(List Bs))(j3:Bs):Option (i8F):=
 chk (a0.subs.length≤9223372036854775807) <|
 i8R (i9P (p1V self a0 l0 l1) a0.subs.length []) (p1W a0 j3 t0)
def p1Y(l0:(List Bs))(a0:i8F)(l1:(List Bs))(k4:Nat)(s4:Bs):Option (Ctl (i8F) (Bs) (Bs)):=
 bif (decide ((get l0 k4)=a0.name))then
  chk ((↑k4:Int)<(↑l1.length:Int)) <|
  some (.brk (get l1 k4))
 else
  some (.nxt s4)
def p1Z(self:(i8F)→((List Bs))→((List Bs))→Option (i8F))(a0:i8F)(l0:(List Bs))(l1:(List Bs))(t0:(List Bs))(t4:Bs):Option (i8F):=
 i9Z self a0 l0 l1 t0 t4
def p1X(self:(i8F)→((List Bs))→((List Bs))→Option (i8F))(a0:i8F)(l0:(List Bs))(l1:(List Bs))(t0:(List Bs)):Option (i8F):=
 bif (bif (decide (a0.kind=8))then true else(decide (a0.kind=9)))then
  chk (l0.length≤9223372036854775807) <|
  i8R (i9P (p1Y l0 a0 l1) l0.length a0.name) (p1Z self a0 l0 l1 t0)
 else
  i9Z self a0 l0 l1 t0 a0.name
def i9d:Nat→(i8F)→((List Bs))→((List Bs))→Option (i8F)
 |0,_,_,_=>none
 |n+1,a0,l0,l1=>
  i8R (i9P (p1T l0 l1 a0) a0.words.length []) (p1X (i9d n) a0 l0 l1)
def p3q(v2:(List Bs))(k0:Nat)(s0:(List Bs)):Option (Ctl (i8F) ((List Bs)) ((List Bs))):=
 p1m (s0++[(get v2 k0)]) fun c10=>
 chk (c10.length*16≤top∧c10.length≤top) <|
 some (.nxt c10)
def p1F(n:Nat)(t0:(List Bs))(s3:Int):Option (Ctl (Ctl (i8F) ((List Bs)×(List Bs)×Int×Int) ((List Bs)×(List Bs))) (Int) (Int)):=
 (i9K n s3).bind fun v40=>
 chk (p1w [118] v40) <|
 (p0C t0 (p9P [118] v40)).bind fun v42=>
 bif v42 then
  some (.nxt (wr .i64 (s3+1)))
 else
  some (.brk s3)
def p3s(n:Nat)(s1:(List Bs)×(List Bs)×Int×Int)(t3:Int):Option (Ctl (i8F) ((List Bs)×(List Bs)×Int×Int) ((List Bs)×(List Bs))):=
 (i9K n s1.2.2.2).bind fun v43=>
 chk (p1w [33] v43) <|
 p1m (s1.1++[(p9P [33] v43)]) fun c46=>
 chk (c46.length*16≤top∧c46.length≤top) <|
 (i9K n t3).bind fun v51=>
 chk (p1w [118] v51) <|
 p1m (s1.2.1++[(p9P [118] v51)]) fun c54=>
 chk (c54.length*16≤top∧c54.length≤top) <|
 some (.nxt (c46,c54,(wr .i64 (t3+1)),(wr .i64 (s1.2.2.2+1))))
def p1E(n:Nat)(v1:i8F×Int)(t0:(List Bs))(s1:(List Bs)×(List Bs)×Int×Int):Option (Ctl (i8F) ((List Bs)×(List Bs)×Int×Int) ((List Bs)×(List Bs))):=
 bif (decide (s1.2.2.2<v1.2))then
  i8R (i9z (p1F n t0) n s1.2.2.1) (p3s n s1)
 else
  some (.brk (s1.1,s1.2.1))
def p3t(n:Nat)(v1:i8F×Int)(t1:(List Bs)×(List Bs)):Option (i8F):=
 (i9d n v1.1 t1.1 t1.2).bind fun v59=>
 some v59
def p3r(n:Nat)(v1:i8F×Int)(t0:(List Bs)):Option (i8F):=
 i8R (i9z (p1E n v1 t0) n ([],[],0,0)) (p3t n v1)
def p4m(n:Nat)(a0:i8F)(a1:(List Bs))(a2:(List Bs)):Option (i8F):=
 (i9l n a0 a1 a2 0).bind fun v1=>
 (p2T n v1.1).bind fun v2=>
 i8R (i9P (p3q v2) v2.length []) (p3r n v1)
def p0X(n:Nat)(a0:i8F):Option (i8F):=
 (p4m n a0 [] []).bind fun v1=>
 some v1
def p2E(a0:i8I)(s0:(List Bs)×Int):Option (Ctl ((List Bs)) ((List Bs)×Int) ((List Bs))):=
 bif (decide (s0.2<(↑a0.words.length:Int)))then
  chk (0≤s0.2∧s0.2<(↑a0.words.length:Int)) <|
  p1m (s0.1++[(get a0.words s0.2.toNat)]) fun c19=>
  chk (c19.length*16≤top∧c19.length≤top) <|
  some (.nxt (c19,(wr .i64 (s0.2+1))))
 else
  some (.brk s0.1)
def p2F(a0:i8I)(s1:(List Bs)×Int):Option (Ctl ((List Bs)) ((List Bs)×Int) ((List Bs))):=
 bif (decide (s1.2<(↑a0.i8M.length:Int)))then
  chk (0≤s1.2∧s1.2<(↑a0.i8M.length:Int)) <|
  p1m (s1.1++[(get a0.i8M s1.2.toNat)]) fun c34=>
  chk (c34.length*16≤top∧c34.length≤top) <|
  some (.nxt (c34,(wr .i64 (s1.2+1))))
 else
  some (.brk s1.1)
def p2G(a0:i8I)(s2:(List Bs)×Int):Option (Ctl ((List Bs)) ((List Bs)×Int) ((List Bs))):=
 bif (decide (s2.2<(↑a0.parts.length:Int)))then
  chk (0≤s2.2∧s2.2<(↑a0.parts.length:Int)) <|
  p1m (s2.1++[(get a0.parts s2.2.toNat)]) fun c49=>
  chk (c49.length*16≤top∧c49.length≤top) <|
  some (.nxt (c49,(wr .i64 (s2.2+1))))
 else
  some (.brk s2.1)
def i9V(v54:(List i8G))(s3:(List Bs)×Int):Option (Ctl ((List Bs)) ((List Bs)×Int) ((List Bs))):=
 bif (decide (s3.2<(↑v54.length:Int)))then
  chk (0≤s3.2∧s3.2<(↑v54.length:Int)) <|
  bif (bif (decide (((get v54 s3.2.toNat).kind)=8))then true else(decide (((get v54 s3.2.toNat).kind)=9)))then
   p1m (s3.1++[(get v54 s3.2.toNat).name]) fun c65=>
   chk (c65.length*16≤top∧c65.length≤top) <|
   some (.nxt (c65,(wr .i64 (s3.2+1))))
  else
   some (.nxt (s3.1,(wr .i64 (s3.2+1))))
 else
  some (.brk s3.1)
def p2H(t3:(List Bs)):Option ((List Bs)):=
 some t3
def p0R(n:Nat)(a0:i8I)(t2:(List Bs)):Option ((List Bs)):=
 (p0b n a0.form []).bind fun v54=>
 i8R (i9z (i9V v54) n (t2,0)) (p2H)
def p0Q(n:Nat)(a0:i8I)(t1:(List Bs)):Option ((List Bs)):=
 i8R (i9z (p2G a0) n (t1,0)) (p0R n a0)
def p0P(n:Nat)(a0:i8I)(t0:(List Bs)):Option ((List Bs)):=
 i8R (i9z (p2F a0) n (t0,0)) (p0Q n a0)
def p0A(n:Nat)(a0:i8I):Option ((List Bs)):=
 i8R (i9z (p2E a0) n ([],0)) (p0P n a0)
def p0m(a0:(List i8G))(s0:Int)(a1:(List i8G))(s2:Int):Option (Ctl (Ctl (Bool) (Int) (Unit)) (Int) (Unit)):=
 bif (decide (s2<(↑(((get a0 s0.toNat).words).length):Int)))then
  chk (0≤s2∧s2<(↑(((get a0 s0.toNat).words).length):Int)) <|
  chk (s2<(↑(((get a1 s0.toNat).words).length):Int)) <|
  bif (!decide ((get ((get a0 s0.toNat).words) s2.toNat)=(get ((get a1 s0.toNat).words) s2.toNat)))then
   some (.ret (.ret false))
  else
   some (.nxt (wr .i64 (s2+1)))
 else
  some (.brk ())
def p1r(s0:Int)(t2:Unit):Option (Ctl (Bool) (Int) (Unit)):=
 some (.nxt (wr .i64 (s0+1)))
def p0l(n:Nat)(a0:(List i8G))(a1:(List i8G))(s0:Int):Option (Ctl (Bool) (Int) (Unit)):=
 bif (decide (s0<(↑a0.length:Int)))then
  chk (0≤s0∧s0<(↑a0.length:Int)) <|
  chk (s0<(↑a1.length:Int)) <|
  bif (bif (bif (!decide (((get a0 s0.toNat).kind)=((get a1 s0.toNat).kind)))then true else(!decide (((get a0 s0.toNat).name)=((get a1 s0.toNat).name))))then true else(!decide ((↑(((get a0 s0.toNat).words).length):Int)=(↑(((get a1 s0.toNat).words).length):Int))))then
   some (.ret false)
  else
   i8R (i9z (p0m a0 s0 a1) n 0) (p1r s0)
 else
  some (.brk ())
def p3m(t0:Unit):Option (Bool):=
 some true
def p1b(n:Nat)(a0:(List i8G))(a1:(List i8G)):Option (Bool):=
 bif (!decide ((↑a0.length:Int)=(↑a1.length:Int)))then
  some false
 else
  i8R (i9z (p0l n a0 a1) n 0) (p3m)
def p3i(a0:Int):Option (Int):=
 bif (bif (bif (decide (a0=4))then true else(decide (a0=8)))then true else(decide (a0=9)))then
  some 1
 else
  bif (bif (bif (decide (a0=5))then true else(decide (a0=6)))then true else(decide (a0=7)))then
   some 2
  else
   some 0
def p0Z(a0:(List i8G))(a1:Int)(s0:(List Bs)×Int):Option (Ctl (i8F) ((List Bs)×Int) ((List Bs))):=
 bif (decide (s0.2<(↑(((get a0 a1.toNat).words).length):Int)))then
  chk (0≤s0.2∧s0.2<(↑(((get a0 a1.toNat).words).length):Int)) <|
  p1m (s0.1++[(get ((get a0 a1.toNat).words) s0.2.toNat)]) fun c13=>
  chk (c13.length*16≤top∧c13.length≤top) <|
  some (.nxt (c13,(wr .i64 (s0.2+1))))
 else
  some (.brk s0.1)
def p1a(self:((List i8G))→(Int)→Option (i8F))(a0:(List i8G))(a1:Int)(s1:(List i8F)×Int×Int):Option (Ctl (i8F) ((List i8F)×Int×Int) ((List i8F))):=
 (p3i ((get a0 a1.toNat).kind)).bind fun v28=>
 bif (decide (s1.2.2<v28))then
  (self a0 s1.2.1).bind fun v29=>
  p1m (s1.1++[v29]) fun c31=>
  chk (c31.length*72≤top∧c31.length≤top) <|
  chk (0≤s1.2.1∧s1.2.1<(↑a0.length:Int)) <|
  some (.nxt (c31,(get a0 s1.2.1.toNat).end_,(wr .i64 (s1.2.2+1))))
 else
  some (.brk s1.1)
def p2v(a0:(List i8G))(a1:Int)(t0:(List Bs))(t1:(List i8F)):Option (i8F):=
 some (i8F.mk ((get a0 a1.toNat).kind) ((get a0 a1.toNat).name) t0 t1)
def p2u(self:((List i8G))→(Int)→Option (i8F))(n:Nat)(a0:(List i8G))(a1:Int)(t0:(List Bs)):Option (i8F):=
 i8R (i9z (p1a self a0 a1) n ([],(wr .i64 (a1+1)),0)) (p2v a0 a1 t0)
def i9M:Nat→((List i8G))→(Int)→Option (i8F)
 |0,_,_=>none
 |n+1,a0,a1=>
  chk (0≤a1∧a1<(↑a0.length:Int)) <|
  i8R (i9z (p0Z a0 a1) n ([],0)) (p2u (i9M n) n a0 a1)
def i9G(s0:(List i8H)×(List Bool)×(List Int)×Int×Int)(a1:(List i8G))(j7:(List i8H)×(List Bool)×(List Int)):Option (Ctl ((List i8H)×(List Int)×Bool) ((List i8H)×(List Bool)×(List Int)×Int×Int) ((List i8H)×(List Int))):=
 chk (0≤s0.2.2.2.1∧s0.2.2.2.1<(↑a1.length:Int)) <|
 some (.nxt (j7.1,j7.2.1,j7.2.2,(get a1 s0.2.2.2.1.toNat).end_,(wr .i64 (s0.2.2.2.2+1))))
def i8W(s10:(List i8H)×(List Bool)×Int)(a1:(List i8G))(s0:(List i8H)×(List Bool)×(List Int)×Int×Int)(v1:(List Bs))(j12:Int):Option (Ctl (Ctl ((List i8H)×(List Int)×Bool) ((List i8H)×(List Bool)×(List Int)×Int×Int) ((List i8H)×(List Int))) ((List i8H)×(List Bool)×Int) ((List i8H)×(List Bool))):=
 bif (decide (0≤j12))then
  chk (0≤j12∧j12<(↑s10.2.1.length:Int)) <|
  chk (p5Q (get s10.2.1 j12.toNat) (j12<(↑s10.1.length:Int))) <|
  chk (j12.toNat<s10.1.length) <|
  chk (p5Q (get s10.2.1 j12.toNat) (s10.2.2<(↑(((get a1 s0.2.2.2.1.toNat).words).length):Int))) <|
  bif (bif (get s10.2.1 j12.toNat)then(!decide (((get s10.1 j12.toNat).text)=(get ((get a1 s0.2.2.2.1.toNat).words) s10.2.2.toNat)))else false)then
   some (.ret (.ret ([],[],false)))
  else
   p1m (s10.2.1.set j12.toNat true) fun c281=>
   chk (j12<(↑v1.length:Int)) <|
   chk (s10.2.2<(↑(((get a1 s0.2.2.2.1.toNat).words).length):Int)) <|
   chk (j12<(↑s10.1.length:Int)) <|
   p1m (s10.1.set j12.toNat (i8H.mk (get v1 j12.toNat) (get ((get a1 s0.2.2.2.1.toNat).words) s10.2.2.toNat) (i8F.mk 0 [] [] []))) fun c289=>
   some (.nxt (c289,c281,(wr .i64 (s10.2.2+1))))
 else
  some (.nxt (s10.1,s10.2.1,(wr .i64 (s10.2.2+1))))
def i9x(n:Nat)(v8:(List i8G))(s0:(List i8H)×(List Bool)×(List Int)×Int×Int)(a0:i8I)(v1:(List Bs))(a1:(List i8G))(s10:(List i8H)×(List Bool)×Int):Option (Ctl (Ctl ((List i8H)×(List Int)×Bool) ((List i8H)×(List Bool)×(List Int)×Int×Int) ((List i8H)×(List Int))) ((List i8H)×(List Bool)×Int) ((List i8H)×(List Bool))):=
 bif (decide (s10.2.2<(↑(((get v8 s0.2.2.2.2.toNat).words).length):Int)))then
  chk (0≤s10.2.2∧s10.2.2<(↑(((get v8 s0.2.2.2.2.toNat).words).length):Int)) <|
  chk (s10.2.2<(↑(((get v8 s0.2.2.2.2.toNat).bound).length):Int)) <|
  bif (get ((get v8 s0.2.2.2.2.toNat).bound) s10.2.2.toNat)then
   chk (0≤(wr .i64 ((wr .i64 ((↑a0.words.length:Int)+(↑a0.i8M.length:Int)))+(↑a0.parts.length:Int)))∧(wr .i64 ((wr .i64 ((↑a0.words.length:Int)+(↑a0.i8M.length:Int)))+(↑a0.parts.length:Int))).toNat≤v1.length) <|
   (i8X n (v1.drop ((wr .i64 ((wr .i64 ((↑a0.words.length:Int)+(↑a0.i8M.length:Int)))+(↑a0.parts.length:Int))).toNat)) (get ((get v8 s0.2.2.2.2.toNat).words) s10.2.2.toNat)).bind fun v264=>
   i8W s10 a1 s0 v1 (wr .i64 ((wr .i64 ((wr .i64 ((↑a0.words.length:Int)+(↑a0.i8M.length:Int)))+(↑a0.parts.length:Int)))+v264))
  else
   (i8X n a0.words (get ((get v8 s0.2.2.2.2.toNat).words) s10.2.2.toNat)).bind fun v265=>
   bif (decide (0≤v265))then
    (i8X n a0.words (get ((get v8 s0.2.2.2.2.toNat).words) s10.2.2.toNat)).bind fun v266=>
    i8W s10 a1 s0 v1 v266
   else
    chk (s10.2.2<(↑(((get a1 s0.2.2.2.1.toNat).words).length):Int)) <|
    bif (!decide ((get ((get v8 s0.2.2.2.2.toNat).words) s10.2.2.toNat)=(get ((get a1 s0.2.2.2.1.toNat).words) s10.2.2.toNat)))then
     some (.ret (.ret ([],[],false)))
    else
     i8W s10 a1 s0 v1 (-1)
 else
  some (.brk (s10.1,s10.2.1))
def p1j(s0:(List i8H)×(List Bool)×(List Int)×Int×Int)(t10:(List i8H)×(List Bool)):Option (Ctl ((List i8H)×(List Int)×Bool) ((List i8H)×(List Bool)×(List Int)×Int×Int) ((List i8H)×(List Int))):=
 some (.nxt (t10.1,t10.2,s0.2.2.1,(wr .i64 (s0.2.2.2.1+1)),(wr .i64 (s0.2.2.2.2+1))))
def i9H(n:Nat)(v8:(List i8G))(s0:(List i8H)×(List Bool)×(List Int)×Int×Int)(a0:i8I)(v1:(List Bs))(a1:(List i8G))(j9:(List i8H)×(List Bool)):Option (Ctl ((List i8H)×(List Int)×Bool) ((List i8H)×(List Bool)×(List Int)×Int×Int) ((List i8H)×(List Int))):=
 i8R (i9z (i9x n v8 s0 a0 v1 a1) n (j9.1,j9.2,0)) (p1j s0)
def i9f(n:Nat)(s0:(List i8H)×(List Bool)×(List Int)×Int×Int)(a1:(List i8G))(v1:(List Bs))(v8:(List i8G))(a0:i8I)(j8:Int):Option (Ctl ((List i8H)×(List Int)×Bool) ((List i8H)×(List Bool)×(List Int)×Int×Int) ((List i8H)×(List Int))):=
 bif (decide (0≤j8))then
  chk (0≤j8∧j8<(↑s0.2.1.length:Int)) <|
  chk (p5Q (get s0.2.1 j8.toNat) (j8<(↑s0.1.length:Int))) <|
  chk (j8.toNat<s0.1.length) <|
  bif (bif (get s0.2.1 j8.toNat)then(!decide (((get s0.1 j8.toNat).text)=((get a1 s0.2.2.2.1.toNat).name)))else false)then
   some (.ret ([],[],false))
  else
   p1m (s0.2.1.set j8.toNat true) fun c219=>
   chk (j8<(↑v1.length:Int)) <|
   chk (j8<(↑s0.1.length:Int)) <|
   p1m (s0.1.set j8.toNat (i8H.mk (get v1 j8.toNat) ((get a1 s0.2.2.2.1.toNat).name) (i8F.mk 0 [] [] []))) fun c226=>
   i9H n v8 s0 a0 v1 a1 (c226,c219)
 else
  i9H n v8 s0 a0 v1 a1 (s0.1,s0.2.1)
def i8Z(n:Nat)(v8:(List i8G))(a0:i8I)(a1:(List i8G))(v1:(List Bs))(s0:(List i8H)×(List Bool)×(List Int)×Int×Int):Option (Ctl ((List i8H)×(List Int)×Bool) ((List i8H)×(List Bool)×(List Int)×Int×Int) ((List i8H)×(List Int))):=
 bif (decide (s0.2.2.2.2<(↑v8.length:Int)))then
  chk (0≤s0.2.2.2.2∧s0.2.2.2.2<(↑v8.length:Int)) <|
  (gd (bif (decide (((get v8 s0.2.2.2.2.toNat).kind)=2))then(decide ((↑(((get v8 s0.2.2.2.2.toNat).words).length):Int)=0))else false) (i8X n a0.parts ((get v8 s0.2.2.2.2.toNat).name)) default).bind fun v146=>
  bif (bif (bif (decide (((get v8 s0.2.2.2.2.toNat).kind)=2))then(decide ((↑(((get v8 s0.2.2.2.2.toNat).words).length):Int)=0))else false)then(decide (0≤v146))else false)then
   (i8X n a0.parts ((get v8 s0.2.2.2.2.toNat).name)).bind fun v147=>
   chk (0≤(wr .i64 ((wr .i64 ((↑a0.words.length:Int)+(↑a0.i8M.length:Int)))+v147))∧(wr .i64 ((wr .i64 ((↑a0.words.length:Int)+(↑a0.i8M.length:Int)))+v147))<(↑s0.2.1.length:Int)) <|
   chk (p5Q (get s0.2.1 ((wr .i64 ((wr .i64 ((↑a0.words.length:Int)+(↑a0.i8M.length:Int)))+v147)).toNat)) ((wr .i64 ((wr .i64 ((↑a0.words.length:Int)+(↑a0.i8M.length:Int)))+v147))<(↑s0.2.2.1.length:Int))) <|
   chk ((wr .i64 ((wr .i64 ((↑a0.words.length:Int)+(↑a0.i8M.length:Int)))+v147)).toNat<s0.2.2.1.length) <|
   chk (p5Q (get s0.2.1 ((wr .i64 ((wr .i64 ((↑a0.words.length:Int)+(↑a0.i8M.length:Int)))+v147)).toNat)) ((wr .i64 ((wr .i64 ((↑a0.words.length:Int)+(↑a0.i8M.length:Int)))+v147))<(↑s0.2.2.1.length:Int))) <|
   chk (p5Q (get s0.2.1 ((wr .i64 ((wr .i64 ((↑a0.words.length:Int)+(↑a0.i8M.length:Int)))+v147)).toNat)) (0≤(get s0.2.2.1 ((wr .i64 ((wr .i64 ((↑a0.words.length:Int)+(↑a0.i8M.length:Int)))+v147)).toNat)))∧p5Q (get s0.2.1 ((wr .i64 ((wr .i64 ((↑a0.words.length:Int)+(↑a0.i8M.length:Int)))+v147)).toNat)) ((get s0.2.2.1 ((wr .i64 ((wr .i64 ((↑a0.words.length:Int)+(↑a0.i8M.length:Int)))+v147)).toNat))<(↑a1.length:Int))) <|
   chk (p5Q (get s0.2.1 ((wr .i64 ((wr .i64 ((↑a0.words.length:Int)+(↑a0.i8M.length:Int)))+v147)).toNat)) (0≤(get s0.2.2.1 ((wr .i64 ((wr .i64 ((↑a0.words.length:Int)+(↑a0.i8M.length:Int)))+v147)).toNat)))∧p5Q (get s0.2.1 ((wr .i64 ((wr .i64 ((↑a0.words.length:Int)+(↑a0.i8M.length:Int)))+v147)).toNat)) (0≤(get a1 ((get s0.2.2.1 ((wr .i64 ((wr .i64 ((↑a0.words.length:Int)+(↑a0.i8M.length:Int)))+v147)).toNat)).toNat)).end_)∧p5Q (get s0.2.1 ((wr .i64 ((wr .i64 ((↑a0.words.length:Int)+(↑a0.i8M.length:Int)))+v147)).toNat)) ((get s0.2.2.1 ((wr .i64 ((wr .i64 ((↑a0.words.length:Int)+(↑a0.i8M.length:Int)))+v147)).toNat)).toNat≤((get a1 ((get s0.2.2.1 ((wr .i64 ((wr .i64 ((↑a0.words.length:Int)+(↑a0.i8M.length:Int)))+v147)).toNat)).toNat)).end_).toNat)∧p5Q (get s0.2.1 ((wr .i64 ((wr .i64 ((↑a0.words.length:Int)+(↑a0.i8M.length:Int)))+v147)).toNat)) (((get a1 ((get s0.2.2.1 ((wr .i64 ((wr .i64 ((↑a0.words.length:Int)+(↑a0.i8M.length:Int)))+v147)).toNat)).toNat)).end_).toNat≤a1.length)) <|
   chk (p5Q (get s0.2.1 ((wr .i64 ((wr .i64 ((↑a0.words.length:Int)+(↑a0.i8M.length:Int)))+v147)).toNat)) (0≤s0.2.2.2.1)∧p5Q (get s0.2.1 ((wr .i64 ((wr .i64 ((↑a0.words.length:Int)+(↑a0.i8M.length:Int)))+v147)).toNat)) (s0.2.2.2.1<(↑a1.length:Int))) <|
   chk (p5Q (get s0.2.1 ((wr .i64 ((wr .i64 ((↑a0.words.length:Int)+(↑a0.i8M.length:Int)))+v147)).toNat)) (0≤s0.2.2.2.1)∧p5Q (get s0.2.1 ((wr .i64 ((wr .i64 ((↑a0.words.length:Int)+(↑a0.i8M.length:Int)))+v147)).toNat)) (0≤(get a1 s0.2.2.2.1.toNat).end_)∧p5Q (get s0.2.1 ((wr .i64 ((wr .i64 ((↑a0.words.length:Int)+(↑a0.i8M.length:Int)))+v147)).toNat)) (s0.2.2.2.1.toNat≤((get a1 s0.2.2.2.1.toNat).end_).toNat)∧p5Q (get s0.2.1 ((wr .i64 ((wr .i64 ((↑a0.words.length:Int)+(↑a0.i8M.length:Int)))+v147)).toNat)) (((get a1 s0.2.2.2.1.toNat).end_).toNat≤a1.length)) <|
   (gd (get s0.2.1 ((wr .i64 ((wr .i64 ((↑a0.words.length:Int)+(↑a0.i8M.length:Int)))+v147)).toNat)) (p1b n ((a1.drop ((get s0.2.2.1 ((wr .i64 ((wr .i64 ((↑a0.words.length:Int)+(↑a0.i8M.length:Int)))+v147)).toNat)).toNat)).take (((get a1 ((get s0.2.2.1 ((wr .i64 ((wr .i64 ((↑a0.words.length:Int)+(↑a0.i8M.length:Int)))+v147)).toNat)).toNat)).end_).toNat-(get s0.2.2.1 ((wr .i64 ((wr .i64 ((↑a0.words.length:Int)+(↑a0.i8M.length:Int)))+v147)).toNat)).toNat)) ((a1.drop s0.2.2.2.1.toNat).take (((get a1 s0.2.2.2.1.toNat).end_).toNat-s0.2.2.2.1.toNat))) default).bind fun v177=>
   bif (bif (get s0.2.1 ((wr .i64 ((wr .i64 ((↑a0.words.length:Int)+(↑a0.i8M.length:Int)))+v147)).toNat))then(!v177)else false)then
    some (.ret ([],[],false))
   else
    bif (!(get s0.2.1 ((wr .i64 ((wr .i64 ((↑a0.words.length:Int)+(↑a0.i8M.length:Int)))+v147)).toNat)))then
     p1m (s0.2.1.set ((wr .i64 ((wr .i64 ((↑a0.words.length:Int)+(↑a0.i8M.length:Int)))+v147)).toNat) true) fun c182=>
     chk ((wr .i64 ((wr .i64 ((↑a0.words.length:Int)+(↑a0.i8M.length:Int)))+v147))<(↑s0.2.2.1.length:Int)) <|
     p1m (s0.2.2.1.set ((wr .i64 ((wr .i64 ((↑a0.words.length:Int)+(↑a0.i8M.length:Int)))+v147)).toNat) s0.2.2.2.1) fun c188=>
     chk ((wr .i64 ((wr .i64 ((↑a0.words.length:Int)+(↑a0.i8M.length:Int)))+v147))<(↑v1.length:Int)) <|
     (i9M n a1 s0.2.2.2.1).bind fun v192=>
     chk ((wr .i64 ((wr .i64 ((↑a0.words.length:Int)+(↑a0.i8M.length:Int)))+v147))<(↑s0.1.length:Int)) <|
     p1m (s0.1.set ((wr .i64 ((wr .i64 ((↑a0.words.length:Int)+(↑a0.i8M.length:Int)))+v147)).toNat) (i8H.mk (get v1 ((wr .i64 ((wr .i64 ((↑a0.words.length:Int)+(↑a0.i8M.length:Int)))+v147)).toNat)) [] v192)) fun c196=>
     i9G s0 a1 (c196,c182,c188)
    else
     i9G s0 a1 (s0.1,s0.2.1,s0.2.2.1)
  else
   chk (0≤s0.2.2.2.1∧s0.2.2.2.1<(↑a1.length:Int)) <|
   bif (bif (!decide (((get v8 s0.2.2.2.2.toNat).kind)=((get a1 s0.2.2.2.1.toNat).kind)))then true else(!decide ((↑(((get v8 s0.2.2.2.2.toNat).words).length):Int)=(↑(((get a1 s0.2.2.2.1.toNat).words).length):Int))))then
    some (.ret ([],[],false))
   else
    bif (bif (decide (((get v8 s0.2.2.2.2.toNat).kind)=8))then true else(decide (((get v8 s0.2.2.2.2.toNat).kind)=9)))then
     chk (0≤(wr .i64 ((wr .i64 ((↑a0.words.length:Int)+(↑a0.i8M.length:Int)))+(↑a0.parts.length:Int)))∧(wr .i64 ((wr .i64 ((↑a0.words.length:Int)+(↑a0.i8M.length:Int)))+(↑a0.parts.length:Int))).toNat≤v1.length) <|
     (i8X n (v1.drop ((wr .i64 ((wr .i64 ((↑a0.words.length:Int)+(↑a0.i8M.length:Int)))+(↑a0.parts.length:Int))).toNat)) ((get v8 s0.2.2.2.2.toNat).name)).bind fun v205=>
     i9f n s0 a1 v1 v8 a0 (wr .i64 ((wr .i64 ((wr .i64 ((↑a0.words.length:Int)+(↑a0.i8M.length:Int)))+(↑a0.parts.length:Int)))+v205))
    else
     (gd (decide (((get v8 s0.2.2.2.2.toNat).kind)=2)) (i8X n a0.i8M ((get v8 s0.2.2.2.2.toNat).name)) default).bind fun v206=>
     bif (bif (decide (((get v8 s0.2.2.2.2.toNat).kind)=2))then(decide (0≤v206))else false)then
      (i8X n a0.i8M ((get v8 s0.2.2.2.2.toNat).name)).bind fun v207=>
      i9f n s0 a1 v1 v8 a0 (wr .i64 ((↑a0.words.length:Int)+v207))
     else
      bif (!decide (((get v8 s0.2.2.2.2.toNat).name)=((get a1 s0.2.2.2.1.toNat).name)))then
       some (.ret ([],[],false))
      else
       i9f n s0 a1 v1 v8 a0 (-1)
 else
  some (.brk (s0.1,s0.2.2.1))
def p0e(t0:(List i8H)×(List Int))(s13:Int)(s15:Int):Option (Ctl (Ctl ((List i8H)×(List Int)×Bool) (Int) (Unit)) (Int) (Unit)):=
 bif (decide (s15<(↑t0.1.length:Int)))then
  chk (0≤s13∧s13<(↑t0.1.length:Int)) <|
  chk (0≤s15∧s15<(↑t0.1.length:Int)) <|
  bif (decide (((get t0.1 s13.toNat).text)=((get t0.1 s15.toNat).text)))then
   some (.ret (.ret ([],[],false)))
  else
   some (.nxt (wr .i64 (s15+1)))
 else
  some (.brk ())
def p1k(s13:Int)(t15:Unit):Option (Ctl ((List i8H)×(List Int)×Bool) (Int) (Unit)):=
 some (.nxt (wr .i64 (s13+1)))
def p0d(n:Nat)(a0:i8I)(t0:(List i8H)×(List Int))(s13:Int):Option (Ctl ((List i8H)×(List Int)×Bool) (Int) (Unit)):=
 bif (decide (s13<(↑a0.words.length:Int)))then
  i8R (i9z (p0e t0 s13) n (wr .i64 ((wr .i64 ((↑a0.words.length:Int)+(↑a0.i8M.length:Int)))+(↑a0.parts.length:Int)))) (p1k s13)
 else
  some (.brk ())
def p1l(t0:(List i8H)×(List Int))(t13:Unit):Option ((List i8H)×(List Int)×Bool):=
 some (t0.1,t0.2,true)
def p0n(n:Nat)(a0:i8I)(t0:(List i8H)×(List Int)):Option ((List i8H)×(List Int)×Bool):=
 i8R (i9z (p0d n a0 t0) n 0) (p1l t0)
def p2w(n:Nat)(a0:i8I)(a1:(List i8G))(a2:Int):Option ((List i8H)×(List Int)×Bool):=
 (p0A n a0).bind fun v1=>
 chk (v1.length*104≤top∧v1.length≤top) <|
 chk (v1.length*1≤top) <|
 chk (v1.length*8≤top) <|
 (p0b n a0.form []).bind fun v8=>
 i8R (i9z (i8Z n v8 a0 a1 v1) n ((List.replicate v1.length (default:i8H)),(List.replicate v1.length (default:Bool)),(List.replicate v1.length (default:Int)),a2,0)) (p0n n a0)
def p1G(n:Nat)(a0:i8I)(a1:(List i8G))(a2:Int):Option ((List i8H)×Bool):=
 (p2w n a0 a1 a2).bind fun v1=>
 some (v1.1,v1.2.2)
def i9L(n:Nat)(a0:(List i8H))(a1:(List i8H))(s0:Int):Option (Ctl (Bool) (Int) (Unit)):=
 bif (decide (s0<(↑a0.length:Int)))then
  chk (0≤s0∧s0<(↑a0.length:Int)) <|
  chk (s0<(↑a1.length:Int)) <|
  (gd (!(bif (!decide (((get a0 s0.toNat).name)=((get a1 s0.toNat).name)))then true else(!decide (((get a0 s0.toNat).text)=((get a1 s0.toNat).text))))) (i9k n ((get a0 s0.toNat).form) ((get a1 s0.toNat).form)) default).bind fun v7=>
  bif (bif (bif (!decide (((get a0 s0.toNat).name)=((get a1 s0.toNat).name)))then true else(!decide (((get a0 s0.toNat).text)=((get a1 s0.toNat).text))))then true else(!v7))then
   some (.ret false)
  else
   some (.nxt (wr .i64 (s0+1)))
 else
  some (.brk ())
def p2g(t0:Unit):Option (Bool):=
 some true
def i9F(n:Nat)(a0:(List i8H))(a1:(List i8H)):Option (Bool):=
 bif (!decide ((↑a0.length:Int)=(↑a1.length:Int)))then
  some false
 else
  i8R (i9z (i9L n a0 a1) n 0) (p2g)
def i9i(n:Nat)(v7:(List i8G))(a0:i8I)(v2:(List i8H)×Bool×i8N)(v3:(List i8U)×i8N)(s1:Int×Int):Option (Ctl (Bool) (Int×Int) (Int)):=
 bif (decide (s1.2<(↑v7.length:Int)))then
  (p1G n a0 v7 s1.2).bind fun v15=>
  (gd ((decide (s1.2=0))&&(!(!decide (v2.2.1=v15.2)))) (i9F n v2.1 v15.1) default).bind fun v16=>
  bif (bif (decide (s1.2=0))then(bif (!decide (v2.2.1=v15.2))then true else(!v16))else false)then
   some (.ret false)
  else
   bif v15.2 then
    chk (p5Q (!(decide ((↑v3.1.length:Int)≤s1.1))) (0≤s1.1)∧p5Q (!(decide ((↑v3.1.length:Int)≤s1.1))) (s1.1<(↑v3.1.length:Int))) <|
    chk (p5Q (!(bif (decide ((↑v3.1.length:Int)≤s1.1))then true else(!decide (((get v3.1 s1.1.toNat).at_)=s1.2)))) (0≤s1.1)∧p5Q (!(bif (decide ((↑v3.1.length:Int)≤s1.1))then true else(!decide (((get v3.1 s1.1.toNat).at_)=s1.2)))) (s1.1<(↑v3.1.length:Int))) <|
    (gd (!(bif (decide ((↑v3.1.length:Int)≤s1.1))then true else(!decide (((get v3.1 s1.1.toNat).at_)=s1.2)))) (i9F n ((get v3.1 s1.1.toNat).bindings) v15.1) default).bind fun v23=>
    bif (bif (bif (decide ((↑v3.1.length:Int)≤s1.1))then true else(!decide (((get v3.1 s1.1.toNat).at_)=s1.2)))then true else(!v23))then
     some (.ret false)
    else
     some (.nxt ((wr .i64 (s1.1+1)),(wr .i64 (s1.2+1))))
   else
    some (.nxt (s1.1,(wr .i64 (s1.2+1))))
 else
  some (.brk s1.1)
def i9y(v2:(List i8H)×Bool×i8N)(v3:(List i8U)×i8N)(t1:Int):Option (Bool):=
 some (bif (bif (decide (v2.2.2.code=0))then(decide (v3.2.code=0))else false)then(decide (t1=(↑v3.1.length:Int)))else false)
def i8Y(n:Nat)(v2:(List i8H)×Bool×i8N)(v3:(List i8U)×i8N)(a1:i8F)(a0:i8I)(j0:Int×Int):Option (Bool):=
 bif (!decide (j0.1=0))then
  some (bif (bif (bif (bif (decide (v2.2.2.code=j0.1)&&(decide (v2.2.2.index=j0.2)))then(decide (v3.2.code=j0.1)&&(decide (v3.2.index=j0.2)))else false)then(!v2.2.1)else false)then(decide ((↑v2.1.length:Int)=0))else false)then(decide ((↑v3.1.length:Int)=0))else false)
 else
  (p0X n a1).bind fun v6=>
  (p0b n v6 []).bind fun v7=>
  i8R (i9z (i9i n v7 a0 v2 v3) n (0,0)) (i9y v2 v3)
def i9N(n:Nat)(a0:i8I)(a1:i8F):Option (Bool):=
 (i9U n).bind fun v1=>
 bif (!v1)then
  some false
 else
  (p4I n a0 a1).bind fun v2=>
  (p5k n a0 a1).bind fun v3=>
  (p0y n a0).bind fun v4=>
  bif (decide (v4.code=0))then
   (p0f n a1).bind fun v5=>
   i8Y n v2 v3 a1 a0 (v5.code,v5.index)
  else
   i8Y n v2 v3 a1 a0 (v4.code,v4.index)
end Go.Proofs.YtdjnbjnlnjhllaaGreatDoor
