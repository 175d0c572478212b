import Derived.Test.YtfacbpehlibilaaGreatDoorTVStrs
import Derived.Test.YtfacbpehlibilaaGreatDoorTVCat
import Derived.Test.YtfacbpehlibilaaGreatDoorTVCmp
set_option linter.unusedVariables false
set_option linter.unusedSimpArgs false
namespace Go.Proofs.YtfacbpehlibilaaGreatDoor
open Go Go.Am
def u9i(a0:r4W)(a1:r4W):Option (Int):=
 some (wr .i64 (a0.at_-a1.at_))
def r6E(a0:Bs)(a1:(List Bs)):Option (p6w):=
 some (p6w.mk 2 a0 a1 [])
def u0n(a0:Int)(a1:p6w)(a2:p6w):Option (p6w):=
 some (p6w.mk a0 [] [] [a1,a2])
def r6t(a0:Int)(a1:Int):Option (r5d):=
 some (r5d.mk a0 a1)
def r8O(a0:Int)(r5q:Int):Option (r5d):=
 some (r5d.mk a0 r5q)
def u0A(j2:Bool):Option (Int):=
 bif j2 then
  some 2
 else
  some (-1)
def u0z(a0:Int)(j1:Bool):Option (Int):=
 bif j1 then
  some 1
 else
  bif (decide (a0=5))then
   u0A (decide (a0=5))
  else
   bif (decide (a0=6))then
    u0A (decide (a0=6))
   else
    u0A (decide (a0=7))
def u0y(a0:Int)(j0:Bool):Option (Int):=
 bif j0 then
  some 0
 else
  bif (decide (a0=4))then
   u0z a0 (decide (a0=4))
  else
   bif (decide (a0=8))then
    u0z a0 (decide (a0=8))
   else
    u0z a0 (decide (a0=9))
def u4g(a0:Int):Option (Int):=
 bif (decide (a0=1))then
  u0y a0 (decide (a0=1))
 else
  bif (decide (a0=2))then
   u0y a0 (decide (a0=2))
  else
   u0y a0 (decide (a0=3))
def r5A(a0:p6w):Option (Bool):=
 some (bif (decide (a0.kind=8))then true else(decide (a0.kind=9)))
def u5F(a0:Bs)(k0:Nat)(s0:Unit):Option (Ctl (Bool) (Unit) (Unit)):=
 bif (!(bif (bif (bif (bif (decide (97≤(r6p a0 (↑k0:Int))))then(decide ((r6p a0 (↑k0:Int))≤122))else false)then true else(bif (decide (48≤(r6p a0 (↑k0:Int))))then(decide ((r6p a0 (↑k0:Int))≤57))else false))then true else(decide ((r6p a0 (↑k0:Int))=95)))then true else(decide ((r6p a0 (↑k0:Int))=45))))then
  some (.ret false)
 else
  some (.nxt ())
def u5G(t0:Unit):Option (Bool):=
 some true
def termName(a0:Bs):Option (Bool):=
 chk (u5Z (!(bif (decide ((↑a0.length:Int)=0))then true else(decide (30<(↑a0.length:Int))))) (0<(↑a0.length:Int))) <|
 chk (u5Z (!(bif (bif (decide ((↑a0.length:Int)=0))then true else(decide (30<(↑a0.length:Int))))then true else(decide ((r6p a0 0)<97)))) (0<(↑a0.length:Int))) <|
 bif (bif (bif (bif (decide ((↑a0.length:Int)=0))then true else(decide (30<(↑a0.length:Int))))then true else(decide ((r6p a0 0)<97)))then true else(decide (122<(r6p a0 0))))then
  some false
 else
  chk (a0.length≤9223372036854775807) <|
  r5r (r5J (u5F a0) a0.length ()) (u5G)
def u1F(a0:p6w)(r5q:Int)(k2:Nat)(s2:Unit):Option (Ctl (r5d×Int) (Unit) (Unit)):=
 (termName (get a0.words k2)).bind fun v9=>
 bif (!v9)then
  (r8O 10 r5q).bind fun v10=>
  some (.ret (v10,(wr .i64 (r5q+1))))
 else
  some (.nxt ())
def u1H(self:(p6w)→(Int)→(Int)→(Bool)→Option (r5d×Int))(a0:p6w)(a1:Int)(r9d:Bool)(k3:Nat)(s3:Int):Option (Ctl (r5d×Int) (Int) (Int)):=
 (self (get a0.subs k3) (wr .i64 (a1+1)) s3 r9d).bind fun v12=>
 bif (!decide (v12.1.code=0))then
  some (.ret (v12.1,v12.2))
 else
  some (.nxt v12.2)
def u1I(t3:Int):Option (r5d×Int):=
 some ((r5d.mk 0 0),t3)
def u1G(self:(p6w)→(Int)→(Int)→(Bool)→Option (r5d×Int))(a0:p6w)(a1:Int)(r9d:Bool)(r5q:Int)(t2:Unit):Option (r5d×Int):=
 r5r (r5J (u1H self a0 a1 r9d) a0.subs.length (wr .i64 (r5q+1))) (u1I)
def r8o(self:(p6w)→(Int)→(Int)→(Bool)→Option (r5d×Int))(a0:p6w)(j0:Int)(r5q:Int)(a1:Int)(r9d:Bool)(j1:Bool):Option (r5d×Int):=
 bif (bif (!decide ((↑a0.subs.length:Int)=j0))then true else(!j1))then
  (r8O 9 r5q).bind fun v4=>
  some (v4,(wr .i64 (r5q+1)))
 else
  (gd (!(decide (a0.kind=2))) (r5A a0) default).bind fun v5=>
  (gd (bif (bif (decide (a0.kind=2))then true else v5)then true else(decide (a0.kind=10))) (termName a0.name) default).bind fun v6=>
  bif (bif (bif (bif (decide (a0.kind=2))then true else v5)then true else(decide (a0.kind=10)))then(!v6)else false)then
   (r8O 10 r5q).bind fun v7=>
   some (v7,(wr .i64 (r5q+1)))
  else
   bif (bif (!(bif (bif (decide (a0.kind=2))then true else v5)then true else(decide (a0.kind=10))))then(!decide (a0.name=[]))else false)then
    (r8O 5 r5q).bind fun v8=>
    some (v8,(wr .i64 (r5q+1)))
   else
    r5r (r5J (u1F a0 r5q) a0.words.length ()) (u1G self a0 a1 r9d r5q)
def r9j(self:(p6w)→(Int)→(Int)→(Bool)→Option (r5d×Int))(r5q:Int)(a0:p6w)(a1:Int)(r9d:Bool)(j0:Int):Option (r5d×Int):=
 bif (decide (j0<0))then
  (r8O 4 r5q).bind fun v3=>
  some (v3,(wr .i64 (r5q+1)))
 else
  bif (decide (a0.kind=2))then
   r8o self a0 j0 r5q a1 r9d (decide ((↑a0.words.length:Int)≤3))
  else
   bif (decide (a0.kind=3))then
    r8o self a0 j0 r5q a1 r9d (decide ((↑a0.words.length:Int)=2))
   else
    r8o self a0 j0 r5q a1 r9d (decide ((↑a0.words.length:Int)=0))
def r6H:Nat→(p6w)→(Int)→(Int)→(Bool)→Option (r5d×Int)
 |0,_,_,_,_=>none
 |n+1,a0,a1,r5q,r9d=>
  bif (bif (decide (200<(wr .i64 (r5q+1))))then true else(decide (40<a1)))then
   (r8O 1 r5q).bind fun v1=>
   some (v1,(wr .i64 (r5q+1)))
  else
   (u4g a0.kind).bind fun v2=>
   bif (bif (decide (a0.kind=10))then r9d else false)then
    r9j (r6H n) r5q a0 a1 r9d 0
   else
    r9j (r6H n) r5q a0 a1 r9d v2
def u4M(n:Nat)(a0:p6w)(a1:Bool):Option (r5d):=
 (r6H n a0 1 0 a1).bind fun v1=>
 some v1.1
def r8V(n:Nat)(a0:p6w):Option (r5d):=
 (u4M n a0 false).bind fun v1=>
 some v1
def r9t(a0:r5b):Option ((List Bs)):=
 (w3e [a0.words,a0.r5o,a0.parts]).bind fun v2=>
 some v2
def r6F(a0:Int)(a1:Int):Option (r5d):=
 some (r5d.mk a0 a1)
def r7I(a1:Bs)(a0:(List Bs))(k0:Nat)(s0:Unit):Option (Ctl (Int) (Unit) (Unit)):=
 bif (decide (a1=(get a0 k0)))then
  some (.ret (↑k0:Int))
 else
  some (.nxt ())
def r7J(t0:Unit):Option (Int):=
 some (-1)
def r8E(a0:(List Bs))(a1:Bs):Option (Int):=
 r5r (r5J (r7I a1 a0) a0.length ()) (r7J)
def r5e(a0:(List Bs))(a1:Bs):Option (Bool):=
 (r8E a0 a1).bind fun v1=>
 some (decide (0≤v1))
def r9G(a1:(List Bs))(a0:p6w)(k0:Nat)(s0:(List Bs)):Option (Ctl ((List Bs)) ((List Bs)) ((List Bs))):=
 (r5e a1 (get a0.words k0)).bind fun v8=>
 bif (!v8)then
  r9F (s0++[(get a0.words k0)]) fun c10=>
  chk (c10.length*16≤top∧c10.length≤top) <|
  some (.nxt c10)
 else
  some (.nxt s0)
def r9H(self:(p6w)→((List Bs))→((List Bs))→Option ((List Bs)))(a0:p6w)(j1:(List Bs))(k2:Nat)(s2:(List Bs)):Option (Ctl ((List Bs)) ((List Bs)) ((List Bs))):=
 (self (get a0.subs k2) j1 s2).bind fun v26=>
 some (.nxt v26)
def r9I(t2:(List Bs)):Option ((List Bs)):=
 some t2
def r7C(self:(p6w)→((List Bs))→((List Bs))→Option ((List Bs)))(a0:p6w)(t0:(List Bs))(j1:(List Bs)):Option ((List Bs)):=
 r5r (r5J (r9H self a0 j1) a0.subs.length t0) (r9I)
def r9J(self:(p6w)→((List Bs))→((List Bs))→Option ((List Bs)))(a0:p6w)(a1:(List Bs))(t0:(List Bs)):Option ((List Bs)):=
 (r5A a0).bind fun v15=>
 bif v15 then
  chk (0≤(↑a1.length:Int)∧0≤(↑a1.length:Int)) <|
  r9F (a1++[a0.name]) fun c19=>
  chk (c19.length*16≤top∧c19.length≤top) <|
  r7C self a0 t0 c19
 else
  r7C self a0 t0 a1
def r6m:Nat→(p6w)→((List Bs))→((List Bs))→Option ((List Bs))
 |0,_,_,_=>none
 |n+1,a0,a1,l1=>
  r5r (r5J (r9G a1 a0) a0.words.length l1) (r9J (r6m n) a0 a1)
def r6U(l0:(List Bs)):Option ((List Bs)):=
 chk (l0.length<4611686018427387904) (some (u6t cfB l0))
def r8b(l0:(List Bs)):Option (List Bs):=
 chk (l0.length≤9223372036854775807) (some (cpt l0))
def r9k(n:Nat)(a0:p6w):Option ((List Bs)):=
 (r6m n a0 [] []).bind fun v1=>
 (r6U v1).bind fun v3=>
 (r8b v3).bind fun v5=>
 some (Lib.compact v3)
def u1J(self:(p6w)→(Bs)→Option (Bool×Bool))(a0:p6w)(a1:Bs)(k1:Nat)(s1:Bool×Bool):Option (Ctl (Bool×Bool) (Bool×Bool) (Bool×Bool)):=
 (self (get a0.subs k1) a1).bind fun v2=>
 some (.nxt ((bif s1.1 then true else v2.1),(bif s1.2 then true else v2.2)))
def u1K(t1:Bool×Bool):Option (Bool×Bool):=
 some (t1.1,t1.2)
def r9l(self:(p6w)→(Bs)→Option (Bool×Bool))(a0:p6w)(a1:Bs)(j0:Bool×Bool):Option (Bool×Bool):=
 r5r (r5J (u1J self a0 a1) a0.subs.length (j0.1,j0.2)) (u1K)
def r8c:Nat→(p6w)→(Bs)→Option (Bool×Bool)
 |0,_,_=>none
 |n+1,a0,a1=>
  bif (bif (decide (a0.kind=2))then(decide (a0.name=a1))else false)then
   r9l (r8c n) a0 a1 ((decide (0<(↑a0.words.length:Int))),(decide ((↑a0.words.length:Int)=0)))
  else
   r9l (r8c n) a0 a1 (false,false)
def r8F(self:(p6w)→Option ((List Bs)))(a0:p6w)(k1:Nat)(s1:(List Bs)):Option (Ctl ((List Bs)) ((List Bs)) ((List Bs))):=
 (self (get a0.subs k1)).bind fun v14=>
 r9F (s1++v14) fun c15=>
 chk (c15.length*16≤top∧c15.length≤top) <|
 some (.nxt c15)
def r8G(t1:(List Bs)):Option ((List Bs)):=
 some t1
def r6J(self:(p6w)→Option ((List Bs)))(a0:p6w)(j0:(List Bs)):Option ((List Bs)):=
 r5r (r5J (r8F self a0) a0.subs.length j0) (r8G)
def r5s:Nat→(p6w)→Option ((List Bs))
 |0,_=>none
 |n+1,a0=>
  (r5A a0).bind fun v1=>
  bif v1 then
   r9F ([]++[a0.name]) fun c3=>
   chk (c3.length*16≤top∧c3.length≤top) <|
   r6J (r5s n) a0 c3
  else
   r6J (r5s n) a0 []
def r9K(n:Nat)(v2:(List Bs))(a0:r5b)(v4:(List Bs))(k0:Nat)(s0:Unit):Option (Ctl (r5d) (Unit) (Unit)):=
 (termName (get v2 k0)).bind fun v17=>
 bif (!v17)then
  (r6F 10 (↑k0:Int)).bind fun v18=>
  some (.ret v18)
 else
  chk (0≤(↑k0:Int)∧k0≤v2.length) <|
  (r5e (v2.take k0) (get v2 k0)).bind fun v21=>
  bif v21 then
   (r6F 7 (↑k0:Int)).bind fun v22=>
   some (.ret v22)
  else
   (r8c n a0.form (get v2 k0)).bind fun v23=>
   bif (decide ((↑k0:Int)<(↑a0.words.length:Int)))then
    (r5e v4 (get v2 k0)).bind fun v24=>
    bif (!v24)then
     (r6F 15 (↑k0:Int)).bind fun v25=>
     some (.ret v25)
    else
     some (.nxt ())
   else
    bif (decide ((↑k0:Int)<(wr .i64 ((↑a0.words.length:Int)+(↑a0.r5o.length:Int)))))then
     bif (bif (!v23.1)then(!v23.2)else false)then
      (r6F 15 (↑k0:Int)).bind fun v26=>
      some (.ret v26)
     else
      some (.nxt ())
    else
     bif v23.1 then
      (r6F 5 (↑k0:Int)).bind fun v27=>
      some (.ret v27)
     else
      bif (!v23.2)then
       (r6F 15 (↑k0:Int)).bind fun v28=>
       some (.ret v28)
      else
       some (.nxt ())
def r9M(v29:(List Bs))(a0:r5b)(k1:Nat)(s1:Unit):Option (Ctl (r5d) (Unit) (Unit)):=
 chk (0≤(↑k1:Int)∧k1≤v29.length) <|
 (r5e (v29.take k1) (get v29 k1)).bind fun v37=>
 (gd (!v37) (r5e a0.words (get v29 k1)) default).bind fun v38=>
 bif (bif v37 then true else v38)then
  (r6F 7 (-1)).bind fun v39=>
  some (.ret v39)
 else
  some (.nxt ())
def r9N(t1:Unit):Option (r5d):=
 some (r5d.mk 0 0)
def r9L(n:Nat)(a0:r5b)(t0:Unit):Option (r5d):=
 (r5s n a0.form).bind fun v29=>
 r5r (r5J (r9M v29 a0) v29.length ()) (r9N)
def r9Q(n:Nat)(a0:r5b):Option (r5d):=
 (r8V n a0.form).bind fun v1=>
 bif (!decide (v1.code=0))then
  some v1
 else
  (r9t a0).bind fun v2=>
  bif (decide (300<(↑v2.length:Int)))then
   (r6F 2 (-1)).bind fun v3=>
   some v3
  else
   (r9k n a0.form).bind fun v4=>
   r5r (r5J (r9K n v2 a0 v4) v2.length ()) (r9L n a0)
def r7d(a0:r5b)(a1:p6w):Option (Bool):=
 (gd (bif (decide (a1.kind=2))then(decide ((↑a1.words.length:Int)=0))else false) (r5e a0.parts a1.name) default).bind fun v1=>
 some (bif (bif (decide (a1.kind=2))then(decide ((↑a1.words.length:Int)=0))else false)then v1 else false)
def u0o(a0:(List Bs)):Option (List Bs):=
 some a0
def r5E(a0 l0:(List Bs)):Option (List Bs):=
 bif l0.isEmpty then some a0 else none
def w1O(a1:List Bs):Bs→Bool:=fun x=> !decide (x∈a1)
def w5c(self:p6w→List Bs→List (Bs×List Bs)→Option (List (Bs×List Bs)))(f:p6w)(c:List Bs)(k:Nat)(s:List (Bs×List Bs)):Option (Ctl (List (Bs×List Bs)) (List (Bs×List Bs)) (List (Bs×List Bs))):=
 (self (get f.subs k) c s).bind fun v=>some (.nxt v)
def w2w(self:p6w→List Bs→List (Bs×List Bs)→Option (List (Bs×List Bs)))(f:p6w)(m:List (Bs×List Bs))(c:List Bs):Option (List (Bs×List Bs)):=
 r5r (r5J (w5c self f c) f.subs.length m) (fun t=>some t)
def w1f(self:p6w→List Bs→List (Bs×List Bs)→Option (List (Bs×List Bs)))(f:p6w)(a1:List Bs)(m:List (Bs×List Bs)):Option (List (Bs×List Bs)):=
 (r5A f).bind fun v3=>
 bif v3 then
  (r5E a1 []).bind fun v4=>
  r9F (v4++[f.name]) fun c6=>
  chk (c6.length*16≤top∧c6.length≤top) <|
  w2w self f m c6
 else
  w2w self f m a1
def r6e:Nat→p6w→List Bs→r5b→List (Bs×List Bs)→Option (List (Bs×List Bs))
 |0,_,_,_,_=>none
 |n+1,f,a1,s,m=>
  (r7d s f).bind fun v1=>
  bif v1 then
   chk (f.name∈s.parts∧((assoc f.name m).getD a1).length≤1000000) <|
   w1f (fun f a m=>r6e n f a s m) f a1 (r5j f.name (flt (w1O a1) ((assoc f.name m).getD a1)) m)
  else
   w1f (fun f a m=>r6e n f a s m) f a1 m
def u1A(n:Nat)(s:r5b):Option (List (Bs×List Bs)):=chk (s.parts.Nodup) (r6e n s.form [] s [])
def u1f(r5m:(p6w)→((List Bs))→(Int)→(Bs)→((List Bs))→((List p6w))→((List Bs))→((List Bs))→((List Bs))→(Int)→(Bs)→((List Bs))→((List p6w))→((List (Bs×(List Bs))))→((List Bs))→Option (Bool))(a0:p6w)(r9d:Int)(w1t:Bs)(w1u:(List Bs))(w1v:(List p6w))(w1w:(List Bs))(w1x:(List Bs))(w1y:(List Bs))(w1z:Int)(w1A:Bs)(w1B:(List Bs))(u4y:(List p6w))(m3:(List (Bs×(List Bs))))(r9e:(List Bs))(r9Y:(List Bs)):Option (Bool):=
 (r5m a0 r9Y r9d w1t w1u w1v w1w w1x w1y w1z w1A w1B u4y m3 r9e).bind fun v1=>
 some v1
def r6x(r5m:(p6w)→((List Bs))→(Int)→(Bs)→((List Bs))→((List p6w))→((List Bs))→((List Bs))→((List Bs))→(Int)→(Bs)→((List Bs))→((List p6w))→((List (Bs×(List Bs))))→((List Bs))→Option (Bool))(a0:(List p6w))(r9d:Int)(w1t:Bs)(w1u:(List Bs))(w1v:(List p6w))(w1w:(List Bs))(w1x:(List Bs))(w1y:(List Bs))(w1z:Int)(w1A:Bs)(w1B:(List Bs))(u4y:(List p6w))(m3:(List (Bs×(List Bs))))(r9e:(List Bs))(r9Y:(List Bs))(k0:Nat)(s0:Unit):Option (Ctl (Int) (Unit) (Unit)):=
 (u1f r5m (get a0 k0) r9d w1t w1u w1v w1w w1x w1y w1z w1A w1B u4y m3 r9e r9Y).bind fun v1=>
 bif v1 then
  some (.ret (↑k0:Int))
 else
  some (.nxt ())
def r6y(t0:Unit):Option (Int):=
 some (-1)
def r7e(r5m:(p6w)→((List Bs))→(Int)→(Bs)→((List Bs))→((List p6w))→((List Bs))→((List Bs))→((List Bs))→(Int)→(Bs)→((List Bs))→((List p6w))→((List (Bs×(List Bs))))→((List Bs))→Option (Bool))(a0:(List p6w))(r9d:Int)(w1t:Bs)(w1u:(List Bs))(w1v:(List p6w))(w1w:(List Bs))(w1x:(List Bs))(w1y:(List Bs))(w1z:Int)(w1A:Bs)(w1B:(List Bs))(u4y:(List p6w))(m3:(List (Bs×(List Bs))))(r9e:(List Bs))(r9Y:(List Bs)):Option (Int):=
 r5r (r5J (r6x r5m a0 r9d w1t w1u w1v w1w w1x w1y w1z w1A w1B u4y m3 r9e r9Y) a0.length ()) (r6y)
def r6w(r5m:(p6w)→((List Bs))→(Int)→(Bs)→((List Bs))→((List p6w))→((List Bs))→((List Bs))→((List Bs))→(Int)→(Bs)→((List Bs))→((List p6w))→((List (Bs×(List Bs))))→((List Bs))→Option (Bool))(a0:(List p6w))(r9d:Int)(w1t:Bs)(w1u:(List Bs))(w1v:(List p6w))(w1w:(List Bs))(w1x:(List Bs))(w1y:(List Bs))(w1z:Int)(w1A:Bs)(w1B:(List Bs))(u4y:(List p6w))(m3:(List (Bs×(List Bs))))(r9e:(List Bs))(r9Y:(List Bs)):Option (Bool):=
 (r7e r5m a0 r9d w1t w1u w1v w1w w1x w1y w1z w1A w1B u4y m3 r9e r9Y).bind fun v1=>
 some (decide (0≤v1))
def u0f(r9v:(List Bs))(a0:p6w)(a1:(List Bs))(k2:Nat)(s2:Unit):Option (Ctl (Bool) (Unit) (Unit)):=
 (r5e r9v (get a0.words k2)).bind fun v5=>
 (gd v5 (r5e a1 (get a0.words k2)) default).bind fun v6=>
 bif (bif v5 then(!v6)else false)then
  some (.ret true)
 else
  some (.nxt ())
def r7S(self:(p6w)→((List Bs))→(Int)→(Bs)→((List Bs))→((List p6w))→((List Bs))→((List Bs))→((List Bs))→(Int)→(Bs)→((List Bs))→((List p6w))→((List (Bs×(List Bs))))→((List Bs))→Option (Bool))(a0:p6w)(r5q:Int)(r8I:Bs)(r8J:(List Bs))(r5T:(List p6w))(r8q:(List Bs))(r8y:(List Bs))(r8K:(List Bs))(u1n:Int)(u1o:Bs)(u1p:(List Bs))(r6R:(List p6w))(m2:(List (Bs×(List Bs))))(r9v:(List Bs))(j3:(List Bs)):Option (Bool):=
 (r6w self a0.subs r5q r8I r8J r5T r8q r8y r8K u1n u1o u1p r6R m2 r9v j3).bind fun v15=>
 some v15
def u0g(self:(p6w)→((List Bs))→(Int)→(Bs)→((List Bs))→((List p6w))→((List Bs))→((List Bs))→((List Bs))→(Int)→(Bs)→((List Bs))→((List p6w))→((List (Bs×(List Bs))))→((List Bs))→Option (Bool))(a0:p6w)(a1:(List Bs))(r5q:Int)(r8I:Bs)(r8J:(List Bs))(r5T:(List p6w))(r8q:(List Bs))(r8y:(List Bs))(r8K:(List Bs))(u1n:Int)(u1o:Bs)(u1p:(List Bs))(r6R:(List p6w))(m2:(List (Bs×(List Bs))))(r9v:(List Bs))(t2:Unit):Option (Bool):=
 (r5A a0).bind fun v7=>
 bif v7 then
  (r5E a1 []).bind fun v8=>
  r9F (v8++[a0.name]) fun c10=>
  chk (c10.length*16≤top∧c10.length≤top) <|
  r7S self a0 r5q r8I r8J r5T r8q r8y r8K u1n u1o u1p r6R m2 r9v c10
 else
  r7S self a0 r5q r8I r8J r5T r8q r8y r8K u1n u1o u1p r6R m2 r9v a1
def r7R(self:(p6w)→((List Bs))→(Int)→(Bs)→((List Bs))→((List p6w))→((List Bs))→((List Bs))→((List Bs))→(Int)→(Bs)→((List Bs))→((List p6w))→((List (Bs×(List Bs))))→((List Bs))→Option (Bool))(r9v:(List Bs))(a0:p6w)(a1:(List Bs))(r5q:Int)(r8I:Bs)(r8J:(List Bs))(r5T:(List p6w))(r8q:(List Bs))(r8y:(List Bs))(r8K:(List Bs))(u1n:Int)(u1o:Bs)(u1p:(List Bs))(r6R:(List p6w))(m2:(List (Bs×(List Bs))))(j0:Unit):Option (Bool):=
 r5r (r5J (u0f r9v a0 a1) a0.words.length ()) (u0g self a0 a1 r5q r8I r8J r5T r8q r8y r8K u1n u1o u1p r6R m2 r9v)
def u0h(a1:(List Bs))(a0:p6w)(m2:(List (Bs×(List Bs))))(k1:Nat)(s1:Unit):Option (Ctl (Bool) (Unit) (Unit)):=
 (r5e a1 (get ((assoc a0.name m2).getD default) k1)).bind fun v2=>
 bif (!v2)then
  some (.ret true)
 else
  some (.nxt ())
def u0i(self:(p6w)→((List Bs))→(Int)→(Bs)→((List Bs))→((List p6w))→((List Bs))→((List Bs))→((List Bs))→(Int)→(Bs)→((List Bs))→((List p6w))→((List (Bs×(List Bs))))→((List Bs))→Option (Bool))(r9v:(List Bs))(a0:p6w)(a1:(List Bs))(r5q:Int)(r8I:Bs)(r8J:(List Bs))(r5T:(List p6w))(r8q:(List Bs))(r8y:(List Bs))(r8K:(List Bs))(u1n:Int)(u1o:Bs)(u1p:(List Bs))(r6R:(List p6w))(m2:(List (Bs×(List Bs))))(t1:Unit):Option (Bool):=
 r7R self r9v a0 a1 r5q r8I r8J r5T r8q r8y r8K u1n u1o u1p r6R m2 ()
def r5K:Nat→(p6w)→((List Bs))→(Int)→(Bs)→((List Bs))→((List p6w))→((List Bs))→((List Bs))→((List Bs))→(Int)→(Bs)→((List Bs))→((List p6w))→((List (Bs×(List Bs))))→((List Bs))→Option (Bool)
 |0,_,_,_,_,_,_,_,_,_,_,_,_,_,_,_=>none
 |n+1,a0,a1,r5q,r8I,r8J,r5T,r8q,r8y,r8K,u1n,u1o,u1p,r6R,m2,r9v=>
  (r7d (r5b.mk (p6w.mk r5q r8I r8J r5T) r8q r8y r8K) a0).bind fun v1=>
  bif v1 then
   r5r (r5J (u0h a1 a0 m2) (((assoc a0.name m2).getD default).length) ()) (u0i (r5K n) r9v a0 a1 r5q r8I r8J r5T r8q r8y r8K u1n u1o u1p r6R m2)
  else
   r7R (r5K n) r9v a0 a1 r5q r8I r8J r5T r8q r8y r8K u1n u1o u1p r6R m2 ()
def u0N(n:Nat)(a0:r4V):Option (Bool):=
 (u1A n a0.from_).bind fun v1=>
 (r5s n a0.from_.form).bind fun v2=>
 (r5K n a0.to_ [] a0.from_.form.kind a0.from_.form.name a0.from_.form.words a0.from_.form.subs a0.from_.words a0.from_.r5o a0.from_.parts a0.to_.kind a0.to_.name a0.to_.words a0.to_.subs v1 v2).bind fun v3=>
 some v3
def u0k(v27:(List Bs))(a0:(List r4V))(k0:Nat)(k2:Nat)(s2:Unit):Option (Ctl (Ctl (r5d) (Unit) (Unit)) (Unit) (Unit)):=
 chk (0≤(↑k2:Int)∧k2≤v27.length) <|
 (r5e (v27.take k2) (get v27 k2)).bind fun v35=>
 (gd (!v35) (r5e ((get a0 k0).from_.words) (get v27 k2)) default).bind fun v36=>
 bif (bif v35 then true else v36)then
  (r6t 7 (↑k0:Int)).bind fun v37=>
  some (.ret (.ret v37))
 else
  some (.nxt ())
def u0l(n:Nat)(a0:(List r4V))(k0:Nat)(t2:Unit):Option (Ctl (r5d) (Unit) (Unit)):=
 (u0N n (get a0 k0)).bind fun v38=>
 bif v38 then
  (r6t 15 (↑k0:Int)).bind fun v39=>
  some (.ret v39)
 else
  some (.nxt ())
def u0j(n:Nat)(a0:(List r4V))(k0:Nat)(s0:Unit):Option (Ctl (r5d) (Unit) (Unit)):=
 (r9Q n ((get a0 k0).from_)).bind fun v21=>
 bif (!decide (v21.code=0))then
  (r6t v21.code (↑k0:Int)).bind fun v22=>
  some (.ret v22)
 else
  (r7d ((get a0 k0).from_) ((get a0 k0).from_.form)).bind fun v23=>
  bif v23 then
   (r6t 5 (↑k0:Int)).bind fun v24=>
   some (.ret v24)
  else
   (r8V n ((get a0 k0).to_)).bind fun v25=>
   bif (!decide (v25.code=0))then
    (r6t v25.code (↑k0:Int)).bind fun v26=>
    some (.ret v26)
   else
    (r5s n ((get a0 k0).to_)).bind fun v27=>
    r5r (r5J (u0k v27 a0 k0) v27.length ()) (u0l n a0 k0)
def u0m(t0:Unit):Option (r5d):=
 some (r5d.mk 0 0)
def r9m(n:Nat)(a0:(List r4V)):Option (r5d):=
 bif (decide (40<(↑a0.length:Int)))then
  (r6t 2 (-1)).bind fun v1=>
  some v1
 else
  r5r (r5J (u0j n a0) a0.length ()) (u0m)
def u3Q(n:Nat)(a0:(List r4V))(a1:p6w):Option (r5d):=
 (r9m n a0).bind fun v1=>
 bif (!decide (v1.code=0))then
  some v1
 else
  (r8V n a1).bind fun v2=>
  some v2
def u0O(r5q:(List r4V))(r5T:Int)(m1:(List (Bs×Int)))(l2:(List r4W)):Option (Bs×Int):=
 (itoa (wr .i64 (r5T+1))).bind fun v1=>
 chk (u1M [63] v1) <|
 some ((w1q [63] v1),(wr .i64 (r5T+1)))
def u0P(a1:p6w)(m3:(List (Bs×Bs)))(k0:Nat)(s0:(List Bs)):Option (Ctl (p6w×Int) ((List Bs)) ((List Bs))):=
 bif (assoc (get a1.words k0) m3).isSome then
  r9F (s0++[((assoc (get a1.words k0) m3).getD default)]) fun c14=>
  chk (c14.length*16≤top∧c14.length≤top) <|
  some (.nxt c14)
 else
  r9F (s0++[(get a1.words k0)]) fun c20=>
  chk (c20.length*16≤top∧c20.length≤top) <|
  some (.nxt c20)
def u0Q(self:(p6w)→((List r4V))→(Int)→((List (Bs×Int)))→((List r4W))→((List (Bs×Bs)))→Option (p6w×Int))(a1:p6w)(r5q:(List r4V))(m1:(List (Bs×Int)))(l2:(List r4W))(c27:(List (Bs×Bs)))(k1:Nat)(s1:Int×(List p6w)):Option (Ctl (p6w×Int) (Int×(List p6w)) (Int×(List p6w))):=
 (self (get a1.subs k1) r5q s1.1 m1 l2 c27).bind fun v36=>
 r9F (s1.2++[v36.1]) fun c38=>
 chk (c38.length*72≤top∧c38.length≤top) <|
 some (.nxt (v36.2,c38))
def u0R(a1:p6w)(v26:Bs×Int)(t0:(List Bs))(t1:Int×(List p6w)):Option (p6w×Int):=
 some ((p6w.mk a1.kind v26.1 t0 t1.2),t1.1)
def u0S(self:(p6w)→((List r4V))→(Int)→((List (Bs×Int)))→((List r4W))→((List (Bs×Bs)))→Option (p6w×Int))(a1:p6w)(r5q:(List r4V))(m1:(List (Bs×Int)))(l2:(List r4W))(m3:(List (Bs×Bs)))(k2:Nat)(s2:Int×(List p6w)):Option (Ctl (p6w×Int) (Int×(List p6w)) (Int×(List p6w))):=
 (self (get a1.subs k2) r5q s2.1 m1 l2 m3).bind fun v50=>
 r9F (s2.2++[v50.1]) fun c52=>
 chk (c52.length*72≤top∧c52.length≤top) <|
 some (.nxt (v50.2,c52))
def u0T(a1:p6w)(t0:(List Bs))(t2:Int×(List p6w)):Option (p6w×Int):=
 some ((p6w.mk a1.kind a1.name t0 t2.2),t2.1)
def u0U(self:(p6w)→((List r4V))→(Int)→((List (Bs×Int)))→((List r4W))→((List (Bs×Bs)))→Option (p6w×Int))(a1:p6w)(r5q:(List r4V))(r5T:Int)(m1:(List (Bs×Int)))(l2:(List r4W))(m3:(List (Bs×Bs)))(t0:(List Bs)):Option (p6w×Int):=
 (r5A a1).bind fun v25=>
 bif v25 then
  (u0O r5q r5T m1 l2).bind fun v26=>
  r9F (r5j a1.name v26.1 m3) fun c27=>
  r5r (r5J (u0Q self a1 r5q m1 l2 c27) a1.subs.length (v26.2,[])) (u0R a1 v26 t0)
 else
  r5r (r5J (u0S self a1 r5q m1 l2 m3) a1.subs.length (r5T,[])) (u0T a1 t0)
def r7y:Nat→(p6w)→((List r4V))→(Int)→((List (Bs×Int)))→((List r4W))→((List (Bs×Bs)))→Option (p6w×Int)
 |0,_,_,_,_,_,_=>none
 |n+1,a1,r5q,r5T,m1,l2,m3=>
  r5r (r5J (u0P a1 m3) a1.words.length []) (u0U (r7y n) a1 r5q r5T m1 l2 m3)
def u1P(a1:p6w)(k0:Nat)(s0:(List Bs)):Option (Ctl (p6w×Int) ((List Bs)) ((List Bs))):=
 bif false then
  r9F (s0++[([]:Bs)]) fun c14=>
  chk (c14.length*16≤top∧c14.length≤top) <|
  some (.nxt c14)
 else
  r9F (s0++[(get a1.words k0)]) fun c20=>
  chk (c20.length*16≤top∧c20.length≤top) <|
  some (.nxt c20)
def u1Q(n:Nat)(a1:p6w)(r5q:(List r4V))(m1:(List (Bs×Int)))(l2:(List r4W))(c27:(List (Bs×Bs)))(k1:Nat)(s1:Int×(List p6w)):Option (Ctl (p6w×Int) (Int×(List p6w)) (Int×(List p6w))):=
 (r7y n (get a1.subs k1) r5q s1.1 m1 l2 c27).bind fun v37=>
 r9F (s1.2++[v37.1]) fun c39=>
 chk (c39.length*72≤top∧c39.length≤top) <|
 some (.nxt (v37.2,c39))
def u1R(a1:p6w)(v26:Bs×Int)(t0:(List Bs))(t1:Int×(List p6w)):Option (p6w×Int):=
 some ((p6w.mk a1.kind v26.1 t0 t1.2),t1.1)
def u1S(self:(p6w)→((List r4V))→(Int)→((List (Bs×Int)))→((List r4W))→Option (p6w×Int))(a1:p6w)(r5q:(List r4V))(m1:(List (Bs×Int)))(l2:(List r4W))(k2:Nat)(s2:Int×(List p6w)):Option (Ctl (p6w×Int) (Int×(List p6w)) (Int×(List p6w))):=
 (self (get a1.subs k2) r5q s2.1 m1 l2).bind fun v51=>
 r9F (s2.2++[v51.1]) fun c53=>
 chk (c53.length*72≤top∧c53.length≤top) <|
 some (.nxt (v51.2,c53))
def u1T(a1:p6w)(t0:(List Bs))(t2:Int×(List p6w)):Option (p6w×Int):=
 some ((p6w.mk a1.kind a1.name t0 t2.2),t2.1)
def u1U(self:(p6w)→((List r4V))→(Int)→((List (Bs×Int)))→((List r4W))→Option (p6w×Int))(n:Nat)(a1:p6w)(r5q:(List r4V))(r5T:Int)(m1:(List (Bs×Int)))(l2:(List r4W))(t0:(List Bs)):Option (p6w×Int):=
 (r5A a1).bind fun v25=>
 bif v25 then
  (u0O r5q r5T m1 l2).bind fun v26=>
  r9F (r5j a1.name v26.1 []) fun c27=>
  r5r (r5J (u1Q n a1 r5q m1 l2 c27) a1.subs.length (v26.2,[])) (u1R a1 v26 t0)
 else
  r5r (r5J (u1S self a1 r5q m1 l2) a1.subs.length (r5T,[])) (u1T a1 t0)
def r9n:Nat→(p6w)→((List r4V))→(Int)→((List (Bs×Int)))→((List r4W))→Option (p6w×Int)
 |0,_,_,_,_,_=>none
 |n+1,a1,r5q,r5T,m1,l2=>
  r5r (r5J (u1P a1) a1.words.length []) (u1U (r9n n) n a1 r5q r5T m1 l2)
def u1q(self:(p6w)→(Bs)→((List r4V))→(Int)→((List (Bs×Int)))→((List r4W))→Option ((List (Bs×Int))))(a2:Bs)(a1:p6w)(r5q:(List r4V))(r5T:Int)(l2:(List r4W))(k0:Nat)(s0:(List (Bs×Int))):Option (Ctl ((List (Bs×Int))) ((List (Bs×Int))) ((List (Bs×Int)))):=
 (itoa (↑k0:Int)).bind fun v6=>
 chk (u1M a2 v6) <|
 (self (get a1.subs k0) (w1q a2 v6) r5q r5T s0 l2).bind fun v8=>
 some (.nxt v8)
def u1r(t0:(List (Bs×Int))):Option ((List (Bs×Int))):=
 some t0
def r9V:Nat→(p6w)→(Bs)→((List r4V))→(Int)→((List (Bs×Int)))→((List r4W))→Option ((List (Bs×Int)))
 |0,_,_,_,_,_,_=>none
 |n+1,a1,a2,r5q,r5T,m1,l2=>
  r9F (r5j a2 (↑m1.length:Int) m1) fun c1=>
  r5r (r5J (u1q (r9V n) a2 a1 r5q r5T l2) a1.subs.length c1) (u1r)
def u1V(a1:(List Bs))(a0:p6w)(r8q:(List Bs))(k0:Nat)(s0:(List Bs)):Option (Ctl (p6w) ((List Bs)) ((List Bs))):=
 (r5e a1 (get a0.words k0)).bind fun v23=>
 bif v23 then
  chk (u1M [63] (get a0.words k0)) <|
  r9F (s0++[(w1q [63] (get a0.words k0))]) fun c26=>
  chk (c26.length*16≤top∧c26.length≤top) <|
  some (.nxt c26)
 else
  (r5e r8q (get a0.words k0)).bind fun v31=>
  bif v31 then
   chk (u1M [46] (get a0.words k0)) <|
   r9F (s0++[(w1q [46] (get a0.words k0))]) fun c34=>
   chk (c34.length*16≤top∧c34.length≤top) <|
   some (.nxt c34)
  else
   r9F (s0++[(get a0.words k0)]) fun c40=>
   chk (c40.length*16≤top∧c40.length≤top) <|
   some (.nxt c40)
def u1W(self:(p6w)→((List Bs))→(Int)→(Bs)→((List Bs))→((List p6w))→((List Bs))→((List Bs))→((List Bs))→Option (p6w))(a0:p6w)(j1:Bs×(List Bs))(r5q:Int)(r8I:Bs)(r8J:(List Bs))(r5T:(List p6w))(r8q:(List Bs))(r8y:(List Bs))(r8K:(List Bs))(k2:Nat)(s2:(List p6w)):Option (Ctl (p6w) ((List p6w)) ((List p6w))):=
 (self (get a0.subs k2) j1.2 r5q r8I r8J r5T r8q r8y r8K).bind fun v65=>
 r9F (s2++[v65]) fun c67=>
 chk (c67.length*72≤top∧c67.length≤top) <|
 some (.nxt c67)
def u1X(a0:p6w)(j1:Bs×(List Bs))(t0:(List Bs))(t2:(List p6w)):Option (p6w):=
 some (p6w.mk a0.kind j1.1 t0 t2)
def r7T(self:(p6w)→((List Bs))→(Int)→(Bs)→((List Bs))→((List p6w))→((List Bs))→((List Bs))→((List Bs))→Option (p6w))(a0:p6w)(r5q:Int)(r8I:Bs)(r8J:(List Bs))(r5T:(List p6w))(r8q:(List Bs))(r8y:(List Bs))(r8K:(List Bs))(t0:(List Bs))(j1:Bs×(List Bs)):Option (p6w):=
 r5r (r5J (u1W self a0 j1 r5q r8I r8J r5T r8q r8y r8K) a0.subs.length []) (u1X a0 j1 t0)
def u1Y(self:(p6w)→((List Bs))→(Int)→(Bs)→((List Bs))→((List p6w))→((List Bs))→((List Bs))→((List Bs))→Option (p6w))(a0:p6w)(a1:(List Bs))(r5q:Int)(r8I:Bs)(r8J:(List Bs))(r5T:(List p6w))(r8q:(List Bs))(r8y:(List Bs))(r8K:(List Bs))(t0:(List Bs)):Option (p6w):=
 (r5A a0).bind fun v45=>
 bif v45 then
  (r5E a1 []).bind fun v46=>
  r9F (v46++[a0.name]) fun c48=>
  chk (c48.length*16≤top∧c48.length≤top) <|
  chk (u1M [63] a0.name) <|
  r7T self a0 r5q r8I r8J r5T r8q r8y r8K t0 ((w1q [63] a0.name),c48)
 else
  (r7d (r5b.mk (p6w.mk r5q r8I r8J r5T) r8q r8y r8K) a0).bind fun v54=>
  bif v54 then
   chk (u1M [43] a0.name) <|
   r7T self a0 r5q r8I r8J r5T r8q r8y r8K t0 ((w1q [43] a0.name),a1)
  else
   (gd (decide (a0.kind=2)) (r5e r8y a0.name) default).bind fun v56=>
   bif (bif (decide (a0.kind=2))then v56 else false)then
    chk (u1M [33] a0.name) <|
    r7T self a0 r5q r8I r8J r5T r8q r8y r8K t0 ((w1q [33] a0.name),a1)
   else
    r7T self a0 r5q r8I r8J r5T r8q r8y r8K t0 (a0.name,a1)
def r8r:Nat→(p6w)→((List Bs))→(Int)→(Bs)→((List Bs))→((List p6w))→((List Bs))→((List Bs))→((List Bs))→Option (p6w)
 |0,_,_,_,_,_,_,_,_,_=>none
 |n+1,a0,a1,r5q,r8I,r8J,r5T,r8q,r8y,r8K=>
  r5r (r5J (u1V a1 a0 r8q) a0.words.length []) (u1Y (r8r n) a0 a1 r5q r8I r8J r5T r8q r8y r8K)
def u1Z(a0:Bs)(a1:(List Bs))(k0:Nat)(s0:(List Bs)):Option (Ctl ((List Bs)) ((List Bs)) ((List Bs))):=
 chk (u1M a0 (get a1 k0)) <|
 r9F (s0++[(w1q a0 (get a1 k0))]) fun c10=>
 chk (c10.length*16≤top∧c10.length≤top) <|
 some (.nxt c10)
def u2a(t0:(List Bs)):Option ((List Bs)):=
 some t0
def u0v(a0:Bs)(a1:(List Bs)):Option ((List Bs)):=
 r5r (r5J (u1Z a0 a1) a1.length []) (u2a)
def u4k(n:Nat)(a0:r5b):Option (r5b):=
 (r8r n a0.form [] a0.form.kind a0.form.name a0.form.words a0.form.subs a0.words a0.r5o a0.parts).bind fun v1=>
 (u0v [46] a0.words).bind fun v2=>
 (u0v [33] a0.r5o).bind fun v3=>
 (u0v [43] a0.parts).bind fun v4=>
 some (r5b.mk v1 v2 v3 v4)
def r7K(a1:(List Bs))(a0:(List Bs))(k0:Nat)(s0:Unit):Option (Ctl (Bool) (Unit) (Unit)):=
 chk ((↑k0:Int)<(↑a1.length:Int)) <|
 bif (!decide ((get a0 k0)=(get a1 k0)))then
  some (.ret false)
 else
  some (.nxt ())
def r7L(t0:Unit):Option (Bool):=
 some true
def r6K(a0:(List Bs))(a1:(List Bs)):Option (Bool):=
 bif (!decide ((↑a0.length:Int)=(↑a1.length:Int)))then
  some false
 else
  r5r (r5J (r7K a1 a0) a0.length ()) (r7L)
def u3k(self:(p6w)→(p6w)→Option (Bool))(a1:p6w)(a0:p6w)(k0:Nat)(s0:Unit):Option (Ctl (Bool) (Unit) (Unit)):=
 chk ((↑k0:Int)<(↑a1.subs.length:Int)) <|
 (self (get a0.subs k0) (get a1.subs k0)).bind fun v4=>
 bif (!v4)then
  some (.ret false)
 else
  some (.nxt ())
def u3l(t0:Unit):Option (Bool):=
 some true
def u1O:Nat→(p6w)→(p6w)→Option (Bool)
 |0,_,_=>none
 |n+1,a0,a1=>
  (gd (!(bif (!decide (a0.kind=a1.kind))then true else(!decide (a0.name=a1.name)))) (r6K a0.words a1.words) default).bind fun v1=>
  bif (bif (bif (bif (!decide (a0.kind=a1.kind))then true else(!decide (a0.name=a1.name)))then true else(!v1))then true else(!decide ((↑a0.subs.length:Int)=(↑a1.subs.length:Int))))then
   some false
  else
   chk (a0.subs.length≤9223372036854775807) <|
   r5r (r5J (u3k (u1O n) a1 a0) a0.subs.length ()) (u3l)
def r8W(a1:Bs)(a2:Bs)(m0:(List (Bs×r4Y))):Option (Bool×(List (Bs×r4Y))):=
 bif (assoc a1 m0).isSome then
  some ((decide ((((assoc a1 m0).getD default).text)=a2)),m0)
 else
  r9F (r5j a1 (r4Y.mk a1 a2 (p6w.mk 0 [] [] [])) m0) fun c1=>
  some (true,c1)
def r9R(a1:p6w)(a0:r5b)(a2:p6w)(k2:Nat)(s2:(List (Bs×r4Y))):Option (Ctl (Bool×(List (Bs×r4Y))) ((List (Bs×r4Y))) ((List (Bs×r4Y)))):=
 (gd (!(assoc (get a1.words k2) s2).isSome) (r5e a0.words (get a1.words k2)) default).bind fun v12=>
 bif (bif (assoc (get a1.words k2) s2).isSome then true else v12)then
  chk ((↑k2:Int)<(↑a2.words.length:Int)) <|
  (r8W (get a1.words k2) (get a2.words k2) s2).bind fun v14=>
  bif (!v14.1)then
   some (.ret (false,v14.2))
  else
   some (.nxt v14.2)
 else
  chk ((↑k2:Int)<(↑a2.words.length:Int)) <|
  bif (!decide ((get a1.words k2)=(get a2.words k2)))then
   some (.ret (false,s2))
  else
   some (.nxt s2)
def r9T(self:(r5b)→(p6w)→(p6w)→((List (Bs×r4Y)))→Option (Bool×(List (Bs×r4Y))))(a2:p6w)(a0:r5b)(a1:p6w)(k3:Nat)(s3:(List (Bs×r4Y))):Option (Ctl (Bool×(List (Bs×r4Y))) ((List (Bs×r4Y))) ((List (Bs×r4Y)))):=
 chk ((↑k3:Int)<(↑a2.subs.length:Int)) <|
 (self a0 (get a1.subs k3) (get a2.subs k3) s3).bind fun v19=>
 bif (!v19.1)then
  some (.ret (false,v19.2))
 else
  some (.nxt v19.2)
def r9U(t3:(List (Bs×r4Y))):Option (Bool×(List (Bs×r4Y))):=
 some (true,t3)
def r9S(self:(r5b)→(p6w)→(p6w)→((List (Bs×r4Y)))→Option (Bool×(List (Bs×r4Y))))(a2:p6w)(a0:r5b)(a1:p6w)(t2:(List (Bs×r4Y))):Option (Bool×(List (Bs×r4Y))):=
 r5r (r5J (r9T self a2 a0 a1) a1.subs.length t2) (r9U)
def r7j(self:(r5b)→(p6w)→(p6w)→((List (Bs×r4Y)))→Option (Bool×(List (Bs×r4Y))))(a1:p6w)(a0:r5b)(a2:p6w)(j1:(List (Bs×r4Y))):Option (Bool×(List (Bs×r4Y))):=
 r5r (r5J (r9R a1 a0 a2) a1.words.length j1) (r9S self a2 a0 a1)
def r6n(self:(r5b)→(p6w)→(p6w)→((List (Bs×r4Y)))→Option (Bool×(List (Bs×r4Y))))(a1:p6w)(a2:p6w)(m0:(List (Bs×r4Y)))(a0:r5b)(j0:Bool):Option (Bool×(List (Bs×r4Y))):=
 bif j0 then
  (r8W a1.name a2.name m0).bind fun v7=>
  bif (!v7.1)then
   some (false,v7.2)
  else
   r7j self a1 a0 a2 v7.2
 else
  bif (!decide (a1.name=a2.name))then
   some (false,m0)
  else
   r7j self a1 a0 a2 m0
def r5I:Nat→(r5b)→(p6w)→(p6w)→((List (Bs×r4Y)))→Option (Bool×(List (Bs×r4Y)))
 |0,_,_,_,_=>none
 |n+1,a0,a1,a2,m0=>
  (r7d a0 a1).bind fun v1=>
  bif v1 then
   bif (assoc a1.name m0).isSome then
    (u1O n (((assoc a1.name m0).getD default).form) a2).bind fun v2=>
    some (v2,m0)
   else
    r9F (r5j a1.name (r4Y.mk a1.name [] a2) m0) fun c3=>
    some (true,c3)
  else
   bif (bif (!decide (a1.kind=a2.kind))then true else(!decide ((↑a1.words.length:Int)=(↑a2.words.length:Int))))then
    some (false,m0)
   else
    (r5A a1).bind fun v5=>
    bif v5 then
     r6n (r5I n) a1 a2 m0 a0 v5
    else
     (gd (decide (a1.kind=2)) (r5e a0.r5o a1.name) default).bind fun v6=>
     r6n (r5I n) a1 a2 m0 a0 (bif (decide (a1.kind=2))then v6 else false)
def r8L(a1:Bs)(l0:(List Bs))(k0:Nat)(s0:Unit):Option (Ctl (Int) (Unit) (Unit)):=
 bif (decide (a1=(get l0 k0)))then
  some (.ret (↑k0:Int))
 else
  some (.nxt ())
def r8M(t0:Unit):Option (Int):=
 some (-1)
def r9x(a1:Bs)(l0:(List Bs)):Option (Int):=
 chk (l0.length≤9223372036854775807) <|
 r5r (r5J (r8L a1 l0) l0.length ()) (r8M)
def r8N(a1:Bs)(l0:(List Bs)):Option (Bool):=
 (r9x a1 l0).bind fun v1=>
 some (decide (0≤v1))
def u4l(self:(p6w)→Option (p6w))(a0:p6w)(k0:Nat)(s0:(List p6w)):Option (Ctl (p6w) ((List p6w)) ((List p6w))):=
 (self (get a0.subs k0)).bind fun v9=>
 r9F (s0++[v9]) fun c11=>
 chk (c11.length*72≤top∧c11.length≤top) <|
 some (.nxt c11)
def u4m(a0:p6w)(v1:(List Bs))(t0:(List p6w)):Option (p6w):=
 some (p6w.mk a0.kind a0.name v1 t0)
def u3t:Nat→(p6w)→Option (p6w)
 |0,_=>none
 |n+1,a0=>
  (u0o a0.words).bind fun v1=>
  r5r (r5J (u4l (u3t n) a0) a0.subs.length []) (u4m a0 v1)
def u3B(v3:(List Bs))(v2:Bool×(List (Bs×r4Y)))(k0:Nat)(s0:(List Bs)):Option (Ctl ((List r4Y)×Bool) ((List Bs)) ((List Bs))):=
 r9F (s0++[((assoc (get v3 k0) v2.2).getD default).text]) fun c11=>
 chk (c11.length*16≤top∧c11.length≤top) <|
 some (.nxt c11)
def u3C(n:Nat)(v1:r5b)(v19:(List Bs))(v2:Bool×(List (Bs×r4Y)))(t0:(List Bs))(k1:Nat)(s1:(List r4Y)):Option (Ctl ((List r4Y)×Bool) ((List r4Y)) ((List r4Y))):=
 (r5e v1.words (get v19 k1)).bind fun v38=>
 (gd v38 (r8N (((assoc (get v19 k1) v2.2).getD default).text) t0) (default:Bool)).bind fun v39=>
 bif (bif v38 then v39 else false)then
  some (.ret ([],false))
 else
  chk (0≤1∧1≤(get v19 k1).length) <|
  (r5e v1.parts (get v19 k1)).bind fun v42=>
  bif v42 then
   (u3t n (((assoc (get v19 k1) v2.2).getD default).form)).bind fun v43=>
   r9F (s1++[(r4Y.mk ((get v19 k1).drop 1) (((assoc (get v19 k1) v2.2).getD default).text) v43)]) fun c45=>
   chk (c45.length*104≤top∧c45.length≤top) <|
   some (.nxt c45)
  else
   r9F (s1++[(r4Y.mk ((get v19 k1).drop 1) (((assoc (get v19 k1) v2.2).getD default).text) (((assoc (get v19 k1) v2.2).getD default).form))]) fun c51=>
   chk (c51.length*104≤top∧c51.length≤top) <|
   some (.nxt c51)
def u3D(t1:(List r4Y)):Option ((List r4Y)×Bool):=
 some (t1,true)
def u3E(n:Nat)(v1:r5b)(v2:Bool×(List (Bs×r4Y)))(t0:(List Bs)):Option ((List r4Y)×Bool):=
 (r9t v1).bind fun v16=>
 (r5s n v1.form).bind fun v17=>
 (w3e [v16,v17]).bind fun v19=>
 r5r (r5J (u3C n v1 v19 v2 t0) v19.length []) (u3D)
def u5N(n:Nat)(a0:r5b)(a1:p6w):Option ((List r4Y)×Bool):=
 (u4k n a0).bind fun v1=>
 (r5I n v1 v1.form a1 []).bind fun v2=>
 bif (!v2.1)then
  some ([],false)
 else
  (r5s n v1.form).bind fun v3=>
  r5r (r5J (u3B v3 v2) v3.length []) (u3E n v1 v2)
def u2z(a0:(List r4Y))(a1:Bs)(k0:Nat)(s0:Unit):Option (Ctl (Bs) (Unit) (Unit)):=
 bif (decide (((get a0 k0).name)=a1))then
  some (.ret ((get a0 k0).text))
 else
  some (.nxt ())
def u2A(a1:Bs)(t0:Unit):Option (Bs):=
 some a1
def u0V(a0:(List r4Y))(a1:Bs):Option (Bs):=
 r5r (r5J (u2z a0 a1) a0.length ()) (u2A a1)
def u2R(self:(p6w)→(Bs)→((List (Bs×Bs)))→(Int)→(Bs)→((List Bs))→((List p6w))→((List Bs))→((List Bs))→((List Bs))→Option ((List (Bs×Bs))))(a1:Bs)(a0:p6w)(w3E:Int)(w3F:Bs)(w3G:(List Bs))(w3H:(List p6w))(w3I:(List Bs))(w3J:(List Bs))(w3K:(List Bs))(k1:Nat)(s1:(List (Bs×Bs))):Option (Ctl ((List (Bs×Bs))) ((List (Bs×Bs))) ((List (Bs×Bs)))):=
 (itoa (↑k1:Int)).bind fun v7=>
 chk (u1M a1 v7) <|
 (self (get a0.subs k1) (w1q a1 v7) s1 w3E w3F w3G w3H w3I w3J w3K).bind fun v9=>
 some (.nxt v9)
def u2S(t1:(List (Bs×Bs))):Option ((List (Bs×Bs))):=
 some t1
def u1g(self:(p6w)→(Bs)→((List (Bs×Bs)))→(Int)→(Bs)→((List Bs))→((List p6w))→((List Bs))→((List Bs))→((List Bs))→Option ((List (Bs×Bs))))(a1:Bs)(a0:p6w)(w3E:Int)(w3F:Bs)(w3G:(List Bs))(w3H:(List p6w))(w3I:(List Bs))(w3J:(List Bs))(w3K:(List Bs))(j0:(List (Bs×Bs))):Option ((List (Bs×Bs))):=
 r5r (r5J (u2R self a1 a0 w3E w3F w3G w3H w3I w3J w3K) a0.subs.length j0) (u2S)
def r9y:Nat→(p6w)→(Bs)→((List (Bs×Bs)))→(Int)→(Bs)→((List Bs))→((List p6w))→((List Bs))→((List Bs))→((List Bs))→Option ((List (Bs×Bs)))
 |0,_,_,_,_,_,_,_,_,_,_=>none
 |n+1,a0,a1,m1,w3E,w3F,w3G,w3H,w3I,w3J,w3K=>
  (gd (!(assoc a0.name m1).isSome) (r7d (r5b.mk (p6w.mk w3E w3F w3G w3H) w3I w3J w3K) a0) default).bind fun v1=>
  bif (bif (!(assoc a0.name m1).isSome)then v1 else false)then
   r9F (r5j a0.name a1 m1) fun c2=>
   u1g (r9y n) a1 a0 w3E w3F w3G w3H w3I w3J w3K c2
  else
   u1g (r9y n) a1 a0 w3E w3F w3G w3H w3I w3J w3K m1
def u5O(n:Nat)(a0:r5b):Option ((List (Bs×Bs))):=
 (r9y n a0.form [] [] a0.form.kind a0.form.name a0.form.words a0.form.subs a0.words a0.r5o a0.parts).bind fun v1=>
 some v1
def u4n(a0:(List r4Z))(k0:Nat)(s0:Int×Int):Option (Ctl (Int×Int×Bool) (Int×Int) (Int×Int)):=
 some (.nxt ((wr .i64 (s0.1+((get a0 k0).nodes))),(max s0.2 ((get a0 k0).depth))))
def u4o(t0:Int×Int):Option (Int×Int×Bool):=
 some (t0.1,(wr .i64 (t0.2+1)),(bif (decide (t0.1≤200))then(decide (t0.2<40))else false))
def u4O(a0:(List r4Z)):Option (Int×Int×Bool):=
 r5r (r5J (u4n a0) a0.length (1,0)) (u4o)
def u2B(r5l:(p6w)→(Bs)→((List r4V))→(Int)→((List (Bs×Int)))→((List r4W))→Option (r4Z×Bool×Int×(List r4W)))(r9v:(List r4Y))(r9e:Int)(r9Y:Int)(u5r:Int)(a0:p6w)(u1h:Bs)(m13:(List (Bs×Bs)))(u6Q:(List r4V))(m9:(List (Bs×Int)))(k0:Nat)(s0:Int×Int×Bs×(List Bs)×(List p6w)×Int×Int×(List r4W)×Bool):Option (Ctl (r4Z×Bool×Int×(List r4W)×(List (Bs×r4Z))) (Int×Int×Bs×(List Bs)×(List p6w)×Int×Int×(List r4W)×Bool) (Int×Int×Bs×(List Bs)×(List p6w)×Int×Int×(List r4W)×Bool)):=
 bif (decide (((get ((r9v.drop ((wr .i64 (r9e+r9Y)).toNat)).take ((wr .i64 ((wr .i64 (r9e+r9Y))+u5r)).toNat-(wr .i64 (r9e+r9Y)).toNat)) k0).name)=a0.name))then
  chk (u1M u1h ((assoc a0.name m13).getD default)) <|
  (r5l ((get ((r9v.drop ((wr .i64 (r9e+r9Y)).toNat)).take ((wr .i64 ((wr .i64 (r9e+r9Y))+u5r)).toNat-(wr .i64 (r9e+r9Y)).toNat)) k0).form) (w1q u1h ((assoc a0.name m13).getD default)) u6Q s0.1 m9 s0.2.2.2.2.2.2.2.1).bind fun v9=>
  some (.nxt (v9.2.2.1,v9.1.form.kind,v9.1.form.name,v9.1.form.words,v9.1.form.subs,v9.1.nodes,v9.1.depth,v9.2.2.2,v9.2.1))
 else
  some (.nxt (s0.1,s0.2.1,s0.2.2.1,s0.2.2.2.1,s0.2.2.2.2.1,s0.2.2.2.2.2.1,s0.2.2.2.2.2.2.1,s0.2.2.2.2.2.2.2.1,s0.2.2.2.2.2.2.2.2))
def u2C(a0:p6w)(m2:(List (Bs×r4Z)))(t0:Int×Int×Bs×(List Bs)×(List p6w)×Int×Int×(List r4W)×Bool):Option (r4Z×Bool×Int×(List r4W)×(List (Bs×r4Z))):=
 r9F (r5j a0.name (r4Z.mk (p6w.mk t0.2.1 t0.2.2.1 t0.2.2.2.1 t0.2.2.2.2.1) t0.2.2.2.2.2.1 t0.2.2.2.2.2.2.1) m2) fun c10=>
 some ((r4Z.mk (p6w.mk t0.2.1 t0.2.2.1 t0.2.2.2.1 t0.2.2.2.2.1) t0.2.2.2.2.2.1 t0.2.2.2.2.2.2.1),t0.2.2.2.2.2.2.2.2,t0.1,t0.2.2.2.2.2.2.2.1,c10)
def u2D(a1:(List Bs))(a0:p6w)(m15:(List (Bs×Bs)))(r9e:Int)(r9v:(List r4Y))(k1:Nat)(s1:(List Bs)):Option (Ctl (r4Z×Bool×Int×(List r4W)×(List (Bs×r4Z))) ((List Bs)) ((List Bs))):=
 (r5e a1 (get a0.words k1)).bind fun v28=>
 bif v28 then
  r9F (s1++[((assoc (get a0.words k1) m15).getD default)]) fun c30=>
  chk (c30.length*16≤top∧c30.length≤top) <|
  some (.nxt c30)
 else
  chk (0≤r9e∧r9e.toNat≤r9v.length) <|
  (u0V (r9v.take r9e.toNat) (get a0.words k1)).bind fun v37=>
  r9F (s1++[v37]) fun c39=>
  chk (c39.length*16≤top∧c39.length≤top) <|
  some (.nxt c39)
def u2E(self:(p6w)→((List Bs))→(Int)→(Bs)→((List Bs))→((List p6w))→((List Bs))→((List Bs))→((List Bs))→(Int)→(Bs)→((List Bs))→((List p6w))→((List (Bs×r4Z)))→((List r4Y))→(Int)→(Int)→(Int)→((List r4V))→(Int)→((List (Bs×Int)))→((List r4W))→(Bs)→((List (Bs×Bs)))→((List (Bs×Bs)))→Option (r4Z×Bool×Int×(List r4W)×(List (Bs×r4Z))))(a0:p6w)(j2:Bs×(List Bs))(r5q:Int)(r8I:Bs)(r8J:(List Bs))(r5T:(List p6w))(r8q:(List Bs))(r8y:(List Bs))(r8K:(List Bs))(u1n:Int)(u1o:Bs)(u1p:(List Bs))(r6R:(List p6w))(r9v:(List r4Y))(r9e:Int)(r9Y:Int)(u5r:Int)(u6Q:(List r4V))(m9:(List (Bs×Int)))(u1h:Bs)(m13:(List (Bs×Bs)))(m15:(List (Bs×Bs)))(k3:Nat)(s3:Int×(List r4W)×(List (Bs×r4Z))×(List r4Z)×(List p6w)):Option (Ctl (r4Z×Bool×Int×(List r4W)×(List (Bs×r4Z))) (Int×(List r4W)×(List (Bs×r4Z))×(List r4Z)×(List p6w)) (Int×(List r4W)×(List (Bs×r4Z))×(List r4Z)×(List p6w))):=
 (self (get a0.subs k3) j2.2 r5q r8I r8J r5T r8q r8y r8K u1n u1o u1p r6R s3.2.2.1 r9v r9e r9Y u5r u6Q s3.1 m9 s3.2.1 u1h m13 m15).bind fun v70=>
 bif (!v70.2.1)then
  some (.ret ((r4Z.mk (p6w.mk 0 [] [] []) 0 0),false,v70.2.2.1,v70.2.2.2.1,v70.2.2.2.2))
 else
  r9F (s3.2.2.2.1++[v70.1]) fun c72=>
  chk (c72.length*88≤top∧c72.length≤top) <|
  r9F (s3.2.2.2.2++[v70.1.form]) fun c78=>
  chk (c78.length*72≤top∧c78.length≤top) <|
  some (.nxt (v70.2.2.1,v70.2.2.2.1,v70.2.2.2.2,c72,c78))
def u2F(a0:p6w)(j2:Bs×(List Bs))(t1:(List Bs))(t3:Int×(List r4W)×(List (Bs×r4Z))×(List r4Z)×(List p6w)):Option (r4Z×Bool×Int×(List r4W)×(List (Bs×r4Z))):=
 (u4O t3.2.2.2.1).bind fun v83=>
 some ((r4Z.mk (p6w.mk a0.kind j2.1 t1 t3.2.2.2.2) v83.1 v83.2.1),v83.2.2,t3.1,t3.2.1,t3.2.2.1)
def r9u(self:(p6w)→((List Bs))→(Int)→(Bs)→((List Bs))→((List p6w))→((List Bs))→((List Bs))→((List Bs))→(Int)→(Bs)→((List Bs))→((List p6w))→((List (Bs×r4Z)))→((List r4Y))→(Int)→(Int)→(Int)→((List r4V))→(Int)→((List (Bs×Int)))→((List r4W))→(Bs)→((List (Bs×Bs)))→((List (Bs×Bs)))→Option (r4Z×Bool×Int×(List r4W)×(List (Bs×r4Z))))(a0:p6w)(r5q:Int)(r8I:Bs)(r8J:(List Bs))(r5T:(List p6w))(r8q:(List Bs))(r8y:(List Bs))(r8K:(List Bs))(u1n:Int)(u1o:Bs)(u1p:(List Bs))(r6R:(List p6w))(r9v:(List r4Y))(r9e:Int)(r9Y:Int)(u5r:Int)(u6Q:(List r4V))(m9:(List (Bs×Int)))(u1h:Bs)(m13:(List (Bs×Bs)))(m15:(List (Bs×Bs)))(u9u:Int)(l10:(List r4W))(m2:(List (Bs×r4Z)))(t1:(List Bs))(j2:Bs×(List Bs)):Option (r4Z×Bool×Int×(List r4W)×(List (Bs×r4Z))):=
 r5r (r5J (u2E self a0 j2 r5q r8I r8J r5T r8q r8y r8K u1n u1o u1p r6R r9v r9e r9Y u5r u6Q m9 u1h m13 m15) a0.subs.length (u9u,l10,m2,[],[])) (u2F a0 j2 t1)
def u2G(self:(p6w)→((List Bs))→(Int)→(Bs)→((List Bs))→((List p6w))→((List Bs))→((List Bs))→((List Bs))→(Int)→(Bs)→((List Bs))→((List p6w))→((List (Bs×r4Z)))→((List r4Y))→(Int)→(Int)→(Int)→((List r4V))→(Int)→((List (Bs×Int)))→((List r4W))→(Bs)→((List (Bs×Bs)))→((List (Bs×Bs)))→Option (r4Z×Bool×Int×(List r4W)×(List (Bs×r4Z))))(a0:p6w)(a1:(List Bs))(r5q:Int)(r8I:Bs)(r8J:(List Bs))(r5T:(List p6w))(r8q:(List Bs))(r8y:(List Bs))(r8K:(List Bs))(u1n:Int)(u1o:Bs)(u1p:(List Bs))(r6R:(List p6w))(r9v:(List r4Y))(r9e:Int)(r9Y:Int)(u5r:Int)(u6Q:(List r4V))(m9:(List (Bs×Int)))(u1h:Bs)(m13:(List (Bs×Bs)))(m15:(List (Bs×Bs)))(u9u:Int)(l10:(List r4W))(m2:(List (Bs×r4Z)))(t1:(List Bs)):Option (r4Z×Bool×Int×(List r4W)×(List (Bs×r4Z))):=
 (r5A a0).bind fun v44=>
 bif v44 then
  (r5E a1 []).bind fun v45=>
  r9F (v45++[a0.name]) fun c47=>
  chk (c47.length*16≤top∧c47.length≤top) <|
  r9u self a0 r5q r8I r8J r5T r8q r8y r8K u1n u1o u1p r6R r9v r9e r9Y u5r u6Q m9 u1h m13 m15 u9u l10 m2 t1 (((assoc a0.name m15).getD default),c47)
 else
  bif (decide (a0.kind=2))then
   chk (0≤r9e∧0≤(wr .i64 (r9e+r9Y))∧r9e.toNat≤(wr .i64 (r9e+r9Y)).toNat∧(wr .i64 (r9e+r9Y)).toNat≤r9v.length) <|
   (u0V ((r9v.drop r9e.toNat).take ((wr .i64 (r9e+r9Y)).toNat-r9e.toNat)) a0.name).bind fun v56=>
   r9u self a0 r5q r8I r8J r5T r8q r8y r8K u1n u1o u1p r6R r9v r9e r9Y u5r u6Q m9 u1h m13 m15 u9u l10 m2 t1 (v56,a1)
  else
   r9u self a0 r5q r8I r8J r5T r8q r8y r8K u1n u1o u1p r6R r9v r9e r9Y u5r u6Q m9 u1h m13 m15 u9u l10 m2 t1 (a0.name,a1)
def r8X(r5l:(p6w)→(Bs)→((List r4V))→(Int)→((List (Bs×Int)))→((List r4W))→Option (r4Z×Bool×Int×(List r4W))):Nat→(p6w)→((List Bs))→(Int)→(Bs)→((List Bs))→((List p6w))→((List Bs))→((List Bs))→((List Bs))→(Int)→(Bs)→((List Bs))→((List p6w))→((List (Bs×r4Z)))→((List r4Y))→(Int)→(Int)→(Int)→((List r4V))→(Int)→((List (Bs×Int)))→((List r4W))→(Bs)→((List (Bs×Bs)))→((List (Bs×Bs)))→Option (r4Z×Bool×Int×(List r4W)×(List (Bs×r4Z)))
 |0,_,_,_,_,_,_,_,_,_,_,_,_,_,_,_,_,_,_,_,_,_,_,_,_,_=>none
 |n+1,a0,a1,r5q,r8I,r8J,r5T,r8q,r8y,r8K,u1n,u1o,u1p,r6R,m2,r9v,r9e,r9Y,u5r,u6Q,u9u,m9,l10,u1h,m13,m15=>
  (r7d (r5b.mk (p6w.mk r5q r8I r8J r5T) r8q r8y r8K) a0).bind fun v1=>
  bif v1 then
   bif (assoc a0.name m2).isSome then
    some (((assoc a0.name m2).getD default),true,u9u,l10,m2)
   else
    chk (0≤(wr .i64 (r9e+r9Y))∧0≤(wr .i64 ((wr .i64 (r9e+r9Y))+u5r))∧(wr .i64 (r9e+r9Y)).toNat≤(wr .i64 ((wr .i64 (r9e+r9Y))+u5r)).toNat∧(wr .i64 ((wr .i64 (r9e+r9Y))+u5r)).toNat≤r9v.length) <|
    r5r (r5J (u2B r5l r9v r9e r9Y u5r a0 u1h m13 u6Q m9) (((r9v.drop ((wr .i64 (r9e+r9Y)).toNat)).take ((wr .i64 ((wr .i64 (r9e+r9Y))+u5r)).toNat-(wr .i64 (r9e+r9Y)).toNat)).length) (u9u,((assoc a0.name m2).getD default).form.kind,((assoc a0.name m2).getD default).form.name,((assoc a0.name m2).getD default).form.words,((assoc a0.name m2).getD default).form.subs,((assoc a0.name m2).getD default).nodes,((assoc a0.name m2).getD default).depth,l10,(assoc a0.name m2).isSome)) (u2C a0 m2)
  else
   r5r (r5J (u2D a1 a0 m15 r9e r9v) a0.words.length []) (u2G (r8X r5l n) a0 a1 r5q r8I r8J r5T r8q r8y r8K u1n u1o u1p r6R r9v r9e r9Y u5r u6Q m9 u1h m13 m15 u9u l10 m2)
def u2T(a1:r4V)(a2:(List r4Y))(v1:(List Bs))(r5q:(List r4V))(m1:(List (Bs×Int)))(l2:(List r4W))(k0:Nat)(s0:Int×(List (Bs×Bs))):Option (Ctl (r4Z×Bool×Int×(List r4W)) (Int×(List (Bs×Bs))) (Int×(List (Bs×Bs)))):=
 chk (0≤(wr .i64 ((wr .i64 ((↑a1.from_.words.length:Int)+(↑a1.from_.r5o.length:Int)))+(↑a1.from_.parts.length:Int)))∧(wr .i64 ((wr .i64 ((↑a1.from_.words.length:Int)+(↑a1.from_.r5o.length:Int)))+(↑a1.from_.parts.length:Int))).toNat≤a2.length) <|
 (u0V (a2.drop ((wr .i64 ((wr .i64 ((↑a1.from_.words.length:Int)+(↑a1.from_.r5o.length:Int)))+(↑a1.from_.parts.length:Int))).toNat)) (get v1 k0)).bind fun v13=>
 r9F (r5j (get v1 k0) v13 s0.2) fun c14=>
 bif (decide (((assoc (get v1 k0) c14).getD default)=(get v1 k0)))then
  (u0O r5q s0.1 m1 l2).bind fun v16=>
  r9F (r5j (get v1 k0) v16.1 c14) fun c17=>
  some (.nxt (v16.2,c17))
 else
  some (.nxt (s0.1,c14))
def u2U(r5l:(p6w)→(Bs)→((List r4V))→(Int)→((List (Bs×Int)))→((List r4W))→Option (r4Z×Bool×Int×(List r4W)))(n:Nat)(a1:r4V)(a2:(List r4Y))(r5q:(List r4V))(m1:(List (Bs×Int)))(l2:(List r4W))(a3:Bs)(t0:Int×(List (Bs×Bs))):Option (r4Z×Bool×Int×(List r4W)):=
 (u5O n a1.from_).bind fun v19=>
 (r8X r5l n a1.to_ [] a1.from_.form.kind a1.from_.form.name a1.from_.form.words a1.from_.form.subs a1.from_.words a1.from_.r5o a1.from_.parts a1.to_.kind a1.to_.name a1.to_.words a1.to_.subs [] a2 (↑a1.from_.words.length:Int) (↑a1.from_.r5o.length:Int) (↑a1.from_.parts.length:Int) r5q t0.1 m1 l2 a3 v19 t0.2).bind fun v20=>
 some (v20.1,v20.2.1,v20.2.2.1,v20.2.2.2.1)
def u4X(r5l:(p6w)→(Bs)→((List r4V))→(Int)→((List (Bs×Int)))→((List r4W))→Option (r4Z×Bool×Int×(List r4W)))(n:Nat)(a1:r4V)(a2:(List r4Y))(a3:Bs)(r5q:(List r4V))(r5T:Int)(m1:(List (Bs×Int)))(l2:(List r4W)):Option (r4Z×Bool×Int×(List r4W)):=
 (r5s n a1.to_).bind fun v1=>
 r5r (r5J (u2T a1 a2 v1 r5q m1 l2) v1.length (r5T,[])) (u2U r5l n a1 a2 r5q m1 l2 a3)
def u2b(self:(p6w)→(Bs)→((List r4V))→(Int)→((List (Bs×Int)))→((List r4W))→Option (r4Z×Bool×Int×(List r4W)))(n:Nat)(r5q:(List r4V))(a1:p6w)(l2:(List r4W))(a2:Bs)(m1:(List (Bs×Int)))(r5T:Int)(k0:Nat)(s0:Unit):Option (Ctl (r4Z×Bool×Int×(List r4W)) (Unit) (Unit)):=
 (u5N n ((get r5q k0).from_) a1).bind fun v1=>
 bif (!v1.2)then
  some (.nxt ())
 else
  r9F (l2++[(r4W.mk ((assoc a2 m1).getD default) (↑k0:Int))]) fun c3=>
  chk (c3.length*16≤top∧c3.length≤top) <|
  (u4X self n (get r5q k0) v1.1 a2 r5q r5T m1 c3).bind fun v9=>
  some (.ret (v9.1,v9.2.1,v9.2.2.1,v9.2.2.2))
def u2c(self:(p6w)→(Bs)→((List r4V))→(Int)→((List (Bs×Int)))→((List r4W))→Option (r4Z×Bool×Int×(List r4W)))(a2:Bs)(a1:p6w)(r5q:(List r4V))(m1:(List (Bs×Int)))(k1:Nat)(s1:Int×(List r4W)×(List r4Z)×(List p6w)):Option (Ctl (r4Z×Bool×Int×(List r4W)) (Int×(List r4W)×(List r4Z)×(List p6w)) (Int×(List r4W)×(List r4Z)×(List p6w))):=
 (itoa (↑k1:Int)).bind fun v25=>
 chk (u1M a2 v25) <|
 (self (get a1.subs k1) (w1q a2 v25) r5q s1.1 m1 s1.2.1).bind fun v27=>
 bif (!v27.2.1)then
  some (.ret ((r4Z.mk (p6w.mk 0 [] [] []) 0 0),false,v27.2.2.1,v27.2.2.2))
 else
  r9F (s1.2.2.1++[v27.1]) fun c29=>
  chk (c29.length*88≤top∧c29.length≤top) <|
  r9F (s1.2.2.2++[v27.1.form]) fun c35=>
  chk (c35.length*72≤top∧c35.length≤top) <|
  some (.nxt (v27.2.2.1,v27.2.2.2,c29,c35))
def u2d(a1:p6w)(t1:Int×(List r4W)×(List r4Z)×(List p6w)):Option (r4Z×Bool×Int×(List r4W)):=
 (u4O t1.2.2.1).bind fun v40=>
 some ((r4Z.mk (p6w.mk a1.kind a1.name a1.words t1.2.2.2) v40.1 v40.2.1),v40.2.2,t1.1,t1.2.1)
def u2e(self:(p6w)→(Bs)→((List r4V))→(Int)→((List (Bs×Int)))→((List r4W))→Option (r4Z×Bool×Int×(List r4W)))(a2:Bs)(a1:p6w)(r5q:(List r4V))(m1:(List (Bs×Int)))(r5T:Int)(l2:(List r4W))(t0:Unit):Option (r4Z×Bool×Int×(List r4W)):=
 r5r (r5J (u2c self a2 a1 r5q m1) a1.subs.length (r5T,l2,[],[])) (u2d a1)
def r7f:Nat→(p6w)→(Bs)→((List r4V))→(Int)→((List (Bs×Int)))→((List r4W))→Option (r4Z×Bool×Int×(List r4W))
 |0,_,_,_,_,_,_=>none
 |n+1,a1,a2,r5q,r5T,m1,l2=>
  r5r (r5J (u2b (r7f n) n r5q a1 l2 a2 m1 r5T) r5q.length ()) (u2e (r7f n) a2 a1 r5q m1 r5T l2)
def r5U(l0:(List r4W)):Option ((List r4W)):=
 chk (l0.length<4611686018427387904∧y0l l0) (some (u6t x9i l0))
def u3F(r9d:(List Bs))(s0:Int):Option (Ctl (Bs×Int) (Int) (Unit)):=
 (itoa s0).bind fun v4=>
 chk (u1M [118] v4) <|
 (r5e r9d (w1q [118] v4)).bind fun v6=>
 bif (!v6)then
  some (.ret ((w1q [118] v4),(wr .i64 (s0+1))))
 else
  some (.nxt (wr .i64 (s0+1)))
def u3G(t0:Unit):Option (Bs×Int):=
 none
def u5P(n:Nat)(r5q:Int)(r9d:(List Bs)):Option (Bs×Int):=
 r5r (r6G (u3F r9d) n r5q) (u3G)
def u2V(a1:(List r5i))(a0:p6w)(k0:Nat)(s2:Int):Option (Ctl (Ctl (p6w×Int) ((List Bs)) ((List Bs))) (Int) (Bs)):=
 bif (decide (0≤s2))then
  chk (0≤s2∧s2<(↑a1.length:Int)) <|
  bif (decide (((get a1 s2.toNat).from_)=(get a0.words k0)))then
   some (.brk ((get a1 s2.toNat).to_))
  else
   some (.nxt (wr .i64 (s2-1)))
 else
  some (.brk (get a0.words k0))
def u2W(s0:(List Bs))(t2:Bs):Option (Ctl (p6w×Int) ((List Bs)) ((List Bs))):=
 r9F (s0++[t2]) fun c16=>
 chk (c16.length*16≤top∧c16.length≤top) <|
 some (.nxt c16)
def u2X(n:Nat)(a1:(List r5i))(a0:p6w)(k0:Nat)(s0:(List Bs)):Option (Ctl (p6w×Int) ((List Bs)) ((List Bs))):=
 r5r (r6G (u2V a1 a0 k0) n (wr .i64 ((↑a1.length:Int)-1))) (u2W s0)
def u2Y(self:(p6w)→((List r5i))→(Int)→((List Bs))→Option (p6w×Int))(a0:p6w)(j3:Int×Bs×(List r5i))(r9d:(List Bs))(k4:Nat)(s4:Int×(List p6w)):Option (Ctl (p6w×Int) (Int×(List p6w)) (Int×(List p6w))):=
 (self (get a0.subs k4) j3.2.2 s4.1 r9d).bind fun v38=>
 r9F (s4.2++[v38.1]) fun c40=>
 chk (c40.length*72≤top∧c40.length≤top) <|
 some (.nxt (v38.2,c40))
def u2Z(a0:p6w)(j3:Int×Bs×(List r5i))(t0:(List Bs))(t4:Int×(List p6w)):Option (p6w×Int):=
 some ((p6w.mk a0.kind j3.2.1 t0 t4.2),t4.1)
def u1i(self:(p6w)→((List r5i))→(Int)→((List Bs))→Option (p6w×Int))(a0:p6w)(r9d:(List Bs))(t0:(List Bs))(j3:Int×Bs×(List r5i)):Option (p6w×Int):=
 r5r (r5J (u2Y self a0 j3 r9d) a0.subs.length (j3.1,[])) (u2Z a0 j3 t0)
def u3a(self:(p6w)→((List r5i))→(Int)→((List Bs))→Option (p6w×Int))(n:Nat)(a0:p6w)(r5q:Int)(r9d:(List Bs))(a1:(List r5i))(t0:(List Bs)):Option (p6w×Int):=
 (r5A a0).bind fun v21=>
 bif v21 then
  (u5P n r5q r9d).bind fun v22=>
  chk (0≤(↑a1.length:Int)∧0≤(↑a1.length:Int)) <|
  r9F (a1++[(r5i.mk a0.name v22.1)]) fun c26=>
  chk (c26.length*32≤top∧c26.length≤top) <|
  u1i self a0 r9d t0 (v22.2,v22.1,c26)
 else
  u1i self a0 r9d t0 (r5q,a0.name,a1)
def r9z:Nat→(p6w)→((List r5i))→(Int)→((List Bs))→Option (p6w×Int)
 |0,_,_,_,_=>none
 |n+1,a0,a1,r5q,r9d=>
  r5r (r5J (u2X n a1 a0) a0.words.length []) (u3a (r9z n) n a0 r5q r9d a1)
def u3b(v1:(List Bs))(a1:(List r5i))(k0:Nat)(k1:Nat)(s1:Unit):Option (Ctl (Ctl (p6w) (Unit) (Unit)) (Unit) (Unit)):=
 bif (decide ((get v1 k1)=((get a1 k0).from_)))then
  none
 else
  some (.nxt ())
def u3c(t1:Unit):Option (Ctl (p6w) (Unit) (Unit)):=
 some (.nxt ())
def u3d(v1:(List Bs))(a1:(List r5i))(k0:Nat)(s0:Unit):Option (Ctl (p6w) (Unit) (Unit)):=
 r5r (r5J (u3b v1 a1 k0) v1.length ()) (u3c)
def u3e(n:Nat)(a0:p6w)(a1:(List r5i))(v1:(List Bs))(t0:Unit):Option (p6w):=
 (r9z n a0 a1 0 v1).bind fun v2=>
 some v2.1
def u4Y(n:Nat)(a0:p6w)(a1:(List r5i)):Option (p6w):=
 (r9k n a0).bind fun v1=>
 r5r (r5J (u3d v1 a1) a1.length ()) (u3e n a0 a1 v1)
def u6y(n:Nat)(a0:p6w):Option (p6w):=
 (u4Y n a0 []).bind fun v1=>
 some v1
def u5Q(n:Nat)(a0:(List r4V))(a1:p6w):Option (p6w×(List r4W)×Bool):=
 (r9n n a1 a0 0 [] []).bind fun v1=>
 (r9V n v1.1 [] a0 v1.2 [] []).bind fun v2=>
 (r7f n v1.1 [] a0 v1.2 v2 []).bind fun v3=>
 bif (!v3.2.1)then
  some ((p6w.mk 0 [] [] []),[],false)
 else
  (r5U v3.2.2.2).bind fun v4=>
  (u6y n v3.1.form).bind fun v6=>
  some (v6,v4,true)
def u5R(n:Nat)(a0:(List r4V))(a1:p6w):Option (p6w×r5d):=
 (u3Q n a0 a1).bind fun v1=>
 bif (!decide (v1.code=0))then
  some ((p6w.mk 0 [] [] []),v1)
 else
  (u5Q n a0 a1).bind fun v2=>
  bif (!v2.2.2)then
   (r6t 1 0).bind fun v3=>
   some ((p6w.mk 0 [] [] []),v3)
  else
   some (v2.1,(r5d.mk 0 0))
def u5S(n:Nat)(a0:(List r4V))(a1:p6w):Option ((List r4W)×r5d):=
 (u3Q n a0 a1).bind fun v1=>
 bif (!decide (v1.code=0))then
  some ([],v1)
 else
  (u5Q n a0 a1).bind fun v2=>
  bif (!v2.2.2)then
   (r6t 1 0).bind fun v3=>
   some ([],v3)
  else
   some (v2.2.1,(r5d.mk 0 0))
def r8Y(a0:(List Bs))(a1:(List Bs))(s0:Int):Option (Ctl (Bool) (Int) (Unit)):=
 bif (decide (s0<(↑a0.length:Int)))then
  chk (0≤s0∧s0<(↑a0.length:Int)) <|
  chk (s0<(↑a1.length:Int)) <|
  bif (!decide ((get a0 s0.toNat)=(get a1 s0.toNat)))then
   some (.ret false)
  else
   some (.nxt (wr .i64 (s0+1)))
 else
  some (.brk ())
def r8Z(t0:Unit):Option (Bool):=
 some true
def r9W(n:Nat)(a0:(List Bs))(a1:(List Bs)):Option (Bool):=
 bif (!decide ((↑a0.length:Int)=(↑a1.length:Int)))then
  some false
 else
  r5r (r6G (r8Y a0 a1) n 0) (r8Z)
def r9g(self:(p6w)→(p6w)→Option (Bool))(a0:p6w)(a1:p6w)(s0:Int):Option (Ctl (Bool) (Int) (Unit)):=
 bif (decide (s0<(↑a0.subs.length:Int)))then
  chk (0≤s0∧s0<(↑a0.subs.length:Int)) <|
  chk (s0<(↑a1.subs.length:Int)) <|
  (self (get a0.subs s0.toNat) (get a1.subs s0.toNat)).bind fun v8=>
  bif (!v8)then
   some (.ret false)
  else
   some (.nxt (wr .i64 (s0+1)))
 else
  some (.brk ())
def r9h(t0:Unit):Option (Bool):=
 some true
def r7z:Nat→(p6w)→(p6w)→Option (Bool)
 |0,_,_=>none
 |n+1,a0,a1=>
  (gd (!(bif (!decide (a0.kind=a1.kind))then true else(!decide (a0.name=a1.name)))) (r9W n a0.words a1.words) default).bind fun v1=>
  bif (bif (bif (bif (!decide (a0.kind=a1.kind))then true else(!decide (a0.name=a1.name)))then true else(!v1))then true else(!decide ((↑a0.subs.length:Int)=(↑a1.subs.length:Int))))then
   some false
  else
   r5r (r6G (r9g (r7z n) a0 a1) n 0) (r9h)
def r6s(n:Nat):Option (Bool):=
 (r6E [100,111,103] [[120]]).bind fun v2=>
 (r6E [97,110,105,109,97,108] [[120]]).bind fun v5=>
 (r6E [116,97,109,101] [[120]]).bind fun v7=>
 (u0n 5 v5 v7).bind fun v8=>
 (r6E [100,111,103] [[121]]).bind fun v10=>
 (r6E [97,110,105,109,97,108] [[118,48]]).bind fun v13=>
 (r6E [116,97,109,101] [[118,48]]).bind fun v15=>
 (u0n 5 v13 v15).bind fun v16=>
 (u5R n [(r4V.mk (r5b.mk v2 [[120]] [] []) v8)] (p6w.mk 9 [121] [] [v10])).bind fun v19=>
 (u5S n [(r4V.mk (r5b.mk v2 [[120]] [] []) v8)] (p6w.mk 9 [121] [] [v10])).bind fun v21=>
 (gd (decide (v19.2.code=0)) (r7z n v19.1 (p6w.mk 9 [118,48] [] [v16])) default).bind fun v22=>
 chk (u5Z (bif (bif (bif (decide (v19.2.code=0))then v22 else false)then(decide (v21.2.code=0))else false)then(decide ((↑v21.1.length:Int)=1))else false) (0<(↑v21.1.length:Int))) <|
 some (bif (bif (bif (bif (decide (v19.2.code=0))then v22 else false)then(decide (v21.2.code=0))else false)then(decide ((↑v21.1.length:Int)=1))else false)then(decide ((get v21.1 0).at_=1)&&(decide ((get v21.1 0).rule=0)))else false)
def r8i(a0:Int):Option (Int):=
 bif (bif (decide (a0<1))then true else(decide (9<a0)))then
  some (-1)
 else
  chk (0≤a0∧a0<10) <|
  some (get [0,0,0,0,1,2,2,2,1,1] a0.toNat)
def r9c(a0:Bs)(s0:Int):Option (Ctl (Bool) (Int) (Unit)):=
 bif (decide (s0<(↑a0.length:Int)))then
  chk (0≤s0∧s0<(↑a0.length:Int)) <|
  bif (bif (!(bif (decide (97≤(r6p a0 s0)))then(decide ((r6p a0 s0)≤122))else false))then(bif (decide (s0=0))then true else(!(bif (bif (bif (decide (48≤(r6p a0 s0)))then(decide ((r6p a0 s0)≤57))else false)then true else(decide ((r6p a0 s0)=95)))then true else(decide ((r6p a0 s0)=45)))))else false)then
   some (.ret false)
  else
   some (.nxt (wr .i64 (s0+1)))
 else
  some (.brk ())
def u0E(t0:Unit):Option (Bool):=
 some true
def r7Q(n:Nat)(a0:Bs):Option (Bool):=
 bif (bif (decide ((↑a0.length:Int)<1))then true else(decide (30<(↑a0.length:Int))))then
  some false
 else
  r5r (r6G (r9c a0) n 0) (u0E)
def r7n(s0:(List r5a)×Int×Nat)(s12:(List r5a)×Int×Nat):Option (Ctl (Ctl (r5d) ((List r5a)×Int×Nat) (Unit)) ((List r5a)×Int×Nat) ((List r5a)×Nat)):=
 bif (decide (0≤s12.2.1))then
  chk (0≤s12.2.1∧s12.2.1<(↑(((get s0.1 ((wr .i64 ((↑s0.2.2:Int)-1)).toNat)).f.subs).length):Int)) <|
  chk (s12.2.2≤s12.1.length) <|
  r9F ((s12.1.take s12.2.2)++[(r5a.mk (get ((get s0.1 ((wr .i64 ((↑s0.2.2:Int)-1)).toNat)).f.subs) s12.2.1.toNat) (wr .i64 (((get s0.1 ((wr .i64 ((↑s0.2.2:Int)-1)).toNat)).depth)+1)))]) fun c51=>
  chk (c51.length*80≤top∧c51.length≤top) <|
  some (.nxt (c51,(wr .i64 (s12.2.1-1)),c51.length))
 else
  some (.brk (s12.1,s12.2.2))
def r7o(s0:(List r5a)×Int×Nat)(t12:(List r5a)×Nat):Option (Ctl (r5d) ((List r5a)×Int×Nat) (Unit)):=
 some (.nxt (t12.1,(wr .i64 (s0.2.1+1)),t12.2))
def r5n(n:Nat)(s0:(List r5a)×Int×Nat)(j10:Int):Option (Ctl (r5d) ((List r5a)×Int×Nat) (Unit)):=
 bif (!decide (j10=0))then
  some (.ret (r5d.mk j10 s0.2.1))
 else
  r5r (r6G (r7n s0) n (s0.1,(wr .i64 ((↑(((get s0.1 ((wr .i64 ((↑s0.2.2:Int)-1)).toNat)).f.subs).length):Int)-1)),(wr .i64 ((↑s0.2.2:Int)-1)).toNat)) (r7o s0)
def r7p(n:Nat)(s0:(List r5a)×Int×Nat)(k11:Nat)(s11:Int):Option (Ctl (Ctl (r5d) ((List r5a)×Int×Nat) (Unit)) (Int) (Int)):=
 (r7Q n (get ((get s0.1 ((wr .i64 ((↑s0.2.2:Int)-1)).toNat)).f.words) k11)).bind fun v37=>
 bif (!v37)then
  some (.nxt 10)
 else
  some (.nxt s11)
def r7q(n:Nat)(s0:(List r5a)×Int×Nat)(t11:Int):Option (Ctl (r5d) ((List r5a)×Int×Nat) (Unit)):=
 r5n n s0 t11
def r6c(n:Nat)(s0:(List r5a)×Int×Nat)(j7:Int)(j9:Int×Int):Option (Ctl (r5d) ((List r5a)×Int×Nat) (Unit)):=
 bif (bif (decide (200≤s0.2.1))then true else(decide (40<((get s0.1 ((wr .i64 ((↑s0.2.2:Int)-1)).toNat)).depth))))then
  r5n n s0 1
 else
  bif (decide (j7<0))then
   r5n n s0 4
  else
   bif (bif (bif (!decide ((↑(((get s0.1 ((wr .i64 ((↑s0.2.2:Int)-1)).toNat)).f.subs).length):Int)=j7))then true else(decide ((↑(((get s0.1 ((wr .i64 ((↑s0.2.2:Int)-1)).toNat)).f.words).length):Int)<j9.2)))then true else(decide (j9.1<(↑(((get s0.1 ((wr .i64 ((↑s0.2.2:Int)-1)).toNat)).f.words).length):Int))))then
    r5n n s0 9
   else
    (gd (bif (bif (bif (decide (((get s0.1 ((wr .i64 ((↑s0.2.2:Int)-1)).toNat)).f.kind)=2))then true else(decide (((get s0.1 ((wr .i64 ((↑s0.2.2:Int)-1)).toNat)).f.kind)=8)))then true else(decide (((get s0.1 ((wr .i64 ((↑s0.2.2:Int)-1)).toNat)).f.kind)=9)))then true else(decide (((get s0.1 ((wr .i64 ((↑s0.2.2:Int)-1)).toNat)).f.kind)=10))) (r7Q n ((get s0.1 ((wr .i64 ((↑s0.2.2:Int)-1)).toNat)).f.name)) default).bind fun v35=>
    bif (bif (bif (bif (bif (decide (((get s0.1 ((wr .i64 ((↑s0.2.2:Int)-1)).toNat)).f.kind)=2))then true else(decide (((get s0.1 ((wr .i64 ((↑s0.2.2:Int)-1)).toNat)).f.kind)=8)))then true else(decide (((get s0.1 ((wr .i64 ((↑s0.2.2:Int)-1)).toNat)).f.kind)=9)))then true else(decide (((get s0.1 ((wr .i64 ((↑s0.2.2:Int)-1)).toNat)).f.kind)=10)))then(!v35)else false)then
     r5n n s0 10
    else
     bif (bif (!(bif (bif (bif (decide (((get s0.1 ((wr .i64 ((↑s0.2.2:Int)-1)).toNat)).f.kind)=2))then true else(decide (((get s0.1 ((wr .i64 ((↑s0.2.2:Int)-1)).toNat)).f.kind)=8)))then true else(decide (((get s0.1 ((wr .i64 ((↑s0.2.2:Int)-1)).toNat)).f.kind)=9)))then true else(decide (((get s0.1 ((wr .i64 ((↑s0.2.2:Int)-1)).toNat)).f.kind)=10))))then(!decide (((get s0.1 ((wr .i64 ((↑s0.2.2:Int)-1)).toNat)).f.name)=[]))else false)then
      r5n n s0 5
     else
      r5r (r5J (r7p n s0) (((get s0.1 ((wr .i64 ((↑s0.2.2:Int)-1)).toNat)).f.words).length) 0) (r7q n s0)
def r6d(n:Nat)(s0:(List r5a)×Int×Nat)(j7:Int)(j8:Int):Option (Ctl (r5d) ((List r5a)×Int×Nat) (Unit)):=
 bif (decide (((get s0.1 ((wr .i64 ((↑s0.2.2:Int)-1)).toNat)).f.kind)=3))then
  r6c n s0 j7 (2,2)
 else
  r6c n s0 j7 (j8,0)
def r6z(n:Nat)(s0:(List r5a)×Int×Nat)(j7:Int):Option (Ctl (r5d) ((List r5a)×Int×Nat) (Unit)):=
 bif (decide (((get s0.1 ((wr .i64 ((↑s0.2.2:Int)-1)).toNat)).f.kind)=2))then
  r6d n s0 j7 3
 else
  r6d n s0 j7 0
def r6b(n:Nat)(a1:Bool)(s0:(List r5a)×Int×Nat):Option (Ctl (r5d) ((List r5a)×Int×Nat) (Unit)):=
 bif (decide (0<(↑s0.2.2:Int)))then
  chk (s0.2.2≤s0.1.length) <|
  chk (0≤(wr .i64 ((↑s0.2.2:Int)-1))∧(wr .i64 ((↑s0.2.2:Int)-1))<(↑s0.2.2:Int)) <|
  chk ((wr .i64 ((↑s0.2.2:Int)-1)).toNat≤s0.2.2) <|
  (r8i ((get s0.1 ((wr .i64 ((↑s0.2.2:Int)-1)).toNat)).f.kind)).bind fun v34=>
  bif (bif a1 then(decide (((get s0.1 ((wr .i64 ((↑s0.2.2:Int)-1)).toNat)).f.kind)=10))else false)then
   r6z n s0 0
  else
   r6z n s0 v34
 else
  some (.brk ())
def r9a(t0:Unit):Option (r5d):=
 some (r5d.mk 0 0)
def r8m(n:Nat)(a0:p6w)(a1:Bool):Option (r5d):=
 r5r (r6G (r6b n a1) n ([(r5a.mk a0 1)],0,1)) (r9a)
def r6v(n:Nat)(a0:p6w):Option (r5d):=
 (r8m n a0 false).bind fun v1=>
 some v1
def r7X(a2:(List Bs))(s0:(List Bool)×Int)(a1:p6w)(s2:Bool×Int):Option (Ctl (Ctl ((List r4U)) ((List Bool)×Int) ((List Bool))) (Bool×Int) (Bool)):=
 bif (decide (s2.2<(↑a2.length:Int)))then
  chk (u5Z (!s2.1) (0≤s2.2)∧u5Z (!s2.1) (s2.2<(↑a2.length:Int))) <|
  chk (u5Z (!s2.1) (0≤s0.2)∧u5Z (!s2.1) (s0.2<(↑a1.words.length:Int))) <|
  some (.nxt ((bif s2.1 then true else(decide ((get a2 s2.2.toNat)=(get a1.words s0.2.toNat)))),(wr .i64 (s2.2+1))))
 else
  some (.brk s2.1)
def r9A(s0:(List Bool)×Int)(t2:Bool):Option (Ctl ((List r4U)) ((List Bool)×Int) ((List Bool))):=
 r9F (s0.1++[t2]) fun c28=>
 chk (c28.length*1≤top∧c28.length≤top) <|
 some (.nxt (c28,(wr .i64 (s0.2+1))))
def r7W(n:Nat)(a1:p6w)(a2:(List Bs))(s0:(List Bool)×Int):Option (Ctl ((List r4U)) ((List Bool)×Int) ((List Bool))):=
 bif (decide (s0.2<(↑a1.words.length:Int)))then
  r5r (r6G (r7X a2 s0 a1) n (false,0)) (r9A s0)
 else
  some (.brk s0.1)
def r6W(self:(p6w)→((List Bs))→((List r4U))→Option ((List r4U)))(a1:p6w)(j3:(List Bs))(s5:(List r4U)×Int):Option (Ctl ((List r4U)) ((List r4U)×Int) ((List r4U))):=
 bif (decide (s5.2<(↑a1.subs.length:Int)))then
  chk (0≤s5.2∧s5.2<(↑a1.subs.length:Int)) <|
  (self (get a1.subs s5.2.toNat) j3 s5.1).bind fun v68=>
  some (.nxt (v68,(wr .i64 (s5.2+1))))
 else
  some (.brk s5.1)
def r7Z(l0:(List r4U))(t5:(List r4U)):Option ((List r4U)):=
 chk ((↑l0.length:Int)<(↑t5.length:Int)) <|
 r9F (t5.set l0.length (r4U.mk ((get t5 l0.length).kind) ((get t5 l0.length).name) ((get t5 l0.length).words) ((get t5 l0.length).bound) (↑t5.length:Int))) fun c73=>
 some c73
def r6l(self:(p6w)→((List Bs))→((List r4U))→Option ((List r4U)))(n:Nat)(a1:p6w)(c34:(List r4U))(l0:(List r4U))(j3:(List Bs)):Option ((List r4U)):=
 r5r (r6G (r6W self a1 j3) n (c34,0)) (r7Z l0)
def r8a(a2:(List Bs))(s4:(List Bs)×Int):Option (Ctl ((List r4U)) ((List Bs)×Int) ((List Bs))):=
 bif (decide (s4.2<(↑a2.length:Int)))then
  chk (0≤s4.2∧s4.2<(↑a2.length:Int)) <|
  r9F (s4.1++[(get a2 s4.2.toNat)]) fun c58=>
  chk (c58.length*16≤top∧c58.length≤top) <|
  some (.nxt (c58,(wr .i64 (s4.2+1))))
 else
  some (.brk s4.1)
def r9B(self:(p6w)→((List Bs))→((List r4U))→Option ((List r4U)))(n:Nat)(a1:p6w)(c34:(List r4U))(l0:(List r4U))(t4:(List Bs)):Option ((List r4U)):=
 r6l self n a1 c34 l0 t4
def r7Y(self:(p6w)→((List Bs))→((List r4U))→Option ((List r4U)))(n:Nat)(l0:(List r4U))(a1:p6w)(a2:(List Bs))(t0:(List Bool)):Option ((List r4U)):=
 r9F (l0++[(r4U.mk a1.kind a1.name a1.words t0 0)]) fun c34=>
 chk (c34.length*80≤top∧c34.length≤top) <|
 bif (bif (decide (a1.kind=8))then true else(decide (a1.kind=9)))then
  r5r (r6G (r8a a2) n ([a1.name],0)) (r9B self n a1 c34 l0)
 else
  r6l self n a1 c34 l0 a2
def r5z:Nat→(p6w)→((List Bs))→((List r4U))→Option ((List r4U))
 |0,_,_,_=>none
 |n+1,a1,a2,l0=>
  r5r (r6G (r7W n a1 a2) n ([],0)) (r7Y (r5z n) n l0 a1 a2)
def r8A(a2:(List Bs))(s0:(List Bool)×Int)(a1:p6w)(s2:Bool×Int):Option (Ctl (Ctl ((List r4U)) ((List Bool)×Int) ((List Bool))) (Bool×Int) (Bool)):=
 bif (decide (s2.2<(↑a2.length:Int)))then
  chk (u5Z (!s2.1) (0≤s2.2)∧u5Z (!s2.1) (s2.2<(↑a2.length:Int))) <|
  chk (u5Z (!s2.1) (0≤s0.2)∧u5Z (!s2.1) (s0.2<(↑a1.words.length:Int))) <|
  some (.nxt ((bif s2.1 then true else(decide ((get a2 s2.2.toNat)=(get a1.words s0.2.toNat)))),(wr .i64 (s2.2+1))))
 else
  some (.brk s2.1)
def u0p(s0:(List Bool)×Int)(t2:Bool):Option (Ctl ((List r4U)) ((List Bool)×Int) ((List Bool))):=
 r9F (s0.1++[t2]) fun c28=>
 chk (c28.length*1≤top∧c28.length≤top) <|
 some (.nxt (c28,(wr .i64 (s0.2+1))))
def r8z(n:Nat)(a1:p6w)(a2:(List Bs))(s0:(List Bool)×Int):Option (Ctl ((List r4U)) ((List Bool)×Int) ((List Bool))):=
 bif (decide (s0.2<(↑a1.words.length:Int)))then
  r5r (r6G (r8A a2 s0 a1) n (false,0)) (u0p s0)
 else
  some (.brk s0.1)
def r7t(n:Nat)(a1:p6w)(j3:(List Bs))(s5:(List r4U)×Int):Option (Ctl ((List r4U)) ((List r4U)×Int) ((List r4U))):=
 bif (decide (s5.2<(↑a1.subs.length:Int)))then
  chk (0≤s5.2∧s5.2<(↑a1.subs.length:Int)) <|
  (r5z n (get a1.subs s5.2.toNat) j3 s5.1).bind fun v68=>
  some (.nxt (v68,(wr .i64 (s5.2+1))))
 else
  some (.brk s5.1)
def r8C(t5:(List r4U)):Option ((List r4U)):=
 chk (0<(↑t5.length:Int)) <|
 r9F (t5.set 0 (r4U.mk ((get t5 0).kind) ((get t5 0).name) ((get t5 0).words) ((get t5 0).bound) (↑t5.length:Int))) fun c73=>
 some c73
def r6I(n:Nat)(a1:p6w)(c34:(List r4U))(j3:(List Bs)):Option ((List r4U)):=
 r5r (r6G (r7t n a1 j3) n (c34,0)) (r8C)
def r8D(a2:(List Bs))(s4:(List Bs)×Int):Option (Ctl ((List r4U)) ((List Bs)×Int) ((List Bs))):=
 bif (decide (s4.2<(↑a2.length:Int)))then
  chk (0≤s4.2∧s4.2<(↑a2.length:Int)) <|
  r9F (s4.1++[(get a2 s4.2.toNat)]) fun c58=>
  chk (c58.length*16≤top∧c58.length≤top) <|
  some (.nxt (c58,(wr .i64 (s4.2+1))))
 else
  some (.brk s4.1)
def u0q(n:Nat)(a1:p6w)(c34:(List r4U))(t4:(List Bs)):Option ((List r4U)):=
 r6I n a1 c34 t4
def r8B(n:Nat)(a1:p6w)(a2:(List Bs))(t0:(List Bool)):Option ((List r4U)):=
 r9F [(r4U.mk a1.kind a1.name a1.words t0 0)] fun c34=>
 chk (c34.length*80≤top∧c34.length≤top) <|
 bif (bif (decide (a1.kind=8))then true else(decide (a1.kind=9)))then
  r5r (r6G (r8D a2) n ([a1.name],0)) (u0q n a1 c34)
 else
  r6I n a1 c34 a2
def r6a(n:Nat)(a1:p6w)(a2:(List Bs)):Option ((List r4U)):=
 r5r (r6G (r8z n a1 a2) n ([],0)) (r8B n a1 a2)
def r7u(a0:Bs)(s0:Int):Option (Ctl (Bool) (Int) (Unit)):=
 bif (decide (s0<(↑a0.length:Int)))then
  chk (0≤s0∧s0<(↑a0.length:Int)) <|
  bif (!(bif (bif (decide (97≤(r6p a0 s0)))then(decide ((r6p a0 s0)≤122))else false)then true else(bif (decide (0<s0))then(bif (bif (bif (decide (48≤(r6p a0 s0)))then(decide ((r6p a0 s0)≤57))else false)then true else(decide ((r6p a0 s0)=95)))then true else(decide ((r6p a0 s0)=45)))else false)))then
   some (.ret false)
  else
   some (.nxt (wr .i64 (s0+1)))
 else
  some (.brk ())
def r8H(a0:Bs)(t0:Unit):Option (Bool):=
 some (bif (decide (0<(↑a0.length:Int)))then(decide ((↑a0.length:Int)≤30))else false)
def r8x(n:Nat)(a0:Bs):Option (Bool):=
 r5r (r6G (r7u a0) n 0) (r8H a0)
def r8d(a0:(List Bs))(a1:Bs)(s0:Int):Option (Ctl (Int) (Int) (Unit)):=
 bif (decide (s0<(↑a0.length:Int)))then
  chk (0≤s0∧s0<(↑a0.length:Int)) <|
  bif (decide ((get a0 s0.toNat)=a1))then
   some (.ret s0)
  else
   some (.nxt (wr .i64 (s0+1)))
 else
  some (.brk ())
def r9C(t0:Unit):Option (Int):=
 some (-1)
def r5P(n:Nat)(a0:(List Bs))(a1:Bs):Option (Int):=
 r5r (r6G (r8d a0 a1) n 0) (r9C)
def r8e(l0:(List Bs))(a1:Bs)(s0:Int):Option (Ctl (Int) (Int) (Unit)):=
 bif (decide (s0<(↑l0.length:Int)))then
  chk (0≤s0∧s0<(↑l0.length:Int)) <|
  bif (decide ((get l0 s0.toNat)=a1))then
   some (.ret s0)
  else
   some (.nxt (wr .i64 (s0+1)))
 else
  some (.brk ())
def r9D(t0:Unit):Option (Int):=
 some (-1)
def r7N(n:Nat)(a1:Bs)(l0:(List Bs)):Option (Int):=
 r5r (r6G (r8e l0 a1) n 0) (r9D)
def r8s(a0:r5b)(s0:(List Bs)×Int):Option (Ctl (r5d) ((List Bs)×Int) ((List Bs))):=
 bif (decide (s0.2<(↑a0.words.length:Int)))then
  chk (0≤s0.2∧s0.2<(↑a0.words.length:Int)) <|
  r9F (s0.1++[(get a0.words s0.2.toNat)]) fun c20=>
  chk (c20.length*16≤top∧c20.length≤top) <|
  some (.nxt (c20,(wr .i64 (s0.2+1))))
 else
  some (.brk s0.1)
def r8t(a0:r5b)(s1:(List Bs)×Int):Option (Ctl (r5d) ((List Bs)×Int) ((List Bs))):=
 bif (decide (s1.2<(↑a0.r5o.length:Int)))then
  chk (0≤s1.2∧s1.2<(↑a0.r5o.length:Int)) <|
  r9F (s1.1++[(get a0.r5o s1.2.toNat)]) fun c35=>
  chk (c35.length*16≤top∧c35.length≤top) <|
  some (.nxt (c35,(wr .i64 (s1.2+1))))
 else
  some (.brk s1.1)
def r8u(a0:r5b)(s2:(List Bs)×Int):Option (Ctl (r5d) ((List Bs)×Int) ((List Bs))):=
 bif (decide (s2.2<(↑a0.parts.length:Int)))then
  chk (0≤s2.2∧s2.2<(↑a0.parts.length:Int)) <|
  r9F (s2.1++[(get a0.parts s2.2.toNat)]) fun c50=>
  chk (c50.length*16≤top∧c50.length≤top) <|
  some (.nxt (c50,(wr .i64 (s2.2+1))))
 else
  some (.brk s2.1)
def r6k(s3:Int)(t2:(List Bs))(s8:Int):Option (Ctl (Ctl (r5d) (Int) (Unit)) (Int) (Unit)):=
 bif (decide (s8<s3))then
  chk (0≤s8∧s8<(↑t2.length:Int)) <|
  bif (decide ((get t2 s8.toNat)=(get t2 s3.toNat)))then
   some (.ret (.ret (r5d.mk 7 s3)))
  else
   some (.nxt (wr .i64 (s8+1)))
 else
  some (.brk ())
def r5R(s9:Bool×Bool×Int)(v55:(List r4U))(s3:Int)(t2:(List Bs))(s11:Bool×Int):Option (Ctl (Ctl (Ctl (r5d) (Int) (Unit)) (Bool×Bool×Int) (Bool×Bool)) (Bool×Int) (Bool)):=
 chk (0≤s9.2.2∧s9.2.2<(↑v55.length:Int)) <|
 bif (decide (s11.2<(↑(((get v55 s9.2.2.toNat).words).length):Int)))then
  chk (u5Z (!s11.1) (0≤s11.2)∧u5Z (!s11.1) (s11.2<(↑(((get v55 s9.2.2.toNat).words).length):Int))) <|
  chk (s3.toNat<t2.length) <|
  chk (u5Z ((!s11.1)&&(decide ((get ((get v55 s9.2.2.toNat).words) s11.2.toNat)=(get t2 s3.toNat)))) (0≤s11.2)∧u5Z ((!s11.1)&&(decide ((get ((get v55 s9.2.2.toNat).words) s11.2.toNat)=(get t2 s3.toNat)))) (s11.2<(↑(((get v55 s9.2.2.toNat).bound).length):Int))) <|
  some (.nxt ((bif s11.1 then true else(bif (decide ((get ((get v55 s9.2.2.toNat).words) s11.2.toNat)=(get t2 s3.toNat)))then(!(get ((get v55 s9.2.2.toNat).bound) s11.2.toNat))else false)),(wr .i64 (s11.2+1))))
 else
  some (.brk s11.1)
def r6S(s9:Bool×Bool×Int)(t11:Bool):Option (Ctl (Ctl (r5d) (Int) (Unit)) (Bool×Bool×Int) (Bool×Bool)):=
 some (.nxt (t11,s9.2.1,(wr .i64 (s9.2.2+1))))
def r5W(n:Nat)(v55:(List r4U))(s3:Int)(a0:r5b)(t2:(List Bs))(s9:Bool×Bool×Int):Option (Ctl (Ctl (r5d) (Int) (Unit)) (Bool×Bool×Int) (Bool×Bool)):=
 bif (decide (s9.2.2<(↑v55.length:Int)))then
  bif (decide (s3<(↑a0.words.length:Int)))then
   r5r (r6G (r5R s9 v55 s3 t2) n (s9.1,0)) (r6S s9)
  else
   chk (0≤s9.2.2∧s9.2.2<(↑v55.length:Int)) <|
   chk (s3.toNat<t2.length) <|
   bif (bif (decide (((get v55 s9.2.2.toNat).kind)=2))then(decide (((get v55 s9.2.2.toNat).name)=(get t2 s3.toNat)))else false)then
    some (.nxt (true,(bif s9.2.1 then true else(decide (0<(↑(((get v55 s9.2.2.toNat).words).length):Int)))),(wr .i64 (s9.2.2+1))))
   else
    some (.nxt (s9.1,s9.2.1,(wr .i64 (s9.2.2+1))))
 else
  some (.brk (s9.1,s9.2.1))
def r6Y(a0:r5b)(s3:Int)(t9:Bool×Bool):Option (Ctl (r5d) (Int) (Unit)):=
 bif (bif (decide ((wr .i64 ((↑a0.words.length:Int)+(↑a0.r5o.length:Int)))≤s3))then t9.2 else false)then
  some (.ret (r5d.mk 5 s3))
 else
  bif (!t9.1)then
   some (.ret (r5d.mk 15 s3))
  else
   some (.nxt (wr .i64 (s3+1)))
def r6X(n:Nat)(v55:(List r4U))(s3:Int)(a0:r5b)(t2:(List Bs))(t8:Unit):Option (Ctl (r5d) (Int) (Unit)):=
 r5r (r6G (r5W n v55 s3 a0 t2) n (false,false,0)) (r6Y a0 s3)
def r5X(n:Nat)(t2:(List Bs))(v55:(List r4U))(a0:r5b)(s3:Int):Option (Ctl (r5d) (Int) (Unit)):=
 bif (decide (s3<(↑t2.length:Int)))then
  chk (0≤s3∧s3<(↑t2.length:Int)) <|
  (r8x n (get t2 s3.toNat)).bind fun v115=>
  bif (!v115)then
   some (.ret (r5d.mk 10 s3))
  else
   r5r (r6G (r6k s3 t2) n 0) (r6X n v55 s3 a0 t2)
 else
  some (.brk ())
def r5S(n:Nat)(v55:(List r4U))(a0:r5b)(s12:(List Bs)×Int):Option (Ctl (r5d) ((List Bs)×Int) (Unit)):=
 bif (decide (s12.2<(↑v55.length:Int)))then
  chk (0≤s12.2∧s12.2<(↑v55.length:Int)) <|
  bif (bif (decide (((get v55 s12.2.toNat).kind)=8))then true else(decide (((get v55 s12.2.toNat).kind)=9)))then
   (r7N n ((get v55 s12.2.toNat).name) s12.1).bind fun v195=>
   (gd (!(decide (0≤v195))) (r5P n a0.words ((get v55 s12.2.toNat).name)) default).bind fun v196=>
   bif (bif (decide (0≤v195))then true else(decide (0≤v196)))then
    some (.ret (r5d.mk 7 (-1)))
   else
    r9F (s12.1++[(get v55 s12.2.toNat).name]) fun c198=>
    chk (c198.length*16≤top∧c198.length≤top) <|
    some (.nxt (c198,(wr .i64 (s12.2+1))))
  else
   some (.nxt (s12.1,(wr .i64 (s12.2+1))))
 else
  some (.brk ())
def r8j(t12:Unit):Option (r5d):=
 some (r5d.mk 0 0)
def r7c(n:Nat)(v55:(List r4U))(a0:r5b)(t3:Unit):Option (r5d):=
 r5r (r6G (r5S n v55 a0) n ([],0)) (r8j)
def r7b(n:Nat)(a0:r5b)(t2:(List Bs)):Option (r5d):=
 (r6a n a0.form []).bind fun v55=>
 r5r (r6G (r5X n t2 v55 a0) n 0) (r7c n v55 a0)
def r7a(n:Nat)(a0:r5b)(t1:(List Bs)):Option (r5d):=
 r5r (r6G (r8u a0) n (t1,0)) (r7b n a0)
def r6Z(n:Nat)(a0:r5b)(t0:(List Bs)):Option (r5d):=
 r5r (r6G (r8t a0) n (t0,0)) (r7a n a0)
def r6P(n:Nat)(a0:r5b):Option (r5d):=
 (r6v n a0.form).bind fun v1=>
 bif (!decide (v1.code=0))then
  some v1
 else
  bif (decide (300<(wr .i64 ((wr .i64 ((↑a0.words.length:Int)+(↑a0.r5o.length:Int)))+(↑a0.parts.length:Int)))))then
   some (r5d.mk 2 (-1))
  else
   r5r (r6G (r8s a0) n ([],0)) (r6Z n a0)
def r6A(n:Nat)(a0:r5b)(a1:r4U):Option (Bool):=
 (gd (bif (decide (a1.kind=2))then(decide ((↑a1.words.length:Int)=0))else false) (r5P n a0.parts a1.name) default).bind fun v1=>
 some (bif (bif (decide (a1.kind=2))then(decide ((↑a1.words.length:Int)=0))else false)then(decide (0≤v1))else false)
def u5M(l:List r4U)(i k:Nat):Bool:=bif decide ((i:Int)<(get l k).end_)then(bif decide ((get l k).kind=8)then true else decide ((get l k).kind=9))else false
def r5N(l:List r4U)(i:Nat):Nat→List Bs
 |0=>[]
 |k+1=>bif u5M l i k then r5N l i k++[(get l k).name]else r5N l i k
def r7l(l:List r4U):Option (List (List Bs)):=chk (l.length*24≤top∧l.length≤1048576) (some (rf l.length fun i=>r5N l i i))
def r6D(n:Nat)(v1:(List r4U))(a0:r4V)(v2:(List r4U))(s0:Int)(v3:(List (List Bs)))(s4:Int)(s6:Bool×Int):Option (Ctl (Ctl (Ctl (Bool) (Int) (Unit)) (Int) (Unit)) (Bool×Int) (Bool)):=
 bif (decide (s6.2<(↑v1.length:Int)))then
  chk (0≤s6.2∧s6.2<(↑v1.length:Int)) <|
  (r6A n a0.from_ (get v1 s6.2.toNat)).bind fun v71=>
  chk (u5Z (bif v71 then(decide (((get v1 s6.2.toNat).name)=((get v2 s0.toNat).name)))else false) (s6.2<(↑v3.length:Int))) <|
  (gd (bif v71 then(decide (((get v1 s6.2.toNat).name)=((get v2 s0.toNat).name)))else false) (r5P n (get v3 s6.2.toNat) ((get v1 s4.toNat).name)) default).bind fun v74=>
  bif (bif (bif v71 then(decide (((get v1 s6.2.toNat).name)=((get v2 s0.toNat).name)))else false)then(decide (v74<0))else false)then
   some (.nxt (false,(wr .i64 (s6.2+1))))
  else
   some (.nxt (s6.1,(wr .i64 (s6.2+1))))
 else
  some (.brk s6.1)
def r7v(s4:Int)(t6:Bool):Option (Ctl (Ctl (Bool) (Int) (Unit)) (Int) (Unit)):=
 bif t6 then
  some (.ret (.ret true))
 else
  some (.nxt (wr .i64 (s4+1)))
def r6C(n:Nat)(v1:(List r4U))(s0:Int)(v4:(List (List Bs)))(v2:(List r4U))(a0:r4V)(v3:(List (List Bs)))(s4:Int):Option (Ctl (Ctl (Bool) (Int) (Unit)) (Int) (Unit)):=
 bif (decide (s4<(↑v1.length:Int)))then
  chk (0≤s4∧s4<(↑v1.length:Int)) <|
  bif (bif (!decide (((get v1 s4.toNat).kind)=8))then(!decide (((get v1 s4.toNat).kind)=9))else false)then
   some (.nxt (wr .i64 (s4+1)))
  else
   chk (0≤s0∧s0<(↑v4.length:Int)) <|
   (r5P n (get v4 s0.toNat) ((get v1 s4.toNat).name)).bind fun v60=>
   bif (decide (0≤v60))then
    some (.nxt (wr .i64 (s4+1)))
   else
    chk (s0<(↑v2.length:Int)) <|
    (r5P n ((get v2 s0.toNat).words) ((get v1 s4.toNat).name)).bind fun v62=>
    bif (decide (0≤v62))then
     some (.ret (.ret true))
    else
     (r6A n a0.from_ (get v2 s0.toNat)).bind fun v63=>
     bif (!v63)then
      some (.nxt (wr .i64 (s4+1)))
     else
      r5r (r6G (r6D n v1 a0 v2 s0 v3 s4) n (true,0)) (r7v s4)
 else
  some (.brk ())
def r7w(s0:Int)(t4:Unit):Option (Ctl (Bool) (Int) (Unit)):=
 some (.nxt (wr .i64 (s0+1)))
def r6B(n:Nat)(v2:(List r4U))(v1:(List r4U))(v4:(List (List Bs)))(a0:r4V)(v3:(List (List Bs)))(s0:Int):Option (Ctl (Bool) (Int) (Unit)):=
 bif (decide (s0<(↑v2.length:Int)))then
  r5r (r6G (r6C n v1 s0 v4 v2 a0 v3) n 0) (r7w s0)
 else
  some (.brk ())
def r7x(t0:Unit):Option (Bool):=
 some false
def r7k(n:Nat)(a0:r4V):Option (Bool):=
 (r6a n a0.from_.form []).bind fun v1=>
 (r6a n a0.to_ []).bind fun v2=>
 (r7l v1).bind fun v3=>
 (r7l v2).bind fun v4=>
 r5r (r6G (r6B n v2 v1 v4 a0 v3) n 0) (r7x)
def r5G(s0:Int)(j10:Int):Option (Ctl (r5d) (Int) (Unit)):=
 bif (!decide (j10=0))then
  some (.ret (r5d.mk j10 s0))
 else
  some (.nxt (wr .i64 (s0+1)))
def r5B(n:Nat)(a0:(List r4V))(s0:Int)(j8:Int):Option (Ctl (r5d) (Int) (Unit)):=
 (gd (decide (j8=0)) (r7k n (get a0 s0.toNat)) default).bind fun v111=>
 bif (bif (decide (j8=0))then v111 else false)then
  r5G s0 15
 else
  r5G s0 j8
def r6g(n:Nat)(v63:(List r4U))(a0:(List r4V))(s0:Int)(s9:Int×(List Bs)×Int):Option (Ctl (Ctl (r5d) (Int) (Unit)) (Int×(List Bs)×Int) (Int)):=
 bif (decide (s9.2.2<(↑v63.length:Int)))then
  chk (0≤s9.2.2∧s9.2.2<(↑v63.length:Int)) <|
  bif (bif (!decide (((get v63 s9.2.2.toNat).kind)=8))then(!decide (((get v63 s9.2.2.toNat).kind)=9))else false)then
   some (.nxt (s9.1,s9.2.1,(wr .i64 (s9.2.2+1))))
  else
   (r7N n ((get v63 s9.2.2.toNat).name) s9.2.1).bind fun v97=>
   (gd (!(decide (0≤v97))) (r5P n ((get a0 s0.toNat).from_.words) ((get v63 s9.2.2.toNat).name)) default).bind fun v98=>
   bif (bif (decide (0≤v97))then true else(decide (0≤v98)))then
    r9F (s9.2.1++[(get v63 s9.2.2.toNat).name]) fun c100=>
    chk (c100.length*16≤top∧c100.length≤top) <|
    some (.nxt (7,c100,(wr .i64 (s9.2.2+1))))
   else
    r9F (s9.2.1++[(get v63 s9.2.2.toNat).name]) fun c106=>
    chk (c106.length*16≤top∧c106.length≤top) <|
    some (.nxt (s9.1,c106,(wr .i64 (s9.2.2+1))))
 else
  some (.brk s9.1)
def r6L(n:Nat)(a0:(List r4V))(s0:Int)(t9:Int):Option (Ctl (r5d) (Int) (Unit)):=
 r5B n a0 s0 t9
def r5C(n:Nat)(a0:(List r4V))(s0:Int)(j7:Int×Int):Option (Ctl (r5d) (Int) (Unit)):=
 bif (decide (j7.1=0))then
  (r6a n ((get a0 s0.toNat).to_) []).bind fun v63=>
  r5r (r6G (r6g n v63 a0 s0) n (j7.1,[],0)) (r6L n a0 s0)
 else
  r5B n a0 s0 j7.1
def r5v(n:Nat)(a0:(List r4V))(s0:Int)(v58:r5d)(j6:Int):Option (Ctl (r5d) (Int) (Unit)):=
 bif (decide (j6=0))then
  (r6v n ((get a0 s0.toNat).to_)).bind fun v62=>
  r5C n a0 s0 (v62.code,v62.index)
 else
  r5C n a0 s0 (j6,v58.index)
def r6f(n:Nat)(a0:(List r4V))(s0:Int):Option (Ctl (r5d) (Int) (Unit)):=
 bif (decide (s0<(↑a0.length:Int)))then
  chk (0≤s0∧s0<(↑a0.length:Int)) <|
  (r6P n ((get a0 s0.toNat).from_)).bind fun v58=>
  bif (decide (v58.code=0))then
   (r6a n ((get a0 s0.toNat).from_.form) []).bind fun v59=>
   chk (0<(↑v59.length:Int)) <|
   (r6A n ((get a0 s0.toNat).from_) (get v59 0)).bind fun v61=>
   bif v61 then
    r5v n a0 s0 v58 5
   else
    r5v n a0 s0 v58 v58.code
  else
   r5v n a0 s0 v58 v58.code
 else
  some (.brk ())
def r6M(t0:Unit):Option (r5d):=
 some (r5d.mk 0 0)
def r6u(n:Nat)(a0:(List r4V)):Option (r5d):=
 bif (decide (40<(↑a0.length:Int)))then
  some (r5d.mk 2 (-1))
 else
  r5r (r6G (r6f n a0) n 0) (r6M)
def r5L(n:Nat)(a0:(List r4V)):Option (Bool):=
 (r6s n).bind fun v1=>
 (gd v1 (r9m n a0) default).bind fun v2=>
 (gd v1 (r6u n a0) default).bind fun v3=>
 some (bif v1 then(decide (v2.code=v3.code)&&(decide (v2.index=v3.index)))else false)
end Go.Proofs.YtfacbpehlibilaaGreatDoor
