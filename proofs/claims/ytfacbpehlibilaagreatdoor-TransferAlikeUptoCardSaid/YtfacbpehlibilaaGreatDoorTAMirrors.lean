import Derived.Test.YtfacbpehlibilaaGreatDoorTAStrs
import Derived.Test.YtfacbpehlibilaaGreatDoorTACat
import Derived.Test.YtfacbpehlibilaaGreatDoorTACmp
set_option linter.unusedVariables false
set_option linter.unusedSimpArgs false
namespace Go.Proofs.YtfacbpehlibilaaGreatDoor
open Go Go.Am
def d8L(a0:Wp)(a1:Wp):Option (Int):=
 some (wr .i64 (a0.at_-a1.at_))
def XH(a0:Bs)(a1:(List Bs)):Option (Lr):=
 some (Lr.mk 2 a0 a1 [])
def d0W(a0:Int)(a1:Lr)(a2:Lr):Option (Lr):=
 some (Lr.mk a0 [] [] [a1,a2])
def Xr(a0:Int)(a1:Int):Option (WC):=
 some (WC.mk a0 a1)
def Zl(a0:Int)(WH:Int):Option (WC):=
 some (WC.mk a0 WH)
def d1d(j2:Bool):Option (Int):=
 bif j2 then
  some 2
 else
  some (-1)
def d1c(a0:Int)(j1:Bool):Option (Int):=
 bif j1 then
  some 1
 else
  bif (decide (a0=5))then
   d1d (decide (a0=5))
  else
   bif (decide (a0=6))then
    d1d (decide (a0=6))
   else
    d1d (decide (a0=7))
def d1b(a0:Int)(j0:Bool):Option (Int):=
 bif j0 then
  some 0
 else
  bif (decide (a0=4))then
   d1c a0 (decide (a0=4))
  else
   bif (decide (a0=8))then
    d1c a0 (decide (a0=8))
   else
    d1c a0 (decide (a0=9))
def d3V(a0:Int):Option (Int):=
 bif (decide (a0=1))then
  d1b a0 (decide (a0=1))
 else
  bif (decide (a0=2))then
   d1b a0 (decide (a0=2))
  else
   d1b a0 (decide (a0=3))
def WV(a0:Lr):Option (Bool):=
 some (bif (decide (a0.kind=8))then true else(decide (a0.kind=9)))
def d5m(a0:Bs)(k0:Nat)(s0:Unit):Option (Ctl (Bool) (Unit) (Unit)):=
 bif (!(bif (bif (bif (bif (decide (97≤(d2u a0 (↑k0:Int))))then(decide ((d2u a0 (↑k0:Int))≤122))else false)then true else(bif (decide (48≤(d2u a0 (↑k0:Int))))then(decide ((d2u a0 (↑k0:Int))≤57))else false))then true else(decide ((d2u a0 (↑k0:Int))=95)))then true else(decide ((d2u a0 (↑k0:Int))=45))))then
  some (.ret false)
 else
  some (.nxt ())
def d5n(t0:Unit):Option (Bool):=
 some true
def termName(a0:Bs):Option (Bool):=
 chk (i4J (!(bif (decide ((↑a0.length:Int)=0))then true else(decide (30<(↑a0.length:Int))))) (0<(↑a0.length:Int))) <|
 chk (i4J (!(bif (bif (decide ((↑a0.length:Int)=0))then true else(decide (30<(↑a0.length:Int))))then true else(decide ((d2u a0 0)<97)))) (0<(↑a0.length:Int))) <|
 bif (bif (bif (bif (decide ((↑a0.length:Int)=0))then true else(decide (30<(↑a0.length:Int))))then true else(decide ((d2u a0 0)<97)))then true else(decide (122<(d2u a0 0))))then
  some false
 else
  chk (a0.length≤9223372036854775807) <|
  WL (Xc (d5m a0) a0.length ()) (d5n)
def d2f(a0:Lr)(WH:Int)(k2:Nat)(s2:Unit):Option (Ctl (WC×Int) (Unit) (Unit)):=
 (termName (get a0.words k2)).bind fun v9=>
 bif (!v9)then
  (Zl 10 WH).bind fun v10=>
  some (.ret (v10,(wr .i64 (WH+1))))
 else
  some (.nxt ())
def d2h(self:(Lr)→(Int)→(Int)→(Bool)→Option (WC×Int))(a0:Lr)(a1:Int)(Zz:Bool)(k3:Nat)(s3:Int):Option (Ctl (WC×Int) (Int) (Int)):=
 (self (get a0.subs k3) (wr .i64 (a1+1)) s3 Zz).bind fun v12=>
 bif (!decide (v12.1.code=0))then
  some (.ret (v12.1,v12.2))
 else
  some (.nxt v12.2)
def d2i(t3:Int):Option (WC×Int):=
 some ((WC.mk 0 0),t3)
def d2g(self:(Lr)→(Int)→(Int)→(Bool)→Option (WC×Int))(a0:Lr)(a1:Int)(Zz:Bool)(WH:Int)(t2:Unit):Option (WC×Int):=
 WL (Xc (d2h self a0 a1 Zz) a0.subs.length (wr .i64 (WH+1))) (d2i)
def YQ(self:(Lr)→(Int)→(Int)→(Bool)→Option (WC×Int))(a0:Lr)(j0:Int)(WH:Int)(a1:Int)(Zz:Bool)(j1:Bool):Option (WC×Int):=
 bif (bif (!decide ((↑a0.subs.length:Int)=j0))then true else(!j1))then
  (Zl 9 WH).bind fun v4=>
  some (v4,(wr .i64 (WH+1)))
 else
  (gd (!(decide (a0.kind=2))) (WV a0) default).bind fun v5=>
  (gd (bif (bif (decide (a0.kind=2))then true else v5)then true else(decide (a0.kind=10))) (termName a0.name) default).bind fun v6=>
  bif (bif (bif (bif (decide (a0.kind=2))then true else v5)then true else(decide (a0.kind=10)))then(!v6)else false)then
   (Zl 10 WH).bind fun v7=>
   some (v7,(wr .i64 (WH+1)))
  else
   bif (bif (!(bif (bif (decide (a0.kind=2))then true else v5)then true else(decide (a0.kind=10))))then(!decide (a0.name=[]))else false)then
    (Zl 5 WH).bind fun v8=>
    some (v8,(wr .i64 (WH+1)))
   else
    WL (Xc (d2f a0 WH) a0.words.length ()) (d2g self a0 a1 Zz WH)
def ZE(self:(Lr)→(Int)→(Int)→(Bool)→Option (WC×Int))(WH:Int)(a0:Lr)(a1:Int)(Zz:Bool)(j0:Int):Option (WC×Int):=
 bif (decide (j0<0))then
  (Zl 4 WH).bind fun v3=>
  some (v3,(wr .i64 (WH+1)))
 else
  bif (decide (a0.kind=2))then
   YQ self a0 j0 WH a1 Zz (decide ((↑a0.words.length:Int)≤3))
  else
   bif (decide (a0.kind=3))then
    YQ self a0 j0 WH a1 Zz (decide ((↑a0.words.length:Int)=2))
   else
    YQ self a0 j0 WH a1 Zz (decide ((↑a0.words.length:Int)=0))
def XK:Nat→(Lr)→(Int)→(Int)→(Bool)→Option (WC×Int)
 |0,_,_,_,_=>none
 |n+1,a0,a1,WH,Zz=>
  bif (bif (decide (200<(wr .i64 (WH+1))))then true else(decide (40<a1)))then
   (Zl 1 WH).bind fun v1=>
   some (v1,(wr .i64 (WH+1)))
  else
   (d3V a0.kind).bind fun v2=>
   bif (bif (decide (a0.kind=10))then Zz else false)then
    ZE (XK n) WH a0 a1 Zz 0
   else
    ZE (XK n) WH a0 a1 Zz v2
def d4r(n:Nat)(a0:Lr)(a1:Bool):Option (WC):=
 (XK n a0 1 0 a1).bind fun v1=>
 some v1.1
def YM(n:Nat)(a0:Lr):Option (WC):=
 (d4r n a0 false).bind fun v1=>
 some v1
def YO(a0:Wu):Option ((List Bs)):=
 (d8h [a0.words,a0.WO,a0.parts]).bind fun v2=>
 some v2
def XI(a0:Int)(a1:Int):Option (WC):=
 some (WC.mk a0 a1)
def Yx(a1:Bs)(a0:(List Bs))(k0:Nat)(s0:Unit):Option (Ctl (Int) (Unit) (Unit)):=
 bif (decide (a1=(get a0 k0)))then
  some (.ret (↑k0:Int))
 else
  some (.nxt ())
def Yy(t0:Unit):Option (Int):=
 some (-1)
def Zc(a0:(List Bs))(a1:Bs):Option (Int):=
 WL (Xc (Yx a1 a0) a0.length ()) (Yy)
def Ww(a0:(List Bs))(a1:Bs):Option (Bool):=
 (Zc a0 a1).bind fun v1=>
 some (decide (0≤v1))
def YV(a1:(List Bs))(a0:Lr)(k0:Nat)(s0:(List Bs)):Option (Ctl ((List Bs)) ((List Bs)) ((List Bs))):=
 (Ww a1 (get a0.words k0)).bind fun v8=>
 bif (!v8)then
  Zo (s0++[(get a0.words k0)]) fun c10=>
  chk (c10.length*16≤top∧c10.length≤top) <|
  some (.nxt c10)
 else
  some (.nxt s0)
def YW(self:(Lr)→((List Bs))→((List Bs))→Option ((List Bs)))(a0:Lr)(j1:(List Bs))(k2:Nat)(s2:(List Bs)):Option (Ctl ((List Bs)) ((List Bs)) ((List Bs))):=
 (self (get a0.subs k2) j1 s2).bind fun v26=>
 some (.nxt v26)
def YX(t2:(List Bs)):Option ((List Bs)):=
 some t2
def Xw(self:(Lr)→((List Bs))→((List Bs))→Option ((List Bs)))(a0:Lr)(t0:(List Bs))(j1:(List Bs)):Option ((List Bs)):=
 WL (Xc (YW self a0 j1) a0.subs.length t0) (YX)
def YZ(self:(Lr)→((List Bs))→((List Bs))→Option ((List Bs)))(a0:Lr)(a1:(List Bs))(t0:(List Bs)):Option ((List Bs)):=
 (WV a0).bind fun v15=>
 bif v15 then
  chk (0≤(↑a1.length:Int)∧0≤(↑a1.length:Int)) <|
  Zo (a1++[a0.name]) fun c19=>
  chk (c19.length*16≤top∧c19.length≤top) <|
  Xw self a0 t0 c19
 else
  Xw self a0 t0 a1
def Xb:Nat→(Lr)→((List Bs))→((List Bs))→Option ((List Bs))
 |0,_,_,_=>none
 |n+1,a0,a1,l1=>
  WL (Xc (YV a1 a0) a0.words.length l1) (YZ (Xb n) a0 a1)
def Xy(l0:(List Bs)):Option ((List Bs)):=
 chk (l0.length<4611686018427387904) (some (d4S cfB l0))
def XT(l0:(List Bs)):Option (List Bs):=
 chk (l0.length≤9223372036854775807) (some (cpt l0))
def Yr(n:Nat)(a0:Lr):Option ((List Bs)):=
 (Xb n a0 [] []).bind fun v1=>
 (Xy v1).bind fun v3=>
 (XT v3).bind fun v5=>
 some (Lib.compact v3)
def d2j(self:(Lr)→(Bs)→Option (Bool×Bool))(a0:Lr)(a1:Bs)(k1:Nat)(s1:Bool×Bool):Option (Ctl (Bool×Bool) (Bool×Bool) (Bool×Bool)):=
 (self (get a0.subs k1) a1).bind fun v2=>
 some (.nxt ((bif s1.1 then true else v2.1),(bif s1.2 then true else v2.2)))
def d2k(t1:Bool×Bool):Option (Bool×Bool):=
 some (t1.1,t1.2)
def ZF(self:(Lr)→(Bs)→Option (Bool×Bool))(a0:Lr)(a1:Bs)(j0:Bool×Bool):Option (Bool×Bool):=
 WL (Xc (d2j self a0 a1) a0.subs.length (j0.1,j0.2)) (d2k)
def YH:Nat→(Lr)→(Bs)→Option (Bool×Bool)
 |0,_,_=>none
 |n+1,a0,a1=>
  bif (bif (decide (a0.kind=2))then(decide (a0.name=a1))else false)then
   ZF (YH n) a0 a1 ((decide (0<(↑a0.words.length:Int))),(decide ((↑a0.words.length:Int)=0)))
  else
   ZF (YH n) a0 a1 (false,false)
def Zd(self:(Lr)→Option ((List Bs)))(a0:Lr)(k1:Nat)(s1:(List Bs)):Option (Ctl ((List Bs)) ((List Bs)) ((List Bs))):=
 (self (get a0.subs k1)).bind fun v14=>
 Zo (s1++v14) fun c15=>
 chk (c15.length*16≤top∧c15.length≤top) <|
 some (.nxt c15)
def Ze(t1:(List Bs)):Option ((List Bs)):=
 some t1
def XL(self:(Lr)→Option ((List Bs)))(a0:Lr)(j0:(List Bs)):Option ((List Bs)):=
 WL (Xc (Zd self a0) a0.subs.length j0) (Ze)
def WI:Nat→(Lr)→Option ((List Bs))
 |0,_=>none
 |n+1,a0=>
  (WV a0).bind fun v1=>
  bif v1 then
   Zo ([]++[a0.name]) fun c3=>
   chk (c3.length*16≤top∧c3.length≤top) <|
   XL (WI n) a0 c3
  else
   XL (WI n) a0 []
def ZY(n:Nat)(v2:(List Bs))(a0:Wu)(v4:(List Bs))(k0:Nat)(s0:Unit):Option (Ctl (WC) (Unit) (Unit)):=
 (termName (get v2 k0)).bind fun v17=>
 bif (!v17)then
  (XI 10 (↑k0:Int)).bind fun v18=>
  some (.ret v18)
 else
  chk (0≤(↑k0:Int)∧k0≤v2.length) <|
  (Ww (v2.take k0) (get v2 k0)).bind fun v21=>
  bif v21 then
   (XI 7 (↑k0:Int)).bind fun v22=>
   some (.ret v22)
  else
   (YH n a0.form (get v2 k0)).bind fun v23=>
   bif (decide ((↑k0:Int)<(↑a0.words.length:Int)))then
    (Ww v4 (get v2 k0)).bind fun v24=>
    bif (!v24)then
     (XI 15 (↑k0:Int)).bind fun v25=>
     some (.ret v25)
    else
     some (.nxt ())
   else
    bif (decide ((↑k0:Int)<(wr .i64 ((↑a0.words.length:Int)+(↑a0.WO.length:Int)))))then
     bif (bif (!v23.1)then(!v23.2)else false)then
      (XI 15 (↑k0:Int)).bind fun v26=>
      some (.ret v26)
     else
      some (.nxt ())
    else
     bif v23.1 then
      (XI 5 (↑k0:Int)).bind fun v27=>
      some (.ret v27)
     else
      bif (!v23.2)then
       (XI 15 (↑k0:Int)).bind fun v28=>
       some (.ret v28)
      else
       some (.nxt ())
def d0b(v29:(List Bs))(a0:Wu)(k1:Nat)(s1:Unit):Option (Ctl (WC) (Unit) (Unit)):=
 chk (0≤(↑k1:Int)∧k1≤v29.length) <|
 (Ww (v29.take k1) (get v29 k1)).bind fun v37=>
 (gd (!v37) (Ww a0.words (get v29 k1)) default).bind fun v38=>
 bif (bif v37 then true else v38)then
  (XI 7 (-1)).bind fun v39=>
  some (.ret v39)
 else
  some (.nxt ())
def d0c(t1:Unit):Option (WC):=
 some (WC.mk 0 0)
def d0a(n:Nat)(a0:Wu)(t0:Unit):Option (WC):=
 (WI n a0.form).bind fun v29=>
 WL (Xc (d0b v29 a0) v29.length ()) (d0c)
def d0h(n:Nat)(a0:Wu):Option (WC):=
 (YM n a0.form).bind fun v1=>
 bif (!decide (v1.code=0))then
  some v1
 else
  (YO a0).bind fun v2=>
  bif (decide (300<(↑v2.length:Int)))then
   (XI 2 (-1)).bind fun v3=>
   some v3
  else
   (Yr n a0.form).bind fun v4=>
   WL (Xc (ZY n v2 a0 v4) v2.length ()) (d0a n a0)
def Xz(a0:Wu)(a1:Lr):Option (Bool):=
 (gd (bif (decide (a1.kind=2))then(decide ((↑a1.words.length:Int)=0))else false) (Ww a0.parts a1.name) default).bind fun v1=>
 some (bif (bif (decide (a1.kind=2))then(decide ((↑a1.words.length:Int)=0))else false)then v1 else false)
def Zf(a0:(List Bs)):Option (List Bs):=
 some a0
def WS(a0 l0:(List Bs)):Option (List Bs):=
 bif l0.isEmpty then some a0 else none
def i3n(a1:List Bs):Bs→Bool:=fun x=> !decide (x∈a1)
def i4B(self:Lr→List Bs→List (Bs×List Bs)→Option (List (Bs×List Bs)))(f:Lr)(c:List Bs)(k:Nat)(s:List (Bs×List Bs)):Option (Ctl (List (Bs×List Bs)) (List (Bs×List Bs)) (List (Bs×List Bs))):=
 (self (get f.subs k) c s).bind fun v=>some (.nxt v)
def i1U(self:Lr→List Bs→List (Bs×List Bs)→Option (List (Bs×List Bs)))(f:Lr)(m:List (Bs×List Bs))(c:List Bs):Option (List (Bs×List Bs)):=
 WL (Xc (i4B self f c) f.subs.length m) (fun t=>some t)
def i0K(self:Lr→List Bs→List (Bs×List Bs)→Option (List (Bs×List Bs)))(f:Lr)(a1:List Bs)(m:List (Bs×List Bs)):Option (List (Bs×List Bs)):=
 (WV f).bind fun v3=>
 bif v3 then
  (WS a1 []).bind fun v4=>
  Zo (v4++[f.name]) fun c6=>
  chk (c6.length*16≤top∧c6.length≤top) <|
  i1U self f m c6
 else
  i1U self f m a1
def Xo:Nat→Lr→List Bs→Wu→List (Bs×List Bs)→Option (List (Bs×List Bs))
 |0,_,_,_,_=>none
 |n+1,f,a1,s,m=>
  (Xz s f).bind fun v1=>
  bif v1 then
   chk (f.name∈s.parts∧((assoc f.name m).getD a1).length≤1000000) <|
   i0K (fun f a m=>Xo n f a s m) f a1 (Wz f.name (flt (i3n a1) ((assoc f.name m).getD a1)) m)
  else
   i0K (fun f a m=>Xo n f a s m) f a1 m
def d2a(n:Nat)(s:Wu):Option (List (Bs×List Bs)):=chk (s.parts.Nodup) (Xo n s.form [] s [])
def d1G(WG:(Lr)→((List Bs))→(Int)→(Bs)→((List Bs))→((List Lr))→((List Bs))→((List Bs))→((List Bs))→(Int)→(Bs)→((List Bs))→((List Lr))→((List (Bs×(List Bs))))→((List Bs))→Option (Bool))(a0:Lr)(Zz:Int)(i0R:Bs)(i0S:(List Bs))(i0T:(List Lr))(i0U:(List Bs))(i0V:(List Bs))(i0W:(List Bs))(i0X:Int)(i0Y:Bs)(i0Z:(List Bs))(d4e:(List Lr))(m3:(List (Bs×(List Bs))))(ZB:(List Bs))(d0s:(List Bs)):Option (Bool):=
 (WG a0 d0s Zz i0R i0S i0T i0U i0V i0W i0X i0Y i0Z d4e m3 ZB).bind fun v1=>
 some v1
def XD(WG:(Lr)→((List Bs))→(Int)→(Bs)→((List Bs))→((List Lr))→((List Bs))→((List Bs))→((List Bs))→(Int)→(Bs)→((List Bs))→((List Lr))→((List (Bs×(List Bs))))→((List Bs))→Option (Bool))(a0:(List Lr))(Zz:Int)(i0R:Bs)(i0S:(List Bs))(i0T:(List Lr))(i0U:(List Bs))(i0V:(List Bs))(i0W:(List Bs))(i0X:Int)(i0Y:Bs)(i0Z:(List Bs))(d4e:(List Lr))(m3:(List (Bs×(List Bs))))(ZB:(List Bs))(d0s:(List Bs))(k0:Nat)(s0:Unit):Option (Ctl (Int) (Unit) (Unit)):=
 (d1G WG (get a0 k0) Zz i0R i0S i0T i0U i0V i0W i0X i0Y i0Z d4e m3 ZB d0s).bind fun v1=>
 bif v1 then
  some (.ret (↑k0:Int))
 else
  some (.nxt ())
def Yv(t0:Unit):Option (Int):=
 some (-1)
def XV(WG:(Lr)→((List Bs))→(Int)→(Bs)→((List Bs))→((List Lr))→((List Bs))→((List Bs))→((List Bs))→(Int)→(Bs)→((List Bs))→((List Lr))→((List (Bs×(List Bs))))→((List Bs))→Option (Bool))(a0:(List Lr))(Zz:Int)(i0R:Bs)(i0S:(List Bs))(i0T:(List Lr))(i0U:(List Bs))(i0V:(List Bs))(i0W:(List Bs))(i0X:Int)(i0Y:Bs)(i0Z:(List Bs))(d4e:(List Lr))(m3:(List (Bs×(List Bs))))(ZB:(List Bs))(d0s:(List Bs)):Option (Int):=
 WL (Xc (XD WG a0 Zz i0R i0S i0T i0U i0V i0W i0X i0Y i0Z d4e m3 ZB d0s) a0.length ()) (Yv)
def XC(WG:(Lr)→((List Bs))→(Int)→(Bs)→((List Bs))→((List Lr))→((List Bs))→((List Bs))→((List Bs))→(Int)→(Bs)→((List Bs))→((List Lr))→((List (Bs×(List Bs))))→((List Bs))→Option (Bool))(a0:(List Lr))(Zz:Int)(i0R:Bs)(i0S:(List Bs))(i0T:(List Lr))(i0U:(List Bs))(i0V:(List Bs))(i0W:(List Bs))(i0X:Int)(i0Y:Bs)(i0Z:(List Bs))(d4e:(List Lr))(m3:(List (Bs×(List Bs))))(ZB:(List Bs))(d0s:(List Bs)):Option (Bool):=
 (XV WG a0 Zz i0R i0S i0T i0U i0V i0W i0X i0Y i0Z d4e m3 ZB d0s).bind fun v1=>
 some (decide (0≤v1))
def d0K(ZV:(List Bs))(a0:Lr)(a1:(List Bs))(k2:Nat)(s2:Unit):Option (Ctl (Bool) (Unit) (Unit)):=
 (Ww ZV (get a0.words k2)).bind fun v5=>
 (gd v5 (Ww a1 (get a0.words k2)) default).bind fun v6=>
 bif (bif v5 then(!v6)else false)then
  some (.ret true)
 else
  some (.nxt ())
def YG(self:(Lr)→((List Bs))→(Int)→(Bs)→((List Bs))→((List Lr))→((List Bs))→((List Bs))→((List Bs))→(Int)→(Bs)→((List Bs))→((List Lr))→((List (Bs×(List Bs))))→((List Bs))→Option (Bool))(a0:Lr)(WH:Int)(Zh:Bs)(Zi:(List Bs))(Xf:(List Lr))(YS:(List Bs))(Zb:(List Bs))(Zj:(List Bs))(d1S:Int)(d1T:Bs)(d1U:(List Bs))(XQ:(List Lr))(m2:(List (Bs×(List Bs))))(ZV:(List Bs))(j3:(List Bs)):Option (Bool):=
 (XC self a0.subs WH Zh Zi Xf YS Zb Zj d1S d1T d1U XQ m2 ZV j3).bind fun v15=>
 some v15
def d0L(self:(Lr)→((List Bs))→(Int)→(Bs)→((List Bs))→((List Lr))→((List Bs))→((List Bs))→((List Bs))→(Int)→(Bs)→((List Bs))→((List Lr))→((List (Bs×(List Bs))))→((List Bs))→Option (Bool))(a0:Lr)(a1:(List Bs))(WH:Int)(Zh:Bs)(Zi:(List Bs))(Xf:(List Lr))(YS:(List Bs))(Zb:(List Bs))(Zj:(List Bs))(d1S:Int)(d1T:Bs)(d1U:(List Bs))(XQ:(List Lr))(m2:(List (Bs×(List Bs))))(ZV:(List Bs))(t2:Unit):Option (Bool):=
 (WV a0).bind fun v7=>
 bif v7 then
  (WS a1 []).bind fun v8=>
  Zo (v8++[a0.name]) fun c10=>
  chk (c10.length*16≤top∧c10.length≤top) <|
  YG self a0 WH Zh Zi Xf YS Zb Zj d1S d1T d1U XQ m2 ZV c10
 else
  YG self a0 WH Zh Zi Xf YS Zb Zj d1S d1T d1U XQ m2 ZV a1
def YF(self:(Lr)→((List Bs))→(Int)→(Bs)→((List Bs))→((List Lr))→((List Bs))→((List Bs))→((List Bs))→(Int)→(Bs)→((List Bs))→((List Lr))→((List (Bs×(List Bs))))→((List Bs))→Option (Bool))(ZV:(List Bs))(a0:Lr)(a1:(List Bs))(WH:Int)(Zh:Bs)(Zi:(List Bs))(Xf:(List Lr))(YS:(List Bs))(Zb:(List Bs))(Zj:(List Bs))(d1S:Int)(d1T:Bs)(d1U:(List Bs))(XQ:(List Lr))(m2:(List (Bs×(List Bs))))(j0:Unit):Option (Bool):=
 WL (Xc (d0K ZV a0 a1) a0.words.length ()) (d0L self a0 a1 WH Zh Zi Xf YS Zb Zj d1S d1T d1U XQ m2 ZV)
def d0M(a1:(List Bs))(a0:Lr)(m2:(List (Bs×(List Bs))))(k1:Nat)(s1:Unit):Option (Ctl (Bool) (Unit) (Unit)):=
 (Ww a1 (get ((assoc a0.name m2).getD default) k1)).bind fun v2=>
 bif (!v2)then
  some (.ret true)
 else
  some (.nxt ())
def d0N(self:(Lr)→((List Bs))→(Int)→(Bs)→((List Bs))→((List Lr))→((List Bs))→((List Bs))→((List Bs))→(Int)→(Bs)→((List Bs))→((List Lr))→((List (Bs×(List Bs))))→((List Bs))→Option (Bool))(ZV:(List Bs))(a0:Lr)(a1:(List Bs))(WH:Int)(Zh:Bs)(Zi:(List Bs))(Xf:(List Lr))(YS:(List Bs))(Zb:(List Bs))(Zj:(List Bs))(d1S:Int)(d1T:Bs)(d1U:(List Bs))(XQ:(List Lr))(m2:(List (Bs×(List Bs))))(t1:Unit):Option (Bool):=
 YF self ZV a0 a1 WH Zh Zi Xf YS Zb Zj d1S d1T d1U XQ m2 ()
def Xd:Nat→(Lr)→((List Bs))→(Int)→(Bs)→((List Bs))→((List Lr))→((List Bs))→((List Bs))→((List Bs))→(Int)→(Bs)→((List Bs))→((List Lr))→((List (Bs×(List Bs))))→((List Bs))→Option (Bool)
 |0,_,_,_,_,_,_,_,_,_,_,_,_,_,_,_=>none
 |n+1,a0,a1,WH,Zh,Zi,Xf,YS,Zb,Zj,d1S,d1T,d1U,XQ,m2,ZV=>
  (Xz (Wu.mk (Lr.mk WH Zh Zi Xf) YS Zb Zj) a0).bind fun v1=>
  bif v1 then
   WL (Xc (d0M a1 a0 m2) (((assoc a0.name m2).getD default).length) ()) (d0N (Xd n) ZV a0 a1 WH Zh Zi Xf YS Zb Zj d1S d1T d1U XQ m2)
  else
   YF (Xd n) ZV a0 a1 WH Zh Zi Xf YS Zb Zj d1S d1T d1U XQ m2 ()
def d1A(n:Nat)(a0:Wq):Option (Bool):=
 (d2a n a0.from_).bind fun v1=>
 (WI n a0.from_.form).bind fun v2=>
 (Xd n a0.to_ [] a0.from_.form.kind a0.from_.form.name a0.from_.form.words a0.from_.form.subs a0.from_.words a0.from_.WO a0.from_.parts a0.to_.kind a0.to_.name a0.to_.words a0.to_.subs v1 v2).bind fun v3=>
 some v3
def d0P(v27:(List Bs))(a0:(List Wq))(k0:Nat)(k2:Nat)(s2:Unit):Option (Ctl (Ctl (WC) (Unit) (Unit)) (Unit) (Unit)):=
 chk (0≤(↑k2:Int)∧k2≤v27.length) <|
 (Ww (v27.take k2) (get v27 k2)).bind fun v35=>
 (gd (!v35) (Ww ((get a0 k0).from_.words) (get v27 k2)) default).bind fun v36=>
 bif (bif v35 then true else v36)then
  (Xr 7 (↑k0:Int)).bind fun v37=>
  some (.ret (.ret v37))
 else
  some (.nxt ())
def d0Q(n:Nat)(a0:(List Wq))(k0:Nat)(t2:Unit):Option (Ctl (WC) (Unit) (Unit)):=
 (d1A n (get a0 k0)).bind fun v38=>
 bif v38 then
  (Xr 15 (↑k0:Int)).bind fun v39=>
  some (.ret v39)
 else
  some (.nxt ())
def d0O(n:Nat)(a0:(List Wq))(k0:Nat)(s0:Unit):Option (Ctl (WC) (Unit) (Unit)):=
 (d0h n ((get a0 k0).from_)).bind fun v21=>
 bif (!decide (v21.code=0))then
  (Xr v21.code (↑k0:Int)).bind fun v22=>
  some (.ret v22)
 else
  (Xz ((get a0 k0).from_) ((get a0 k0).from_.form)).bind fun v23=>
  bif v23 then
   (Xr 5 (↑k0:Int)).bind fun v24=>
   some (.ret v24)
  else
   (YM n ((get a0 k0).to_)).bind fun v25=>
   bif (!decide (v25.code=0))then
    (Xr v25.code (↑k0:Int)).bind fun v26=>
    some (.ret v26)
   else
    (WI n ((get a0 k0).to_)).bind fun v27=>
    WL (Xc (d0P v27 a0 k0) v27.length ()) (d0Q n a0 k0)
def d0R(t0:Unit):Option (WC):=
 some (WC.mk 0 0)
def d0Z(n:Nat)(a0:(List Wq)):Option (WC):=
 bif (decide (40<(↑a0.length:Int)))then
  (Xr 2 (-1)).bind fun v1=>
  some v1
 else
  WL (Xc (d0O n a0) a0.length ()) (d0R)
def ZU(n:Nat)(a0:(List Wq))(a1:Lr):Option (WC):=
 (d0Z n a0).bind fun v1=>
 bif (!decide (v1.code=0))then
  some v1
 else
  (YM n a1).bind fun v2=>
  some v2
def Zv(WH:(List Wq))(Xf:Int)(m1:(List (Bs×Int)))(l2:(List Wp)):Option (Bs×Int):=
 (itoa (wr .i64 (Xf+1))).bind fun v1=>
 chk (Yk [63] v1) <|
 some ((d9u [63] v1),(wr .i64 (Xf+1)))
def ZM(a1:Lr)(m3:(List (Bs×Bs)))(k0:Nat)(s0:(List Bs)):Option (Ctl (Lr×Int) ((List Bs)) ((List Bs))):=
 bif (assoc (get a1.words k0) m3).isSome then
  Zo (s0++[((assoc (get a1.words k0) m3).getD default)]) fun c14=>
  chk (c14.length*16≤top∧c14.length≤top) <|
  some (.nxt c14)
 else
  Zo (s0++[(get a1.words k0)]) fun c20=>
  chk (c20.length*16≤top∧c20.length≤top) <|
  some (.nxt c20)
def ZO(self:(Lr)→((List Wq))→(Int)→((List (Bs×Int)))→((List Wp))→((List (Bs×Bs)))→Option (Lr×Int))(a1:Lr)(WH:(List Wq))(m1:(List (Bs×Int)))(l2:(List Wp))(c27:(List (Bs×Bs)))(k1:Nat)(s1:Int×(List Lr)):Option (Ctl (Lr×Int) (Int×(List Lr)) (Int×(List Lr))):=
 (self (get a1.subs k1) WH s1.1 m1 l2 c27).bind fun v36=>
 Zo (s1.2++[v36.1]) fun c38=>
 chk (c38.length*72≤top∧c38.length≤top) <|
 some (.nxt (v36.2,c38))
def ZP(a1:Lr)(v26:Bs×Int)(t0:(List Bs))(t1:Int×(List Lr)):Option (Lr×Int):=
 some ((Lr.mk a1.kind v26.1 t0 t1.2),t1.1)
def ZQ(self:(Lr)→((List Wq))→(Int)→((List (Bs×Int)))→((List Wp))→((List (Bs×Bs)))→Option (Lr×Int))(a1:Lr)(WH:(List Wq))(m1:(List (Bs×Int)))(l2:(List Wp))(m3:(List (Bs×Bs)))(k2:Nat)(s2:Int×(List Lr)):Option (Ctl (Lr×Int) (Int×(List Lr)) (Int×(List Lr))):=
 (self (get a1.subs k2) WH s2.1 m1 l2 m3).bind fun v50=>
 Zo (s2.2++[v50.1]) fun c52=>
 chk (c52.length*72≤top∧c52.length≤top) <|
 some (.nxt (v50.2,c52))
def ZR(a1:Lr)(t0:(List Bs))(t2:Int×(List Lr)):Option (Lr×Int):=
 some ((Lr.mk a1.kind a1.name t0 t2.2),t2.1)
def ZN(self:(Lr)→((List Wq))→(Int)→((List (Bs×Int)))→((List Wp))→((List (Bs×Bs)))→Option (Lr×Int))(a1:Lr)(WH:(List Wq))(Xf:Int)(m1:(List (Bs×Int)))(l2:(List Wp))(m3:(List (Bs×Bs)))(t0:(List Bs)):Option (Lr×Int):=
 (WV a1).bind fun v25=>
 bif v25 then
  (Zv WH Xf m1 l2).bind fun v26=>
  Zo (Wz a1.name v26.1 m3) fun c27=>
  WL (Xc (ZO self a1 WH m1 l2 c27) a1.subs.length (v26.2,[])) (ZP a1 v26 t0)
 else
  WL (Xc (ZQ self a1 WH m1 l2 m3) a1.subs.length (Xf,[])) (ZR a1 t0)
def XB:Nat→(Lr)→((List Wq))→(Int)→((List (Bs×Int)))→((List Wp))→((List (Bs×Bs)))→Option (Lr×Int)
 |0,_,_,_,_,_,_=>none
 |n+1,a1,WH,Xf,m1,l2,m3=>
  WL (Xc (ZM a1 m3) a1.words.length []) (ZN (XB n) a1 WH Xf m1 l2 m3)
def d0D(a1:Lr)(k0:Nat)(s0:(List Bs)):Option (Ctl (Lr×Int) ((List Bs)) ((List Bs))):=
 bif false then
  Zo (s0++[([]:Bs)]) fun c14=>
  chk (c14.length*16≤top∧c14.length≤top) <|
  some (.nxt c14)
 else
  Zo (s0++[(get a1.words k0)]) fun c20=>
  chk (c20.length*16≤top∧c20.length≤top) <|
  some (.nxt c20)
def d0F(n:Nat)(a1:Lr)(WH:(List Wq))(m1:(List (Bs×Int)))(l2:(List Wp))(c27:(List (Bs×Bs)))(k1:Nat)(s1:Int×(List Lr)):Option (Ctl (Lr×Int) (Int×(List Lr)) (Int×(List Lr))):=
 (XB n (get a1.subs k1) WH s1.1 m1 l2 c27).bind fun v37=>
 Zo (s1.2++[v37.1]) fun c39=>
 chk (c39.length*72≤top∧c39.length≤top) <|
 some (.nxt (v37.2,c39))
def d0G(a1:Lr)(v26:Bs×Int)(t0:(List Bs))(t1:Int×(List Lr)):Option (Lr×Int):=
 some ((Lr.mk a1.kind v26.1 t0 t1.2),t1.1)
def d0H(self:(Lr)→((List Wq))→(Int)→((List (Bs×Int)))→((List Wp))→Option (Lr×Int))(a1:Lr)(WH:(List Wq))(m1:(List (Bs×Int)))(l2:(List Wp))(k2:Nat)(s2:Int×(List Lr)):Option (Ctl (Lr×Int) (Int×(List Lr)) (Int×(List Lr))):=
 (self (get a1.subs k2) WH s2.1 m1 l2).bind fun v51=>
 Zo (s2.2++[v51.1]) fun c53=>
 chk (c53.length*72≤top∧c53.length≤top) <|
 some (.nxt (v51.2,c53))
def d0I(a1:Lr)(t0:(List Bs))(t2:Int×(List Lr)):Option (Lr×Int):=
 some ((Lr.mk a1.kind a1.name t0 t2.2),t2.1)
def d0E(self:(Lr)→((List Wq))→(Int)→((List (Bs×Int)))→((List Wp))→Option (Lr×Int))(n:Nat)(a1:Lr)(WH:(List Wq))(Xf:Int)(m1:(List (Bs×Int)))(l2:(List Wp))(t0:(List Bs)):Option (Lr×Int):=
 (WV a1).bind fun v25=>
 bif v25 then
  (Zv WH Xf m1 l2).bind fun v26=>
  Zo (Wz a1.name v26.1 []) fun c27=>
  WL (Xc (d0F n a1 WH m1 l2 c27) a1.subs.length (v26.2,[])) (d0G a1 v26 t0)
 else
  WL (Xc (d0H self a1 WH m1 l2) a1.subs.length (Xf,[])) (d0I a1 t0)
def Ys:Nat→(Lr)→((List Wq))→(Int)→((List (Bs×Int)))→((List Wp))→Option (Lr×Int)
 |0,_,_,_,_,_=>none
 |n+1,a1,WH,Xf,m1,l2=>
  WL (Xc (d0D a1) a1.words.length []) (d0E (Ys n) n a1 WH Xf m1 l2)
def d0d(self:(Lr)→(Bs)→((List Wq))→(Int)→((List (Bs×Int)))→((List Wp))→Option ((List (Bs×Int))))(a2:Bs)(a1:Lr)(WH:(List Wq))(Xf:Int)(l2:(List Wp))(k0:Nat)(s0:(List (Bs×Int))):Option (Ctl ((List (Bs×Int))) ((List (Bs×Int))) ((List (Bs×Int)))):=
 (itoa (↑k0:Int)).bind fun v6=>
 chk (Yk a2 v6) <|
 (self (get a1.subs k0) (d9u a2 v6) WH Xf s0 l2).bind fun v8=>
 some (.nxt v8)
def d0e(t0:(List (Bs×Int))):Option ((List (Bs×Int))):=
 some t0
def YE:Nat→(Lr)→(Bs)→((List Wq))→(Int)→((List (Bs×Int)))→((List Wp))→Option ((List (Bs×Int)))
 |0,_,_,_,_,_,_=>none
 |n+1,a1,a2,WH,Xf,m1,l2=>
  Zo (Wz a2 (↑m1.length:Int) m1) fun c1=>
  WL (Xc (d0d (YE n) a2 a1 WH Xf l2) a1.subs.length c1) (d0e)
def d0y(a1:(List Bs))(a0:Lr)(YS:(List Bs))(k0:Nat)(s0:(List Bs)):Option (Ctl (Lr) ((List Bs)) ((List Bs))):=
 (Ww a1 (get a0.words k0)).bind fun v23=>
 bif v23 then
  chk (Yk [63] (get a0.words k0)) <|
  Zo (s0++[(d9u [63] (get a0.words k0))]) fun c26=>
  chk (c26.length*16≤top∧c26.length≤top) <|
  some (.nxt c26)
 else
  (Ww YS (get a0.words k0)).bind fun v31=>
  bif v31 then
   chk (Yk [46] (get a0.words k0)) <|
   Zo (s0++[(d9u [46] (get a0.words k0))]) fun c34=>
   chk (c34.length*16≤top∧c34.length≤top) <|
   some (.nxt c34)
  else
   Zo (s0++[(get a0.words k0)]) fun c40=>
   chk (c40.length*16≤top∧c40.length≤top) <|
   some (.nxt c40)
def d0z(self:(Lr)→((List Bs))→(Int)→(Bs)→((List Bs))→((List Lr))→((List Bs))→((List Bs))→((List Bs))→Option (Lr))(a0:Lr)(j1:Bs×(List Bs))(WH:Int)(Zh:Bs)(Zi:(List Bs))(Xf:(List Lr))(YS:(List Bs))(Zb:(List Bs))(Zj:(List Bs))(k2:Nat)(s2:(List Lr)):Option (Ctl (Lr) ((List Lr)) ((List Lr))):=
 (self (get a0.subs k2) j1.2 WH Zh Zi Xf YS Zb Zj).bind fun v65=>
 Zo (s2++[v65]) fun c67=>
 chk (c67.length*72≤top∧c67.length≤top) <|
 some (.nxt c67)
def d0A(a0:Lr)(j1:Bs×(List Bs))(t0:(List Bs))(t2:(List Lr)):Option (Lr):=
 some (Lr.mk a0.kind j1.1 t0 t2)
def XF(self:(Lr)→((List Bs))→(Int)→(Bs)→((List Bs))→((List Lr))→((List Bs))→((List Bs))→((List Bs))→Option (Lr))(a0:Lr)(WH:Int)(Zh:Bs)(Zi:(List Bs))(Xf:(List Lr))(YS:(List Bs))(Zb:(List Bs))(Zj:(List Bs))(t0:(List Bs))(j1:Bs×(List Bs)):Option (Lr):=
 WL (Xc (d0z self a0 j1 WH Zh Zi Xf YS Zb Zj) a0.subs.length []) (d0A a0 j1 t0)
def d0B(self:(Lr)→((List Bs))→(Int)→(Bs)→((List Bs))→((List Lr))→((List Bs))→((List Bs))→((List Bs))→Option (Lr))(a0:Lr)(a1:(List Bs))(WH:Int)(Zh:Bs)(Zi:(List Bs))(Xf:(List Lr))(YS:(List Bs))(Zb:(List Bs))(Zj:(List Bs))(t0:(List Bs)):Option (Lr):=
 (WV a0).bind fun v45=>
 bif v45 then
  (WS a1 []).bind fun v46=>
  Zo (v46++[a0.name]) fun c48=>
  chk (c48.length*16≤top∧c48.length≤top) <|
  chk (Yk [63] a0.name) <|
  XF self a0 WH Zh Zi Xf YS Zb Zj t0 ((d9u [63] a0.name),c48)
 else
  (Xz (Wu.mk (Lr.mk WH Zh Zi Xf) YS Zb Zj) a0).bind fun v54=>
  bif v54 then
   chk (Yk [43] a0.name) <|
   XF self a0 WH Zh Zi Xf YS Zb Zj t0 ((d9u [43] a0.name),a1)
  else
   (gd (decide (a0.kind=2)) (Ww Zb a0.name) default).bind fun v56=>
   bif (bif (decide (a0.kind=2))then v56 else false)then
    chk (Yk [33] a0.name) <|
    XF self a0 WH Zh Zi Xf YS Zb Zj t0 ((d9u [33] a0.name),a1)
   else
    XF self a0 WH Zh Zi Xf YS Zb Zj t0 (a0.name,a1)
def XJ:Nat→(Lr)→((List Bs))→(Int)→(Bs)→((List Bs))→((List Lr))→((List Bs))→((List Bs))→((List Bs))→Option (Lr)
 |0,_,_,_,_,_,_,_,_,_=>none
 |n+1,a0,a1,WH,Zh,Zi,Xf,YS,Zb,Zj=>
  WL (Xc (d0y a1 a0 YS) a0.words.length []) (d0B (XJ n) a0 a1 WH Zh Zi Xf YS Zb Zj)
def d0C(a0:Bs)(a1:(List Bs))(k0:Nat)(s0:(List Bs)):Option (Ctl ((List Bs)) ((List Bs)) ((List Bs))):=
 chk (Yk a0 (get a1 k0)) <|
 Zo (s0++[(d9u a0 (get a1 k0))]) fun c10=>
 chk (c10.length*16≤top∧c10.length≤top) <|
 some (.nxt c10)
def d2r(t0:(List Bs)):Option ((List Bs)):=
 some t0
def YR(a0:Bs)(a1:(List Bs)):Option ((List Bs)):=
 WL (Xc (d0C a0 a1) a1.length []) (d2r)
def d1w(n:Nat)(a0:Wu):Option (Wu):=
 (XJ n a0.form [] a0.form.kind a0.form.name a0.form.words a0.form.subs a0.words a0.WO a0.parts).bind fun v1=>
 (YR [46] a0.words).bind fun v2=>
 (YR [33] a0.WO).bind fun v3=>
 (YR [43] a0.parts).bind fun v4=>
 some (Wu.mk v1 v2 v3 v4)
def Yz(a1:(List Bs))(a0:(List Bs))(k0:Nat)(s0:Unit):Option (Ctl (Bool) (Unit) (Unit)):=
 chk ((↑k0:Int)<(↑a1.length:Int)) <|
 bif (!decide ((get a0 k0)=(get a1 k0)))then
  some (.ret false)
 else
  some (.nxt ())
def YA(t0:Unit):Option (Bool):=
 some true
def XM(a0:(List Bs))(a1:(List Bs)):Option (Bool):=
 bif (!decide ((↑a0.length:Int)=(↑a1.length:Int)))then
  some false
 else
  WL (Xc (Yz a1 a0) a0.length ()) (YA)
def d3l(self:(Lr)→(Lr)→Option (Bool))(a1:Lr)(a0:Lr)(k0:Nat)(s0:Unit):Option (Ctl (Bool) (Unit) (Unit)):=
 chk ((↑k0:Int)<(↑a1.subs.length:Int)) <|
 (self (get a0.subs k0) (get a1.subs k0)).bind fun v4=>
 bif (!v4)then
  some (.ret false)
 else
  some (.nxt ())
def d3m(t0:Unit):Option (Bool):=
 some true
def d2q:Nat→(Lr)→(Lr)→Option (Bool)
 |0,_,_=>none
 |n+1,a0,a1=>
  (gd (!(bif (!decide (a0.kind=a1.kind))then true else(!decide (a0.name=a1.name)))) (XM a0.words a1.words) default).bind fun v1=>
  bif (bif (bif (bif (!decide (a0.kind=a1.kind))then true else(!decide (a0.name=a1.name)))then true else(!v1))then true else(!decide ((↑a0.subs.length:Int)=(↑a1.subs.length:Int))))then
   some false
  else
   chk (a0.subs.length≤9223372036854775807) <|
   WL (Xc (d3l (d2q n) a1 a0) a0.subs.length ()) (d3m)
def Zu(a1:Bs)(a2:Bs)(m0:(List (Bs×Ws))):Option (Bool×(List (Bs×Ws))):=
 bif (assoc a1 m0).isSome then
  some ((decide ((((assoc a1 m0).getD default).text)=a2)),m0)
 else
  Zo (Wz a1 (Ws.mk a1 a2 (Lr.mk 0 [] [] [])) m0) fun c1=>
  some (true,c1)
def d0o(a1:Lr)(a0:Wu)(a2:Lr)(k2:Nat)(s2:(List (Bs×Ws))):Option (Ctl (Bool×(List (Bs×Ws))) ((List (Bs×Ws))) ((List (Bs×Ws)))):=
 (gd (!(assoc (get a1.words k2) s2).isSome) (Ww a0.words (get a1.words k2)) default).bind fun v12=>
 bif (bif (assoc (get a1.words k2) s2).isSome then true else v12)then
  chk ((↑k2:Int)<(↑a2.words.length:Int)) <|
  (Zu (get a1.words k2) (get a2.words k2) s2).bind fun v14=>
  bif (!v14.1)then
   some (.ret (false,v14.2))
  else
   some (.nxt v14.2)
 else
  chk ((↑k2:Int)<(↑a2.words.length:Int)) <|
  bif (!decide ((get a1.words k2)=(get a2.words k2)))then
   some (.ret (false,s2))
  else
   some (.nxt s2)
def d0q(self:(Wu)→(Lr)→(Lr)→((List (Bs×Ws)))→Option (Bool×(List (Bs×Ws))))(a2:Lr)(a0:Wu)(a1:Lr)(k3:Nat)(s3:(List (Bs×Ws))):Option (Ctl (Bool×(List (Bs×Ws))) ((List (Bs×Ws))) ((List (Bs×Ws)))):=
 chk ((↑k3:Int)<(↑a2.subs.length:Int)) <|
 (self a0 (get a1.subs k3) (get a2.subs k3) s3).bind fun v19=>
 bif (!v19.1)then
  some (.ret (false,v19.2))
 else
  some (.nxt v19.2)
def d0r(t3:(List (Bs×Ws))):Option (Bool×(List (Bs×Ws))):=
 some (true,t3)
def d0p(self:(Wu)→(Lr)→(Lr)→((List (Bs×Ws)))→Option (Bool×(List (Bs×Ws))))(a2:Lr)(a0:Wu)(a1:Lr)(t2:(List (Bs×Ws))):Option (Bool×(List (Bs×Ws))):=
 WL (Xc (d0q self a2 a0 a1) a1.subs.length t2) (d0r)
def Yb(self:(Wu)→(Lr)→(Lr)→((List (Bs×Ws)))→Option (Bool×(List (Bs×Ws))))(a1:Lr)(a0:Wu)(a2:Lr)(j1:(List (Bs×Ws))):Option (Bool×(List (Bs×Ws))):=
 WL (Xc (d0o a1 a0 a2) a1.words.length j1) (d0p self a2 a0 a1)
def Xv(self:(Wu)→(Lr)→(Lr)→((List (Bs×Ws)))→Option (Bool×(List (Bs×Ws))))(a1:Lr)(a2:Lr)(m0:(List (Bs×Ws)))(a0:Wu)(j0:Bool):Option (Bool×(List (Bs×Ws))):=
 bif j0 then
  (Zu a1.name a2.name m0).bind fun v7=>
  bif (!v7.1)then
   some (false,v7.2)
  else
   Yb self a1 a0 a2 v7.2
 else
  bif (!decide (a1.name=a2.name))then
   some (false,m0)
  else
   Yb self a1 a0 a2 m0
def Xa:Nat→(Wu)→(Lr)→(Lr)→((List (Bs×Ws)))→Option (Bool×(List (Bs×Ws)))
 |0,_,_,_,_=>none
 |n+1,a0,a1,a2,m0=>
  (Xz a0 a1).bind fun v1=>
  bif v1 then
   bif (assoc a1.name m0).isSome then
    (d2q n (((assoc a1.name m0).getD default).form) a2).bind fun v2=>
    some (v2,m0)
   else
    Zo (Wz a1.name (Ws.mk a1.name [] a2) m0) fun c3=>
    some (true,c3)
  else
   bif (bif (!decide (a1.kind=a2.kind))then true else(!decide ((↑a1.words.length:Int)=(↑a2.words.length:Int))))then
    some (false,m0)
   else
    (WV a1).bind fun v5=>
    bif v5 then
     Xv (Xa n) a1 a2 m0 a0 v5
    else
     (gd (decide (a1.kind=2)) (Ww a0.WO a1.name) default).bind fun v6=>
     Xv (Xa n) a1 a2 m0 a0 (bif (decide (a1.kind=2))then v6 else false)
def Yf(a1:Bs)(l0:(List Bs))(k0:Nat)(s0:Unit):Option (Ctl (Int) (Unit) (Unit)):=
 bif (decide (a1=(get l0 k0)))then
  some (.ret (↑k0:Int))
 else
  some (.nxt ())
def Yg(t0:Unit):Option (Int):=
 some (-1)
def YI(a1:Bs)(l0:(List Bs)):Option (Int):=
 chk (l0.length≤9223372036854775807) <|
 WL (Xc (Yf a1 l0) l0.length ()) (Yg)
def WZ(a1:Bs)(l0:(List Bs)):Option (Bool):=
 (YI a1 l0).bind fun v1=>
 some (decide (0≤v1))
def d2M(self:(Lr)→Option (Lr))(a0:Lr)(k0:Nat)(s0:(List Lr)):Option (Ctl (Lr) ((List Lr)) ((List Lr))):=
 (self (get a0.subs k0)).bind fun v9=>
 Zo (s0++[v9]) fun c11=>
 chk (c11.length*72≤top∧c11.length≤top) <|
 some (.nxt c11)
def d2N(a0:Lr)(v1:(List Bs))(t0:(List Lr)):Option (Lr):=
 some (Lr.mk a0.kind a0.name v1 t0)
def d1y:Nat→(Lr)→Option (Lr)
 |0,_=>none
 |n+1,a0=>
  (Zf a0.words).bind fun v1=>
  WL (Xc (d2M (d1y n) a0) a0.subs.length []) (d2N a0 v1)
def d2l(v3:(List Bs))(v2:Bool×(List (Bs×Ws)))(k0:Nat)(s0:(List Bs)):Option (Ctl ((List Ws)×Bool) ((List Bs)) ((List Bs))):=
 Zo (s0++[((assoc (get v3 k0) v2.2).getD default).text]) fun c11=>
 chk (c11.length*16≤top∧c11.length≤top) <|
 some (.nxt c11)
def d2n(n:Nat)(v1:Wu)(v19:(List Bs))(v2:Bool×(List (Bs×Ws)))(t0:(List Bs))(k1:Nat)(s1:(List Ws)):Option (Ctl ((List Ws)×Bool) ((List Ws)) ((List Ws))):=
 (Ww v1.words (get v19 k1)).bind fun v38=>
 (gd v38 (WZ (((assoc (get v19 k1) v2.2).getD default).text) t0) (default:Bool)).bind fun v39=>
 bif (bif v38 then v39 else false)then
  some (.ret ([],false))
 else
  chk (0≤1∧1≤(get v19 k1).length) <|
  (Ww v1.parts (get v19 k1)).bind fun v42=>
  bif v42 then
   (d1y n (((assoc (get v19 k1) v2.2).getD default).form)).bind fun v43=>
   Zo (s1++[(Ws.mk ((get v19 k1).drop 1) (((assoc (get v19 k1) v2.2).getD default).text) v43)]) fun c45=>
   chk (c45.length*104≤top∧c45.length≤top) <|
   some (.nxt c45)
  else
   Zo (s1++[(Ws.mk ((get v19 k1).drop 1) (((assoc (get v19 k1) v2.2).getD default).text) (((assoc (get v19 k1) v2.2).getD default).form))]) fun c51=>
   chk (c51.length*104≤top∧c51.length≤top) <|
   some (.nxt c51)
def d2o(t1:(List Ws)):Option ((List Ws)×Bool):=
 some (t1,true)
def d2m(n:Nat)(v1:Wu)(v2:Bool×(List (Bs×Ws)))(t0:(List Bs)):Option ((List Ws)×Bool):=
 (YO v1).bind fun v16=>
 (WI n v1.form).bind fun v17=>
 (d8h [v16,v17]).bind fun v19=>
 WL (Xc (d2n n v1 v19 v2 t0) v19.length []) (d2o)
def d2Q(n:Nat)(a0:Wu)(a1:Lr):Option ((List Ws)×Bool):=
 (d1w n a0).bind fun v1=>
 (Xa n v1 v1.form a1 []).bind fun v2=>
 bif (!v2.1)then
  some ([],false)
 else
  (WI n v1.form).bind fun v3=>
  WL (Xc (d2l v3 v2) v3.length []) (d2m n v1 v2)
def d1k(a0:(List Ws))(a1:Bs)(k0:Nat)(s0:Unit):Option (Ctl (Bs) (Unit) (Unit)):=
 bif (decide (((get a0 k0).name)=a1))then
  some (.ret ((get a0 k0).text))
 else
  some (.nxt ())
def d1l(a1:Bs)(t0:Unit):Option (Bs):=
 some a1
def Zw(a0:(List Ws))(a1:Bs):Option (Bs):=
 WL (Xc (d1k a0 a1) a0.length ()) (d1l a1)
def d1H(self:(Lr)→(Bs)→((List (Bs×Bs)))→(Int)→(Bs)→((List Bs))→((List Lr))→((List Bs))→((List Bs))→((List Bs))→Option ((List (Bs×Bs))))(a1:Bs)(a0:Lr)(i3e:Int)(i3f:Bs)(i3g:(List Bs))(i3h:(List Lr))(i3i:(List Bs))(i3j:(List Bs))(i3k:(List Bs))(k1:Nat)(s1:(List (Bs×Bs))):Option (Ctl ((List (Bs×Bs))) ((List (Bs×Bs))) ((List (Bs×Bs)))):=
 (itoa (↑k1:Int)).bind fun v7=>
 chk (Yk a1 v7) <|
 (self (get a0.subs k1) (d9u a1 v7) s1 i3e i3f i3g i3h i3i i3j i3k).bind fun v9=>
 some (.nxt v9)
def d1I(t1:(List (Bs×Bs))):Option ((List (Bs×Bs))):=
 some t1
def Zp(self:(Lr)→(Bs)→((List (Bs×Bs)))→(Int)→(Bs)→((List Bs))→((List Lr))→((List Bs))→((List Bs))→((List Bs))→Option ((List (Bs×Bs))))(a1:Bs)(a0:Lr)(i3e:Int)(i3f:Bs)(i3g:(List Bs))(i3h:(List Lr))(i3i:(List Bs))(i3j:(List Bs))(i3k:(List Bs))(j0:(List (Bs×Bs))):Option ((List (Bs×Bs))):=
 WL (Xc (d1H self a1 a0 i3e i3f i3g i3h i3i i3j i3k) a0.subs.length j0) (d1I)
def Yj:Nat→(Lr)→(Bs)→((List (Bs×Bs)))→(Int)→(Bs)→((List Bs))→((List Lr))→((List Bs))→((List Bs))→((List Bs))→Option ((List (Bs×Bs)))
 |0,_,_,_,_,_,_,_,_,_,_=>none
 |n+1,a0,a1,m1,i3e,i3f,i3g,i3h,i3i,i3j,i3k=>
  (gd (!(assoc a0.name m1).isSome) (Xz (Wu.mk (Lr.mk i3e i3f i3g i3h) i3i i3j i3k) a0) default).bind fun v1=>
  bif (bif (!(assoc a0.name m1).isSome)then v1 else false)then
   Zo (Wz a0.name a1 m1) fun c2=>
   Zp (Yj n) a1 a0 i3e i3f i3g i3h i3i i3j i3k c2
  else
   Zp (Yj n) a1 a0 i3e i3f i3g i3h i3i i3j i3k m1
def d2R(n:Nat)(a0:Wu):Option ((List (Bs×Bs))):=
 (Yj n a0.form [] [] a0.form.kind a0.form.name a0.form.words a0.form.subs a0.words a0.WO a0.parts).bind fun v1=>
 some v1
def d2O(a0:(List Wr))(k0:Nat)(s0:Int×Int):Option (Ctl (Int×Int×Bool) (Int×Int) (Int×Int)):=
 some (.nxt ((wr .i64 (s0.1+((get a0 k0).nodes))),(max s0.2 ((get a0 k0).depth))))
def d2P(t0:Int×Int):Option (Int×Int×Bool):=
 some (t0.1,(wr .i64 (t0.2+1)),(bif (decide (t0.1≤200))then(decide (t0.2<40))else false))
def d2z(a0:(List Wr)):Option (Int×Int×Bool):=
 WL (Xc (d2O a0) a0.length (1,0)) (d2P)
def ZS(WD:(Lr)→(Bs)→((List Wq))→(Int)→((List (Bs×Int)))→((List Wp))→Option (Wr×Bool×Int×(List Wp)))(ZV:(List Ws))(ZB:Int)(d0s:Int)(d5a:Int)(a0:Lr)(d1L:Bs)(m13:(List (Bs×Bs)))(d6t:(List Wq))(m9:(List (Bs×Int)))(k0:Nat)(s0:Int×Int×Bs×(List Bs)×(List Lr)×Int×Int×(List Wp)×Bool):Option (Ctl (Wr×Bool×Int×(List Wp)×(List (Bs×Wr))) (Int×Int×Bs×(List Bs)×(List Lr)×Int×Int×(List Wp)×Bool) (Int×Int×Bs×(List Bs)×(List Lr)×Int×Int×(List Wp)×Bool)):=
 bif (decide (((get ((ZV.drop ((wr .i64 (ZB+d0s)).toNat)).take ((wr .i64 ((wr .i64 (ZB+d0s))+d5a)).toNat-(wr .i64 (ZB+d0s)).toNat)) k0).name)=a0.name))then
  chk (Yk d1L ((assoc a0.name m13).getD default)) <|
  (WD ((get ((ZV.drop ((wr .i64 (ZB+d0s)).toNat)).take ((wr .i64 ((wr .i64 (ZB+d0s))+d5a)).toNat-(wr .i64 (ZB+d0s)).toNat)) k0).form) (d9u d1L ((assoc a0.name m13).getD default)) d6t s0.1 m9 s0.2.2.2.2.2.2.2.1).bind fun v9=>
  some (.nxt (v9.2.2.1,v9.1.form.kind,v9.1.form.name,v9.1.form.words,v9.1.form.subs,v9.1.nodes,v9.1.depth,v9.2.2.2,v9.2.1))
 else
  some (.nxt (s0.1,s0.2.1,s0.2.2.1,s0.2.2.2.1,s0.2.2.2.2.1,s0.2.2.2.2.2.1,s0.2.2.2.2.2.2.1,s0.2.2.2.2.2.2.2.1,s0.2.2.2.2.2.2.2.2))
def ZT(a0:Lr)(m2:(List (Bs×Wr)))(t0:Int×Int×Bs×(List Bs)×(List Lr)×Int×Int×(List Wp)×Bool):Option (Wr×Bool×Int×(List Wp)×(List (Bs×Wr))):=
 Zo (Wz a0.name (Wr.mk (Lr.mk t0.2.1 t0.2.2.1 t0.2.2.2.1 t0.2.2.2.2.1) t0.2.2.2.2.2.1 t0.2.2.2.2.2.2.1) m2) fun c10=>
 some ((Wr.mk (Lr.mk t0.2.1 t0.2.2.1 t0.2.2.2.1 t0.2.2.2.2.1) t0.2.2.2.2.2.1 t0.2.2.2.2.2.2.1),t0.2.2.2.2.2.2.2.2,t0.1,t0.2.2.2.2.2.2.2.1,c10)
def d1m(a1:(List Bs))(a0:Lr)(m15:(List (Bs×Bs)))(ZB:Int)(ZV:(List Ws))(k1:Nat)(s1:(List Bs)):Option (Ctl (Wr×Bool×Int×(List Wp)×(List (Bs×Wr))) ((List Bs)) ((List Bs))):=
 (Ww a1 (get a0.words k1)).bind fun v28=>
 bif v28 then
  Zo (s1++[((assoc (get a0.words k1) m15).getD default)]) fun c30=>
  chk (c30.length*16≤top∧c30.length≤top) <|
  some (.nxt c30)
 else
  chk (0≤ZB∧ZB.toNat≤ZV.length) <|
  (Zw (ZV.take ZB.toNat) (get a0.words k1)).bind fun v37=>
  Zo (s1++[v37]) fun c39=>
  chk (c39.length*16≤top∧c39.length≤top) <|
  some (.nxt c39)
def d1n(self:(Lr)→((List Bs))→(Int)→(Bs)→((List Bs))→((List Lr))→((List Bs))→((List Bs))→((List Bs))→(Int)→(Bs)→((List Bs))→((List Lr))→((List (Bs×Wr)))→((List Ws))→(Int)→(Int)→(Int)→((List Wq))→(Int)→((List (Bs×Int)))→((List Wp))→(Bs)→((List (Bs×Bs)))→((List (Bs×Bs)))→Option (Wr×Bool×Int×(List Wp)×(List (Bs×Wr))))(a0:Lr)(j2:Bs×(List Bs))(WH:Int)(Zh:Bs)(Zi:(List Bs))(Xf:(List Lr))(YS:(List Bs))(Zb:(List Bs))(Zj:(List Bs))(d1S:Int)(d1T:Bs)(d1U:(List Bs))(XQ:(List Lr))(ZV:(List Ws))(ZB:Int)(d0s:Int)(d5a:Int)(d6t:(List Wq))(m9:(List (Bs×Int)))(d1L:Bs)(m13:(List (Bs×Bs)))(m15:(List (Bs×Bs)))(k3:Nat)(s3:Int×(List Wp)×(List (Bs×Wr))×(List Wr)×(List Lr)):Option (Ctl (Wr×Bool×Int×(List Wp)×(List (Bs×Wr))) (Int×(List Wp)×(List (Bs×Wr))×(List Wr)×(List Lr)) (Int×(List Wp)×(List (Bs×Wr))×(List Wr)×(List Lr))):=
 (self (get a0.subs k3) j2.2 WH Zh Zi Xf YS Zb Zj d1S d1T d1U XQ s3.2.2.1 ZV ZB d0s d5a d6t s3.1 m9 s3.2.1 d1L m13 m15).bind fun v70=>
 bif (!v70.2.1)then
  some (.ret ((Wr.mk (Lr.mk 0 [] [] []) 0 0),false,v70.2.2.1,v70.2.2.2.1,v70.2.2.2.2))
 else
  Zo (s3.2.2.2.1++[v70.1]) fun c72=>
  chk (c72.length*88≤top∧c72.length≤top) <|
  Zo (s3.2.2.2.2++[v70.1.form]) fun c78=>
  chk (c78.length*72≤top∧c78.length≤top) <|
  some (.nxt (v70.2.2.1,v70.2.2.2.1,v70.2.2.2.2,c72,c78))
def d1o(a0:Lr)(j2:Bs×(List Bs))(t1:(List Bs))(t3:Int×(List Wp)×(List (Bs×Wr))×(List Wr)×(List Lr)):Option (Wr×Bool×Int×(List Wp)×(List (Bs×Wr))):=
 (d2z t3.2.2.2.1).bind fun v83=>
 some ((Wr.mk (Lr.mk a0.kind j2.1 t1 t3.2.2.2.2) v83.1 v83.2.1),v83.2.2,t3.1,t3.2.1,t3.2.2.1)
def Yn(self:(Lr)→((List Bs))→(Int)→(Bs)→((List Bs))→((List Lr))→((List Bs))→((List Bs))→((List Bs))→(Int)→(Bs)→((List Bs))→((List Lr))→((List (Bs×Wr)))→((List Ws))→(Int)→(Int)→(Int)→((List Wq))→(Int)→((List (Bs×Int)))→((List Wp))→(Bs)→((List (Bs×Bs)))→((List (Bs×Bs)))→Option (Wr×Bool×Int×(List Wp)×(List (Bs×Wr))))(a0:Lr)(WH:Int)(Zh:Bs)(Zi:(List Bs))(Xf:(List Lr))(YS:(List Bs))(Zb:(List Bs))(Zj:(List Bs))(d1S:Int)(d1T:Bs)(d1U:(List Bs))(XQ:(List Lr))(ZV:(List Ws))(ZB:Int)(d0s:Int)(d5a:Int)(d6t:(List Wq))(m9:(List (Bs×Int)))(d1L:Bs)(m13:(List (Bs×Bs)))(m15:(List (Bs×Bs)))(d8U:Int)(l10:(List Wp))(m2:(List (Bs×Wr)))(t1:(List Bs))(j2:Bs×(List Bs)):Option (Wr×Bool×Int×(List Wp)×(List (Bs×Wr))):=
 WL (Xc (d1n self a0 j2 WH Zh Zi Xf YS Zb Zj d1S d1T d1U XQ ZV ZB d0s d5a d6t m9 d1L m13 m15) a0.subs.length (d8U,l10,m2,[],[])) (d1o a0 j2 t1)
def d1p(self:(Lr)→((List Bs))→(Int)→(Bs)→((List Bs))→((List Lr))→((List Bs))→((List Bs))→((List Bs))→(Int)→(Bs)→((List Bs))→((List Lr))→((List (Bs×Wr)))→((List Ws))→(Int)→(Int)→(Int)→((List Wq))→(Int)→((List (Bs×Int)))→((List Wp))→(Bs)→((List (Bs×Bs)))→((List (Bs×Bs)))→Option (Wr×Bool×Int×(List Wp)×(List (Bs×Wr))))(a0:Lr)(a1:(List Bs))(WH:Int)(Zh:Bs)(Zi:(List Bs))(Xf:(List Lr))(YS:(List Bs))(Zb:(List Bs))(Zj:(List Bs))(d1S:Int)(d1T:Bs)(d1U:(List Bs))(XQ:(List Lr))(ZV:(List Ws))(ZB:Int)(d0s:Int)(d5a:Int)(d6t:(List Wq))(m9:(List (Bs×Int)))(d1L:Bs)(m13:(List (Bs×Bs)))(m15:(List (Bs×Bs)))(d8U:Int)(l10:(List Wp))(m2:(List (Bs×Wr)))(t1:(List Bs)):Option (Wr×Bool×Int×(List Wp)×(List (Bs×Wr))):=
 (WV a0).bind fun v44=>
 bif v44 then
  (WS a1 []).bind fun v45=>
  Zo (v45++[a0.name]) fun c47=>
  chk (c47.length*16≤top∧c47.length≤top) <|
  Yn self a0 WH Zh Zi Xf YS Zb Zj d1S d1T d1U XQ ZV ZB d0s d5a d6t m9 d1L m13 m15 d8U l10 m2 t1 (((assoc a0.name m15).getD default),c47)
 else
  bif (decide (a0.kind=2))then
   chk (0≤ZB∧0≤(wr .i64 (ZB+d0s))∧ZB.toNat≤(wr .i64 (ZB+d0s)).toNat∧(wr .i64 (ZB+d0s)).toNat≤ZV.length) <|
   (Zw ((ZV.drop ZB.toNat).take ((wr .i64 (ZB+d0s)).toNat-ZB.toNat)) a0.name).bind fun v56=>
   Yn self a0 WH Zh Zi Xf YS Zb Zj d1S d1T d1U XQ ZV ZB d0s d5a d6t m9 d1L m13 m15 d8U l10 m2 t1 (v56,a1)
  else
   Yn self a0 WH Zh Zi Xf YS Zb Zj d1S d1T d1U XQ ZV ZB d0s d5a d6t m9 d1L m13 m15 d8U l10 m2 t1 (a0.name,a1)
def XU(WD:(Lr)→(Bs)→((List Wq))→(Int)→((List (Bs×Int)))→((List Wp))→Option (Wr×Bool×Int×(List Wp))):Nat→(Lr)→((List Bs))→(Int)→(Bs)→((List Bs))→((List Lr))→((List Bs))→((List Bs))→((List Bs))→(Int)→(Bs)→((List Bs))→((List Lr))→((List (Bs×Wr)))→((List Ws))→(Int)→(Int)→(Int)→((List Wq))→(Int)→((List (Bs×Int)))→((List Wp))→(Bs)→((List (Bs×Bs)))→((List (Bs×Bs)))→Option (Wr×Bool×Int×(List Wp)×(List (Bs×Wr)))
 |0,_,_,_,_,_,_,_,_,_,_,_,_,_,_,_,_,_,_,_,_,_,_,_,_,_=>none
 |n+1,a0,a1,WH,Zh,Zi,Xf,YS,Zb,Zj,d1S,d1T,d1U,XQ,m2,ZV,ZB,d0s,d5a,d6t,d8U,m9,l10,d1L,m13,m15=>
  (Xz (Wu.mk (Lr.mk WH Zh Zi Xf) YS Zb Zj) a0).bind fun v1=>
  bif v1 then
   bif (assoc a0.name m2).isSome then
    some (((assoc a0.name m2).getD default),true,d8U,l10,m2)
   else
    chk (0≤(wr .i64 (ZB+d0s))∧0≤(wr .i64 ((wr .i64 (ZB+d0s))+d5a))∧(wr .i64 (ZB+d0s)).toNat≤(wr .i64 ((wr .i64 (ZB+d0s))+d5a)).toNat∧(wr .i64 ((wr .i64 (ZB+d0s))+d5a)).toNat≤ZV.length) <|
    WL (Xc (ZS WD ZV ZB d0s d5a a0 d1L m13 d6t m9) (((ZV.drop ((wr .i64 (ZB+d0s)).toNat)).take ((wr .i64 ((wr .i64 (ZB+d0s))+d5a)).toNat-(wr .i64 (ZB+d0s)).toNat)).length) (d8U,((assoc a0.name m2).getD default).form.kind,((assoc a0.name m2).getD default).form.name,((assoc a0.name m2).getD default).form.words,((assoc a0.name m2).getD default).form.subs,((assoc a0.name m2).getD default).nodes,((assoc a0.name m2).getD default).depth,l10,(assoc a0.name m2).isSome)) (ZT a0 m2)
  else
   WL (Xc (d1m a1 a0 m15 ZB ZV) a0.words.length []) (d1p (XU WD n) a0 a1 WH Zh Zi Xf YS Zb Zj d1S d1T d1U XQ ZV ZB d0s d5a d6t m9 d1L m13 m15 d8U l10 m2)
def d1J(a1:Wq)(a2:(List Ws))(v1:(List Bs))(WH:(List Wq))(m1:(List (Bs×Int)))(l2:(List Wp))(k0:Nat)(s0:Int×(List (Bs×Bs))):Option (Ctl (Wr×Bool×Int×(List Wp)) (Int×(List (Bs×Bs))) (Int×(List (Bs×Bs)))):=
 chk (0≤(wr .i64 ((wr .i64 ((↑a1.from_.words.length:Int)+(↑a1.from_.WO.length:Int)))+(↑a1.from_.parts.length:Int)))∧(wr .i64 ((wr .i64 ((↑a1.from_.words.length:Int)+(↑a1.from_.WO.length:Int)))+(↑a1.from_.parts.length:Int))).toNat≤a2.length) <|
 (Zw (a2.drop ((wr .i64 ((wr .i64 ((↑a1.from_.words.length:Int)+(↑a1.from_.WO.length:Int)))+(↑a1.from_.parts.length:Int))).toNat)) (get v1 k0)).bind fun v13=>
 Zo (Wz (get v1 k0) v13 s0.2) fun c14=>
 bif (decide (((assoc (get v1 k0) c14).getD default)=(get v1 k0)))then
  (Zv WH s0.1 m1 l2).bind fun v16=>
  Zo (Wz (get v1 k0) v16.1 c14) fun c17=>
  some (.nxt (v16.2,c17))
 else
  some (.nxt (s0.1,c14))
def d1K(WD:(Lr)→(Bs)→((List Wq))→(Int)→((List (Bs×Int)))→((List Wp))→Option (Wr×Bool×Int×(List Wp)))(n:Nat)(a1:Wq)(a2:(List Ws))(WH:(List Wq))(m1:(List (Bs×Int)))(l2:(List Wp))(a3:Bs)(t0:Int×(List (Bs×Bs))):Option (Wr×Bool×Int×(List Wp)):=
 (d2R n a1.from_).bind fun v19=>
 (XU WD n a1.to_ [] a1.from_.form.kind a1.from_.form.name a1.from_.form.words a1.from_.form.subs a1.from_.words a1.from_.WO a1.from_.parts a1.to_.kind a1.to_.name a1.to_.words a1.to_.subs [] a2 (↑a1.from_.words.length:Int) (↑a1.from_.WO.length:Int) (↑a1.from_.parts.length:Int) WH t0.1 m1 l2 a3 v19 t0.2).bind fun v20=>
 some (v20.1,v20.2.1,v20.2.2.1,v20.2.2.2.1)
def d2b(WD:(Lr)→(Bs)→((List Wq))→(Int)→((List (Bs×Int)))→((List Wp))→Option (Wr×Bool×Int×(List Wp)))(n:Nat)(a1:Wq)(a2:(List Ws))(a3:Bs)(WH:(List Wq))(Xf:Int)(m1:(List (Bs×Int)))(l2:(List Wp)):Option (Wr×Bool×Int×(List Wp)):=
 (WI n a1.to_).bind fun v1=>
 WL (Xc (d1J a1 a2 v1 WH m1 l2) v1.length (Xf,[])) (d1K WD n a1 a2 WH m1 l2 a3)
def d0S(self:(Lr)→(Bs)→((List Wq))→(Int)→((List (Bs×Int)))→((List Wp))→Option (Wr×Bool×Int×(List Wp)))(n:Nat)(WH:(List Wq))(a1:Lr)(l2:(List Wp))(a2:Bs)(m1:(List (Bs×Int)))(Xf:Int)(k0:Nat)(s0:Unit):Option (Ctl (Wr×Bool×Int×(List Wp)) (Unit) (Unit)):=
 (d2Q n ((get WH k0).from_) a1).bind fun v1=>
 bif (!v1.2)then
  some (.nxt ())
 else
  Zo (l2++[(Wp.mk ((assoc a2 m1).getD default) (↑k0:Int))]) fun c3=>
  chk (c3.length*16≤top∧c3.length≤top) <|
  (d2b self n (get WH k0) v1.1 a2 WH Xf m1 c3).bind fun v9=>
  some (.ret (v9.1,v9.2.1,v9.2.2.1,v9.2.2.2))
def d0U(self:(Lr)→(Bs)→((List Wq))→(Int)→((List (Bs×Int)))→((List Wp))→Option (Wr×Bool×Int×(List Wp)))(a2:Bs)(a1:Lr)(WH:(List Wq))(m1:(List (Bs×Int)))(k1:Nat)(s1:Int×(List Wp)×(List Wr)×(List Lr)):Option (Ctl (Wr×Bool×Int×(List Wp)) (Int×(List Wp)×(List Wr)×(List Lr)) (Int×(List Wp)×(List Wr)×(List Lr))):=
 (itoa (↑k1:Int)).bind fun v25=>
 chk (Yk a2 v25) <|
 (self (get a1.subs k1) (d9u a2 v25) WH s1.1 m1 s1.2.1).bind fun v27=>
 bif (!v27.2.1)then
  some (.ret ((Wr.mk (Lr.mk 0 [] [] []) 0 0),false,v27.2.2.1,v27.2.2.2))
 else
  Zo (s1.2.2.1++[v27.1]) fun c29=>
  chk (c29.length*88≤top∧c29.length≤top) <|
  Zo (s1.2.2.2++[v27.1.form]) fun c35=>
  chk (c35.length*72≤top∧c35.length≤top) <|
  some (.nxt (v27.2.2.1,v27.2.2.2,c29,c35))
def d0V(a1:Lr)(t1:Int×(List Wp)×(List Wr)×(List Lr)):Option (Wr×Bool×Int×(List Wp)):=
 (d2z t1.2.2.1).bind fun v40=>
 some ((Wr.mk (Lr.mk a1.kind a1.name a1.words t1.2.2.2) v40.1 v40.2.1),v40.2.2,t1.1,t1.2.1)
def d0T(self:(Lr)→(Bs)→((List Wq))→(Int)→((List (Bs×Int)))→((List Wp))→Option (Wr×Bool×Int×(List Wp)))(a2:Bs)(a1:Lr)(WH:(List Wq))(m1:(List (Bs×Int)))(Xf:Int)(l2:(List Wp))(t0:Unit):Option (Wr×Bool×Int×(List Wp)):=
 WL (Xc (d0U self a2 a1 WH m1) a1.subs.length (Xf,l2,[],[])) (d0V a1)
def Xm:Nat→(Lr)→(Bs)→((List Wq))→(Int)→((List (Bs×Int)))→((List Wp))→Option (Wr×Bool×Int×(List Wp))
 |0,_,_,_,_,_,_=>none
 |n+1,a1,a2,WH,Xf,m1,l2=>
  WL (Xc (d0S (Xm n) n WH a1 l2 a2 m1 Xf) WH.length ()) (d0T (Xm n) a2 a1 WH m1 Xf l2)
def WW(l0:(List Wp)):Option ((List Wp)):=
 chk (l0.length<4611686018427387904∧p9a l0) (some (d4S p8Z l0))
def d0X(Zz:(List Bs))(s0:Int):Option (Ctl (Bs×Int) (Int) (Unit)):=
 (itoa s0).bind fun v4=>
 chk (Yk [118] v4) <|
 (Ww Zz (d9u [118] v4)).bind fun v6=>
 bif (!v6)then
  some (.ret ((d9u [118] v4),(wr .i64 (s0+1))))
 else
  some (.nxt (wr .i64 (s0+1)))
def d3B(t0:Unit):Option (Bs×Int):=
 none
def d2K(n:Nat)(WH:Int)(Zz:(List Bs)):Option (Bs×Int):=
 WL (d1Y (d0X Zz) n WH) (d3B)
def YD(a1:(List Wy))(a0:Lr)(k0:Nat)(s2:Int):Option (Ctl (Ctl (Lr×Int) ((List Bs)) ((List Bs))) (Int) (Bs)):=
 bif (decide (0≤s2))then
  chk (0≤s2∧s2<(↑a1.length:Int)) <|
  bif (decide (((get a1 s2.toNat).from_)=(get a0.words k0)))then
   some (.brk ((get a1 s2.toNat).to_))
  else
   some (.nxt (wr .i64 (s2-1)))
 else
  some (.brk (get a0.words k0))
def d0j(s0:(List Bs))(t2:Bs):Option (Ctl (Lr×Int) ((List Bs)) ((List Bs))):=
 Zo (s0++[t2]) fun c16=>
 chk (c16.length*16≤top∧c16.length≤top) <|
 some (.nxt c16)
def d0i(n:Nat)(a1:(List Wy))(a0:Lr)(k0:Nat)(s0:(List Bs)):Option (Ctl (Lr×Int) ((List Bs)) ((List Bs))):=
 WL (d1Y (YD a1 a0 k0) n (wr .i64 ((↑a1.length:Int)-1))) (d0j s0)
def d0k(self:(Lr)→((List Wy))→(Int)→((List Bs))→Option (Lr×Int))(a0:Lr)(j3:Int×Bs×(List Wy))(Zz:(List Bs))(k4:Nat)(s4:Int×(List Lr)):Option (Ctl (Lr×Int) (Int×(List Lr)) (Int×(List Lr))):=
 (self (get a0.subs k4) j3.2.2 s4.1 Zz).bind fun v38=>
 Zo (s4.2++[v38.1]) fun c40=>
 chk (c40.length*72≤top∧c40.length≤top) <|
 some (.nxt (v38.2,c40))
def d0l(a0:Lr)(j3:Int×Bs×(List Wy))(t0:(List Bs))(t4:Int×(List Lr)):Option (Lr×Int):=
 some ((Lr.mk a0.kind j3.2.1 t0 t4.2),t4.1)
def Ya(self:(Lr)→((List Wy))→(Int)→((List Bs))→Option (Lr×Int))(a0:Lr)(Zz:(List Bs))(t0:(List Bs))(j3:Int×Bs×(List Wy)):Option (Lr×Int):=
 WL (Xc (d0k self a0 j3 Zz) a0.subs.length (j3.1,[])) (d0l a0 j3 t0)
def d0m(self:(Lr)→((List Wy))→(Int)→((List Bs))→Option (Lr×Int))(n:Nat)(a0:Lr)(WH:Int)(Zz:(List Bs))(a1:(List Wy))(t0:(List Bs)):Option (Lr×Int):=
 (WV a0).bind fun v21=>
 bif v21 then
  (d2K n WH Zz).bind fun v22=>
  chk (0≤(↑a1.length:Int)∧0≤(↑a1.length:Int)) <|
  Zo (a1++[(Wy.mk a0.name v22.1)]) fun c26=>
  chk (c26.length*32≤top∧c26.length≤top) <|
  Ya self a0 Zz t0 (v22.2,v22.1,c26)
 else
  Ya self a0 Zz t0 (WH,a0.name,a1)
def Xu:Nat→(Lr)→((List Wy))→(Int)→((List Bs))→Option (Lr×Int)
 |0,_,_,_,_=>none
 |n+1,a0,a1,WH,Zz=>
  WL (Xc (d0i n a1 a0) a0.words.length []) (d0m (Xu n) n a0 WH Zz a1)
def d3f(v1:(List Bs))(a1:(List Wy))(k0:Nat)(k1:Nat)(s1:Unit):Option (Ctl (Ctl (Lr) (Unit) (Unit)) (Unit) (Unit)):=
 bif (decide ((get v1 k1)=((get a1 k0).from_)))then
  none
 else
  some (.nxt ())
def d3g(t1:Unit):Option (Ctl (Lr) (Unit) (Unit)):=
 some (.nxt ())
def d3h(v1:(List Bs))(a1:(List Wy))(k0:Nat)(s0:Unit):Option (Ctl (Lr) (Unit) (Unit)):=
 WL (Xc (d3f v1 a1 k0) v1.length ()) (d3g)
def d0n(n:Nat)(a0:Lr)(a1:(List Wy))(v1:(List Bs))(t0:Unit):Option (Lr):=
 (Xu n a0 a1 0 v1).bind fun v2=>
 some v2.1
def d1Z(n:Nat)(a0:Lr)(a1:(List Wy)):Option (Lr):=
 (Yr n a0).bind fun v1=>
 WL (Xc (d3h v1 a1) a1.length ()) (d0n n a0 a1 v1)
def d0u(n:Nat)(a0:Lr):Option (Lr):=
 (d1Z n a0 []).bind fun v1=>
 some v1
def Yo(n:Nat)(a0:(List Wq))(a1:Lr):Option (Lr×(List Wp)×Bool):=
 (Ys n a1 a0 0 [] []).bind fun v1=>
 (YE n v1.1 [] a0 v1.2 [] []).bind fun v2=>
 (Xm n v1.1 [] a0 v1.2 v2 []).bind fun v3=>
 bif (!v3.2.1)then
  some ((Lr.mk 0 [] [] []),[],false)
 else
  (WW v3.2.2.2).bind fun v4=>
  (d0u n v3.1.form).bind fun v6=>
  some (v6,v4,true)
def Zg(n:Nat)(a0:(List Wq))(a1:Lr):Option (Lr×WC):=
 (ZU n a0 a1).bind fun v1=>
 bif (!decide (v1.code=0))then
  some ((Lr.mk 0 [] [] []),v1)
 else
  (Yo n a0 a1).bind fun v2=>
  bif (!v2.2.2)then
   (Xr 1 0).bind fun v3=>
   some ((Lr.mk 0 [] [] []),v3)
  else
   some (v2.1,(WC.mk 0 0))
def d5s(n:Nat)(a0:(List Wq))(a1:Lr):Option ((List Wp)×WC):=
 (ZU n a0 a1).bind fun v1=>
 bif (!decide (v1.code=0))then
  some ([],v1)
 else
  (Yo n a0 a1).bind fun v2=>
  bif (!v2.2.2)then
   (Xr 1 0).bind fun v3=>
   some ([],v3)
  else
   some (v2.2.1,(WC.mk 0 0))
def XG(a0:(List Bs))(a1:(List Bs))(s0:Int):Option (Ctl (Bool) (Int) (Unit)):=
 bif (decide (s0<(↑a0.length:Int)))then
  chk (0≤s0∧s0<(↑a0.length:Int)) <|
  chk (s0<(↑a1.length:Int)) <|
  bif (!decide ((get a0 s0.toNat)=(get a1 s0.toNat)))then
   some (.ret false)
  else
   some (.nxt (wr .i64 (s0+1)))
 else
  some (.brk ())
def Zx(t0:Unit):Option (Bool):=
 some true
def Yc(n:Nat)(a0:(List Bs))(a1:(List Bs)):Option (Bool):=
 bif (!decide ((↑a0.length:Int)=(↑a1.length:Int)))then
  some false
 else
  WL (d1Y (XG a0 a1) n 0) (Zx)
def XP(self:(Lr)→(Lr)→Option (Bool))(a0:Lr)(a1:Lr)(s0:Int):Option (Ctl (Bool) (Int) (Unit)):=
 bif (decide (s0<(↑a0.subs.length:Int)))then
  chk (0≤s0∧s0<(↑a0.subs.length:Int)) <|
  chk (s0<(↑a1.subs.length:Int)) <|
  (self (get a0.subs s0.toNat) (get a1.subs s0.toNat)).bind fun v8=>
  bif (!v8)then
   some (.ret false)
  else
   some (.nxt (wr .i64 (s0+1)))
 else
  some (.brk ())
def ZC(t0:Unit):Option (Bool):=
 some true
def Xj:Nat→(Lr)→(Lr)→Option (Bool)
 |0,_,_=>none
 |n+1,a0,a1=>
  (gd (!(bif (!decide (a0.kind=a1.kind))then true else(!decide (a0.name=a1.name)))) (Yc n a0.words a1.words) default).bind fun v1=>
  bif (bif (bif (bif (!decide (a0.kind=a1.kind))then true else(!decide (a0.name=a1.name)))then true else(!v1))then true else(!decide ((↑a0.subs.length:Int)=(↑a1.subs.length:Int))))then
   some false
  else
   WL (d1Y (XP (Xj n) a0 a1) n 0) (ZC)
def XA(n:Nat):Option (Bool):=
 (XH [100,111,103] [[120]]).bind fun v2=>
 (XH [97,110,105,109,97,108] [[120]]).bind fun v5=>
 (XH [116,97,109,101] [[120]]).bind fun v7=>
 (d0W 5 v5 v7).bind fun v8=>
 (XH [100,111,103] [[121]]).bind fun v10=>
 (XH [97,110,105,109,97,108] [[118,48]]).bind fun v13=>
 (XH [116,97,109,101] [[118,48]]).bind fun v15=>
 (d0W 5 v13 v15).bind fun v16=>
 (Zg n [(Wq.mk (Wu.mk v2 [[120]] [] []) v8)] (Lr.mk 9 [121] [] [v10])).bind fun v19=>
 (d5s n [(Wq.mk (Wu.mk v2 [[120]] [] []) v8)] (Lr.mk 9 [121] [] [v10])).bind fun v21=>
 (gd (decide (v19.2.code=0)) (Xj n v19.1 (Lr.mk 9 [118,48] [] [v16])) default).bind fun v22=>
 chk (i4J (bif (bif (bif (decide (v19.2.code=0))then v22 else false)then(decide (v21.2.code=0))else false)then(decide ((↑v21.1.length:Int)=1))else false) (0<(↑v21.1.length:Int))) <|
 some (bif (bif (bif (bif (decide (v19.2.code=0))then v22 else false)then(decide (v21.2.code=0))else false)then(decide ((↑v21.1.length:Int)=1))else false)then(decide ((get v21.1 0).at_=1)&&(decide ((get v21.1 0).rule=0)))else false)
def d0Y(n:Nat)(a0:Lr):Option (Lr×WC):=
 (YM n a0).bind fun v1=>
 bif (!decide (v1.code=0))then
  some ((Lr.mk 0 [] [] []),v1)
 else
  (d0u n a0).bind fun v2=>
  some (v2,(WC.mk 0 0))
def Yh(n:Nat)(a0:(List Wq))(a1:Lr):Option (Bool):=
 (XA n).bind fun v1=>
 bif (!v1)then
  some false
 else
  (d0Y n a1).bind fun v2=>
  bif (!decide (v2.2.code=0))then
   some true
  else
   (Zg n a0 a1).bind fun v3=>
   (Zg n a0 v2.1).bind fun v4=>
   (gd (decide (v3.2.code=v4.2.code)&&(decide (v3.2.index=v4.2.index))) (Xj n v3.1 v4.1) default).bind fun v5=>
   some (bif (decide (v3.2.code=v4.2.code)&&(decide (v3.2.index=v4.2.index)))then v5 else false)
end Go.Proofs.YtfacbpehlibilaaGreatDoor
