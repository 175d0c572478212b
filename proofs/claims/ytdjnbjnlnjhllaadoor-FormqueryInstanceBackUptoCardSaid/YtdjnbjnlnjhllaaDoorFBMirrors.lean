import Derived.Test.YtdjnbjnlnjhllaaDoorFBStrs
import Derived.Test.YtdjnbjnlnjhllaaDoorFBCat
set_option linter.unusedVariables false
set_option linter.unusedSimpArgs false
namespace Go.Proofs.YtdjnbjnlnjhllaaDoor
open Go Go.Am
def PN(a0:Bs)(a1:(List Bs)):Option (LZ):=
 some (LZ.mk 2 a0 a1 [])
def OB(a0:Int)(a1:LZ)(a2:LZ):Option (LZ):=
 some (LZ.mk a0 [] [] [a1,a2])
def Oq(a0:Int)(MB:Int):Option (Mi):=
 some (Mi.mk a0 MB)
def PZ(j2:Bool):Option (Int):=
 bif j2 then
  some 2
 else
  some (-1)
def PY(a0:Int)(j1:Bool):Option (Int):=
 bif j1 then
  some 1
 else
  bif (decide (a0=5))then
   PZ (decide (a0=5))
  else
   bif (decide (a0=6))then
    PZ (decide (a0=6))
   else
    PZ (decide (a0=7))
def PX(a0:Int)(j0:Bool):Option (Int):=
 bif j0 then
  some 0
 else
  bif (decide (a0=4))then
   PY a0 (decide (a0=4))
  else
   bif (decide (a0=8))then
    PY a0 (decide (a0=8))
   else
    PY a0 (decide (a0=9))
def Ti(a0:Int):Option (Int):=
 bif (decide (a0=1))then
  PX a0 (decide (a0=1))
 else
  bif (decide (a0=2))then
   PX a0 (decide (a0=2))
  else
   PX a0 (decide (a0=3))
def MG(a0:LZ):Option (Bool):=
 some (bif (decide (a0.kind=8))then true else(decide (a0.kind=9)))
def Uz(a0:Bs)(k0:Nat)(s0:Unit):Option (Ctl (Bool) (Unit) (Unit)):=
 bif (!(bif (bif (bif (bif (decide (97≤(PS a0 (↑k0:Int))))then(decide ((PS a0 (↑k0:Int))≤122))else false)then true else(bif (decide (48≤(PS a0 (↑k0:Int))))then(decide ((PS a0 (↑k0:Int))≤57))else false))then true else(decide ((PS a0 (↑k0:Int))=95)))then true else(decide ((PS a0 (↑k0:Int))=45))))then
  some (.ret false)
 else
  some (.nxt ())
def UA(t0:Unit):Option (Bool):=
 some true
def termName(a0:Bs):Option (Bool):=
 chk (d1m (!(bif (decide ((↑a0.length:Int)=0))then true else(decide (30<(↑a0.length:Int))))) (0<(↑a0.length:Int))) <|
 chk (d1m (!(bif (bif (decide ((↑a0.length:Int)=0))then true else(decide (30<(↑a0.length:Int))))then true else(decide ((PS a0 0)<97)))) (0<(↑a0.length:Int))) <|
 bif (bif (bif (bif (decide ((↑a0.length:Int)=0))then true else(decide (30<(↑a0.length:Int))))then true else(decide ((PS a0 0)<97)))then true else(decide (122<(PS a0 0))))then
  some false
 else
  chk (a0.length≤9223372036854775807) <|
  Mw (MY (Uz a0) a0.length ()) (UA)
def QY(a0:LZ)(MB:Int)(k2:Nat)(s2:Unit):Option (Ctl (Mi×Int) (Unit) (Unit)):=
 (termName (get a0.words k2)).bind fun v9=>
 bif (!v9)then
  (Oq 10 MB).bind fun v10=>
  some (.ret (v10,(wr .i64 (MB+1))))
 else
  some (.nxt ())
def Ra(self:(LZ)→(Int)→(Int)→(Bool)→Option (Mi×Int))(a0:LZ)(a1:Int)(MN:Bool)(k3:Nat)(s3:Int):Option (Ctl (Mi×Int) (Int) (Int)):=
 (self (get a0.subs k3) (wr .i64 (a1+1)) s3 MN).bind fun v12=>
 bif (!decide (v12.1.code=0))then
  some (.ret (v12.1,v12.2))
 else
  some (.nxt v12.2)
def Rb(t3:Int):Option (Mi×Int):=
 some ((Mi.mk 0 0),t3)
def QZ(self:(LZ)→(Int)→(Int)→(Bool)→Option (Mi×Int))(a0:LZ)(a1:Int)(MN:Bool)(MB:Int)(t2:Unit):Option (Mi×Int):=
 Mw (MY (Ra self a0 a1 MN) a0.subs.length (wr .i64 (MB+1))) (Rb)
def Oc(self:(LZ)→(Int)→(Int)→(Bool)→Option (Mi×Int))(a0:LZ)(j0:Int)(MB:Int)(a1:Int)(MN:Bool)(j1:Bool):Option (Mi×Int):=
 bif (bif (!decide ((↑a0.subs.length:Int)=j0))then true else(!j1))then
  (Oq 9 MB).bind fun v4=>
  some (v4,(wr .i64 (MB+1)))
 else
  (gd (!(decide (a0.kind=2))) (MG a0) default).bind fun v5=>
  (gd (bif (bif (decide (a0.kind=2))then true else v5)then true else(decide (a0.kind=10))) (termName a0.name) default).bind fun v6=>
  bif (bif (bif (bif (decide (a0.kind=2))then true else v5)then true else(decide (a0.kind=10)))then(!v6)else false)then
   (Oq 10 MB).bind fun v7=>
   some (v7,(wr .i64 (MB+1)))
  else
   bif (bif (!(bif (bif (decide (a0.kind=2))then true else v5)then true else(decide (a0.kind=10))))then(!decide (a0.name=[]))else false)then
    (Oq 5 MB).bind fun v8=>
    some (v8,(wr .i64 (MB+1)))
   else
    Mw (MY (QY a0 MB) a0.words.length ()) (QZ self a0 a1 MN MB)
def OM(self:(LZ)→(Int)→(Int)→(Bool)→Option (Mi×Int))(MB:Int)(a0:LZ)(a1:Int)(MN:Bool)(j0:Int):Option (Mi×Int):=
 bif (decide (j0<0))then
  (Oq 4 MB).bind fun v3=>
  some (v3,(wr .i64 (MB+1)))
 else
  bif (decide (a0.kind=2))then
   Oc self a0 j0 MB a1 MN (decide ((↑a0.words.length:Int)≤3))
  else
   bif (decide (a0.kind=3))then
    Oc self a0 j0 MB a1 MN (decide ((↑a0.words.length:Int)=2))
   else
    Oc self a0 j0 MB a1 MN (decide ((↑a0.words.length:Int)=0))
def Nb:Nat→(LZ)→(Int)→(Int)→(Bool)→Option (Mi×Int)
 |0,_,_,_,_=>none
 |n+1,a0,a1,MB,MN=>
  bif (bif (decide (200<(wr .i64 (MB+1))))then true else(decide (40<a1)))then
   (Oq 1 MB).bind fun v1=>
   some (v1,(wr .i64 (MB+1)))
  else
   (Ti a0.kind).bind fun v2=>
   bif (bif (decide (a0.kind=10))then MN else false)then
    OM (Nb n) MB a0 a1 MN 0
   else
    OM (Nb n) MB a0 a1 MN v2
def TG(n:Nat)(a0:LZ)(a1:Bool):Option (Mi):=
 (Nb n a0 1 0 a1).bind fun v1=>
 some v1.1
def Nw(n:Nat)(a0:LZ):Option (Mi):=
 (TG n a0 false).bind fun v1=>
 some v1
def Ni(a0:Mb):Option ((List Bs)):=
 (Ux [a0.words,a0.Mj,a0.parts]).bind fun v2=>
 some v2
def Mn(a0:Int)(a1:Int):Option (Mi):=
 some (Mi.mk a0 a1)
def NG(a1:Bs)(a0:(List Bs))(k0:Nat)(s0:Unit):Option (Ctl (Int) (Unit) (Unit)):=
 bif (decide (a1=(get a0 k0)))then
  some (.ret (↑k0:Int))
 else
  some (.nxt ())
def NH(t0:Unit):Option (Int):=
 some (-1)
def Oj(a0:(List Bs))(a1:Bs):Option (Int):=
 Mw (MY (NG a1 a0) a0.length ()) (NH)
def Mf(a0:(List Bs))(a1:Bs):Option (Bool):=
 (Oj a0 a1).bind fun v1=>
 some (decide (0≤v1))
def Pg(a1:(List Bs))(a0:LZ)(k0:Nat)(s0:(List Bs)):Option (Ctl ((List Bs)) ((List Bs)) ((List Bs))):=
 (Mf a1 (get a0.words k0)).bind fun v8=>
 bif (!v8)then
  Sk (s0++[(get a0.words k0)]) fun c10=>
  chk (c10.length*16≤top∧c10.length≤top) <|
  some (.nxt c10)
 else
  some (.nxt s0)
def Ph(self:(LZ)→((List Bs))→((List Bs))→Option ((List Bs)))(a0:LZ)(j1:(List Bs))(k2:Nat)(s2:(List Bs)):Option (Ctl ((List Bs)) ((List Bs)) ((List Bs))):=
 (self (get a0.subs k2) j1 s2).bind fun v26=>
 some (.nxt v26)
def Pj(t2:(List Bs)):Option ((List Bs)):=
 some t2
def Nz(self:(LZ)→((List Bs))→((List Bs))→Option ((List Bs)))(a0:LZ)(t0:(List Bs))(j1:(List Bs)):Option ((List Bs)):=
 Mw (MY (Ph self a0 j1) a0.subs.length t0) (Pj)
def Pk(self:(LZ)→((List Bs))→((List Bs))→Option ((List Bs)))(a0:LZ)(a1:(List Bs))(t0:(List Bs)):Option ((List Bs)):=
 (MG a0).bind fun v15=>
 bif v15 then
  chk (0≤(↑a1.length:Int)∧0≤(↑a1.length:Int)) <|
  Sk (a1++[a0.name]) fun c19=>
  chk (c19.length*16≤top∧c19.length≤top) <|
  Nz self a0 t0 c19
 else
  Nz self a0 t0 a1
def MO:Nat→(LZ)→((List Bs))→((List Bs))→Option ((List Bs))
 |0,_,_,_=>none
 |n+1,a0,a1,l1=>
  Mw (MY (Pg a1 a0) a0.words.length l1) (Pk (MO n) a0 a1)
def Nk(l0:(List Bs)):Option ((List Bs)):=
 chk (l0.length<4611686018427387904) (some (d1R cfB l0))
def NR(l0:(List Bs)):Option (List Bs):=
 chk (l0.length≤9223372036854775807) (some (cpt l0))
def OO(n:Nat)(a0:LZ):Option ((List Bs)):=
 (MO n a0 [] []).bind fun v1=>
 (Nk v1).bind fun v3=>
 (NR v3).bind fun v5=>
 some (Lib.compact v3)
def Rc(self:(LZ)→(Bs)→Option (Bool×Bool))(a0:LZ)(a1:Bs)(k1:Nat)(s1:Bool×Bool):Option (Ctl (Bool×Bool) (Bool×Bool) (Bool×Bool)):=
 (self (get a0.subs k1) a1).bind fun v2=>
 some (.nxt ((bif s1.1 then true else v2.1),(bif s1.2 then true else v2.2)))
def Rf(t1:Bool×Bool):Option (Bool×Bool):=
 some (t1.1,t1.2)
def OP(self:(LZ)→(Bs)→Option (Bool×Bool))(a0:LZ)(a1:Bs)(j0:Bool×Bool):Option (Bool×Bool):=
 Mw (MY (Rc self a0 a1) a0.subs.length (j0.1,j0.2)) (Rf)
def NS:Nat→(LZ)→(Bs)→Option (Bool×Bool)
 |0,_,_=>none
 |n+1,a0,a1=>
  bif (bif (decide (a0.kind=2))then(decide (a0.name=a1))else false)then
   OP (NS n) a0 a1 ((decide (0<(↑a0.words.length:Int))),(decide ((↑a0.words.length:Int)=0)))
  else
   OP (NS n) a0 a1 (false,false)
def Ol(self:(LZ)→Option ((List Bs)))(a0:LZ)(k1:Nat)(s1:(List Bs)):Option (Ctl ((List Bs)) ((List Bs)) ((List Bs))):=
 (self (get a0.subs k1)).bind fun v14=>
 Sk (s1++v14) fun c15=>
 chk (c15.length*16≤top∧c15.length≤top) <|
 some (.nxt c15)
def Om(t1:(List Bs)):Option ((List Bs)):=
 some t1
def Nc(self:(LZ)→Option ((List Bs)))(a0:LZ)(j0:(List Bs)):Option ((List Bs)):=
 Mw (MY (Ol self a0) a0.subs.length j0) (Om)
def Mp:Nat→(LZ)→Option ((List Bs))
 |0,_=>none
 |n+1,a0=>
  (MG a0).bind fun v1=>
  bif v1 then
   Sk ([]++[a0.name]) fun c3=>
   chk (c3.length*16≤top∧c3.length≤top) <|
   Nc (Mp n) a0 c3
  else
   Nc (Mp n) a0 []
def Pm(n:Nat)(v2:(List Bs))(a0:Mb)(v4:(List Bs))(k0:Nat)(s0:Unit):Option (Ctl (Mi) (Unit) (Unit)):=
 (termName (get v2 k0)).bind fun v17=>
 bif (!v17)then
  (Mn 10 (↑k0:Int)).bind fun v18=>
  some (.ret v18)
 else
  chk (0≤(↑k0:Int)∧k0≤v2.length) <|
  (Mf (v2.take k0) (get v2 k0)).bind fun v21=>
  bif v21 then
   (Mn 7 (↑k0:Int)).bind fun v22=>
   some (.ret v22)
  else
   (NS n a0.form (get v2 k0)).bind fun v23=>
   bif (decide ((↑k0:Int)<(↑a0.words.length:Int)))then
    (Mf v4 (get v2 k0)).bind fun v24=>
    bif (!v24)then
     (Mn 15 (↑k0:Int)).bind fun v25=>
     some (.ret v25)
    else
     some (.nxt ())
   else
    bif (decide ((↑k0:Int)<(wr .i64 ((↑a0.words.length:Int)+(↑a0.Mj.length:Int)))))then
     bif (bif (!v23.1)then(!v23.2)else false)then
      (Mn 15 (↑k0:Int)).bind fun v26=>
      some (.ret v26)
     else
      some (.nxt ())
    else
     bif v23.1 then
      (Mn 5 (↑k0:Int)).bind fun v27=>
      some (.ret v27)
     else
      bif (!v23.2)then
       (Mn 15 (↑k0:Int)).bind fun v28=>
       some (.ret v28)
      else
       some (.nxt ())
def Po(v29:(List Bs))(a0:Mb)(k1:Nat)(s1:Unit):Option (Ctl (Mi) (Unit) (Unit)):=
 chk (0≤(↑k1:Int)∧k1≤v29.length) <|
 (Mf (v29.take k1) (get v29 k1)).bind fun v37=>
 (gd (!v37) (Mf a0.words (get v29 k1)) default).bind fun v38=>
 bif (bif v37 then true else v38)then
  (Mn 7 (-1)).bind fun v39=>
  some (.ret v39)
 else
  some (.nxt ())
def Pp(t1:Unit):Option (Mi):=
 some (Mi.mk 0 0)
def Pn(n:Nat)(a0:Mb)(t0:Unit):Option (Mi):=
 (Mp n a0.form).bind fun v29=>
 Mw (MY (Po v29 a0) v29.length ()) (Pp)
def NP(n:Nat)(a0:Mb):Option (Mi):=
 (Nw n a0.form).bind fun v1=>
 bif (!decide (v1.code=0))then
  some v1
 else
  (Ni a0).bind fun v2=>
  bif (decide (300<(↑v2.length:Int)))then
   (Mn 2 (-1)).bind fun v3=>
   some v3
  else
   (OO n a0.form).bind fun v4=>
   Mw (MY (Pm n v2 a0 v4) v2.length ()) (Pn n a0)
def PU(MN:(List Bs))(s0:Int):Option (Ctl (Bs×Int) (Int) (Unit)):=
 (itoa s0).bind fun v4=>
 chk (Qb [118] v4) <|
 (Mf MN (d1s [118] v4)).bind fun v6=>
 bif (!v6)then
  some (.ret ((d1s [118] v4),(wr .i64 (s0+1))))
 else
  some (.nxt (wr .i64 (s0+1)))
def Sr(t0:Unit):Option (Bs×Int):=
 none
def RB(n:Nat)(MB:Int)(MN:(List Bs)):Option (Bs×Int):=
 Mw (Qk (PU MN) n MB) (Sr)
def Pv(a1:(List Mg))(a0:LZ)(k0:Nat)(s2:Int):Option (Ctl (Ctl (LZ×Int) ((List Bs)) ((List Bs))) (Int) (Bs)):=
 bif (decide (0≤s2))then
  chk (0≤s2∧s2<(↑a1.length:Int)) <|
  bif (decide (((get a1 s2.toNat).from_)=(get a0.words k0)))then
   some (.brk ((get a1 s2.toNat).to_))
  else
   some (.nxt (wr .i64 (s2-1)))
 else
  some (.brk (get a0.words k0))
def Qy(s0:(List Bs))(t2:Bs):Option (Ctl (LZ×Int) ((List Bs)) ((List Bs))):=
 Sk (s0++[t2]) fun c16=>
 chk (c16.length*16≤top∧c16.length≤top) <|
 some (.nxt c16)
def Qx(n:Nat)(a1:(List Mg))(a0:LZ)(k0:Nat)(s0:(List Bs)):Option (Ctl (LZ×Int) ((List Bs)) ((List Bs))):=
 Mw (Qk (Pv a1 a0 k0) n (wr .i64 ((↑a1.length:Int)-1))) (Qy s0)
def Qz(self:(LZ)→((List Mg))→(Int)→((List Bs))→Option (LZ×Int))(a0:LZ)(j3:Int×Bs×(List Mg))(MN:(List Bs))(k4:Nat)(s4:Int×(List LZ)):Option (Ctl (LZ×Int) (Int×(List LZ)) (Int×(List LZ))):=
 (self (get a0.subs k4) j3.2.2 s4.1 MN).bind fun v38=>
 Sk (s4.2++[v38.1]) fun c40=>
 chk (c40.length*72≤top∧c40.length≤top) <|
 some (.nxt (v38.2,c40))
def QA(a0:LZ)(j3:Int×Bs×(List Mg))(t0:(List Bs))(t4:Int×(List LZ)):Option (LZ×Int):=
 some ((LZ.mk a0.kind j3.2.1 t0 t4.2),t4.1)
def Ou(self:(LZ)→((List Mg))→(Int)→((List Bs))→Option (LZ×Int))(a0:LZ)(MN:(List Bs))(t0:(List Bs))(j3:Int×Bs×(List Mg)):Option (LZ×Int):=
 Mw (MY (Qz self a0 j3 MN) a0.subs.length (j3.1,[])) (QA a0 j3 t0)
def QB(self:(LZ)→((List Mg))→(Int)→((List Bs))→Option (LZ×Int))(n:Nat)(a0:LZ)(MB:Int)(MN:(List Bs))(a1:(List Mg))(t0:(List Bs)):Option (LZ×Int):=
 (MG a0).bind fun v21=>
 bif v21 then
  (RB n MB MN).bind fun v22=>
  chk (0≤(↑a1.length:Int)∧0≤(↑a1.length:Int)) <|
  Sk (a1++[(Mg.mk a0.name v22.1)]) fun c26=>
  chk (c26.length*32≤top∧c26.length≤top) <|
  Ou self a0 MN t0 (v22.2,v22.1,c26)
 else
  Ou self a0 MN t0 (MB,a0.name,a1)
def Nt:Nat→(LZ)→((List Mg))→(Int)→((List Bs))→Option (LZ×Int)
 |0,_,_,_,_=>none
 |n+1,a0,a1,MB,MN=>
  Mw (MY (Qx n a1 a0) a0.words.length []) (QB (Nt n) n a0 MB MN a1)
def RO(v1:(List Bs))(a1:(List Mg))(k0:Nat)(k1:Nat)(s1:Unit):Option (Ctl (Ctl (LZ) (Unit) (Unit)) (Unit) (Unit)):=
 bif (decide ((get v1 k1)=((get a1 k0).from_)))then
  none
 else
  some (.nxt ())
def RP(t1:Unit):Option (Ctl (LZ) (Unit) (Unit)):=
 some (.nxt ())
def RQ(v1:(List Bs))(a1:(List Mg))(k0:Nat)(s0:Unit):Option (Ctl (LZ) (Unit) (Unit)):=
 Mw (MY (RO v1 a1 k0) v1.length ()) (RP)
def QC(n:Nat)(a0:LZ)(a1:(List Mg))(v1:(List Bs))(t0:Unit):Option (LZ):=
 (Nt n a0 a1 0 v1).bind fun v2=>
 some v2.1
def RV(n:Nat)(a0:LZ)(a1:(List Mg)):Option (LZ):=
 (OO n a0).bind fun v1=>
 Mw (MY (RQ v1 a1) a1.length ()) (QC n a0 a1 v1)
def Pw(n:Nat)(a0:LZ):Option (LZ):=
 (RV n a0 []).bind fun v1=>
 some v1
def NV(a0 l0:(List Bs)):Option (List Bs):=
 bif l0.isEmpty then some a0 else none
def PB(a0:Mb)(a1:LZ):Option (Bool):=
 (gd (bif (decide (a1.kind=2))then(decide ((↑a1.words.length:Int)=0))else false) (Mf a0.parts a1.name) default).bind fun v1=>
 some (bif (bif (decide (a1.kind=2))then(decide ((↑a1.words.length:Int)=0))else false)then v1 else false)
def PC(a1:(List Bs))(a0:LZ)(PO:(List Bs))(k0:Nat)(s0:(List Bs)):Option (Ctl (LZ) ((List Bs)) ((List Bs))):=
 (Mf a1 (get a0.words k0)).bind fun v23=>
 bif v23 then
  chk (Qb [63] (get a0.words k0)) <|
  Sk (s0++[(d1s [63] (get a0.words k0))]) fun c26=>
  chk (c26.length*16≤top∧c26.length≤top) <|
  some (.nxt c26)
 else
  (Mf PO (get a0.words k0)).bind fun v31=>
  bif v31 then
   chk (Qb [46] (get a0.words k0)) <|
   Sk (s0++[(d1s [46] (get a0.words k0))]) fun c34=>
   chk (c34.length*16≤top∧c34.length≤top) <|
   some (.nxt c34)
  else
   Sk (s0++[(get a0.words k0)]) fun c40=>
   chk (c40.length*16≤top∧c40.length≤top) <|
   some (.nxt c40)
def PD(self:(LZ)→((List Bs))→(Int)→(Bs)→((List Bs))→((List LZ))→((List Bs))→((List Bs))→((List Bs))→Option (LZ))(a0:LZ)(j1:Bs×(List Bs))(MB:Int)(QE:Bs)(QF:(List Bs))(QG:(List LZ))(PO:(List Bs))(Qw:(List Bs))(OH:(List Bs))(k2:Nat)(s2:(List LZ)):Option (Ctl (LZ) ((List LZ)) ((List LZ))):=
 (self (get a0.subs k2) j1.2 MB QE QF QG PO Qw OH).bind fun v65=>
 Sk (s2++[v65]) fun c67=>
 chk (c67.length*72≤top∧c67.length≤top) <|
 some (.nxt c67)
def PE(a0:LZ)(j1:Bs×(List Bs))(t0:(List Bs))(t2:(List LZ)):Option (LZ):=
 some (LZ.mk a0.kind j1.1 t0 t2)
def MU(self:(LZ)→((List Bs))→(Int)→(Bs)→((List Bs))→((List LZ))→((List Bs))→((List Bs))→((List Bs))→Option (LZ))(a0:LZ)(MB:Int)(QE:Bs)(QF:(List Bs))(QG:(List LZ))(PO:(List Bs))(Qw:(List Bs))(OH:(List Bs))(t0:(List Bs))(j1:Bs×(List Bs)):Option (LZ):=
 Mw (MY (PD self a0 j1 MB QE QF QG PO Qw OH) a0.subs.length []) (PE a0 j1 t0)
def PF(self:(LZ)→((List Bs))→(Int)→(Bs)→((List Bs))→((List LZ))→((List Bs))→((List Bs))→((List Bs))→Option (LZ))(a0:LZ)(a1:(List Bs))(MB:Int)(QE:Bs)(QF:(List Bs))(QG:(List LZ))(PO:(List Bs))(Qw:(List Bs))(OH:(List Bs))(t0:(List Bs)):Option (LZ):=
 (MG a0).bind fun v45=>
 bif v45 then
  (NV a1 []).bind fun v46=>
  Sk (v46++[a0.name]) fun c48=>
  chk (c48.length*16≤top∧c48.length≤top) <|
  chk (Qb [63] a0.name) <|
  MU self a0 MB QE QF QG PO Qw OH t0 ((d1s [63] a0.name),c48)
 else
  (PB (Mb.mk (LZ.mk MB QE QF QG) PO Qw OH) a0).bind fun v54=>
  bif v54 then
   chk (Qb [43] a0.name) <|
   MU self a0 MB QE QF QG PO Qw OH t0 ((d1s [43] a0.name),a1)
  else
   (gd (decide (a0.kind=2)) (Mf Qw a0.name) default).bind fun v56=>
   bif (bif (decide (a0.kind=2))then v56 else false)then
    chk (Qb [33] a0.name) <|
    MU self a0 MB QE QF QG PO Qw OH t0 ((d1s [33] a0.name),a1)
   else
    MU self a0 MB QE QF QG PO Qw OH t0 (a0.name,a1)
def MX:Nat→(LZ)→((List Bs))→(Int)→(Bs)→((List Bs))→((List LZ))→((List Bs))→((List Bs))→((List Bs))→Option (LZ)
 |0,_,_,_,_,_,_,_,_,_=>none
 |n+1,a0,a1,MB,QE,QF,QG,PO,Qw,OH=>
  Mw (MY (PC a1 a0 PO) a0.words.length []) (PF (MX n) a0 a1 MB QE QF QG PO Qw OH)
def PG(a0:Bs)(a1:(List Bs))(k0:Nat)(s0:(List Bs)):Option (Ctl ((List Bs)) ((List Bs)) ((List Bs))):=
 chk (Qb a0 (get a1 k0)) <|
 Sk (s0++[(d1s a0 (get a1 k0))]) fun c10=>
 chk (c10.length*16≤top∧c10.length≤top) <|
 some (.nxt c10)
def Rp(t0:(List Bs)):Option ((List Bs)):=
 some t0
def Oe(a0:Bs)(a1:(List Bs)):Option ((List Bs)):=
 Mw (MY (PG a0 a1) a1.length []) (Rp)
def Qo(n:Nat)(a0:Mb):Option (Mb):=
 (MX n a0.form [] a0.form.kind a0.form.name a0.form.words a0.form.subs a0.words a0.Mj a0.parts).bind fun v1=>
 (Oe [46] a0.words).bind fun v2=>
 (Oe [33] a0.Mj).bind fun v3=>
 (Oe [43] a0.parts).bind fun v4=>
 some (Mb.mk v1 v2 v3 v4)
def NI(a1:(List Bs))(a0:(List Bs))(k0:Nat)(s0:Unit):Option (Ctl (Bool) (Unit) (Unit)):=
 chk ((↑k0:Int)<(↑a1.length:Int)) <|
 bif (!decide ((get a0 k0)=(get a1 k0)))then
  some (.ret false)
 else
  some (.nxt ())
def NJ(t0:Unit):Option (Bool):=
 some true
def Nd(a0:(List Bs))(a1:(List Bs)):Option (Bool):=
 bif (!decide ((↑a0.length:Int)=(↑a1.length:Int)))then
  some false
 else
  Mw (MY (NI a1 a0) a0.length ()) (NJ)
def RW(self:(LZ)→(LZ)→Option (Bool))(a1:LZ)(a0:LZ)(k0:Nat)(s0:Unit):Option (Ctl (Bool) (Unit) (Unit)):=
 chk ((↑k0:Int)<(↑a1.subs.length:Int)) <|
 (self (get a0.subs k0) (get a1.subs k0)).bind fun v4=>
 bif (!v4)then
  some (.ret false)
 else
  some (.nxt ())
def RX(t0:Unit):Option (Bool):=
 some true
def Rm:Nat→(LZ)→(LZ)→Option (Bool)
 |0,_,_=>none
 |n+1,a0,a1=>
  (gd (!(bif (!decide (a0.kind=a1.kind))then true else(!decide (a0.name=a1.name)))) (Nd a0.words a1.words) default).bind fun v1=>
  bif (bif (bif (bif (!decide (a0.kind=a1.kind))then true else(!decide (a0.name=a1.name)))then true else(!v1))then true else(!decide ((↑a0.subs.length:Int)=(↑a1.subs.length:Int))))then
   some false
  else
   chk (a0.subs.length≤9223372036854775807) <|
   Mw (MY (RW (Rm n) a1 a0) a0.subs.length ()) (RX)
def Oz(a1:Bs)(a2:Bs)(m0:(List (Bs×Ma))):Option (Bool×(List (Bs×Ma))):=
 bif (assoc a1 m0).isSome then
  some ((decide ((((assoc a1 m0).getD default).text)=a2)),m0)
 else
  Sk (ML a1 (Ma.mk a1 a2 (LZ.mk 0 [] [] [])) m0) fun c1=>
  some (true,c1)
def OA(a1:LZ)(a0:Mb)(a2:LZ)(k2:Nat)(s2:(List (Bs×Ma))):Option (Ctl (Bool×(List (Bs×Ma))) ((List (Bs×Ma))) ((List (Bs×Ma)))):=
 (gd (!(assoc (get a1.words k2) s2).isSome) (Mf a0.words (get a1.words k2)) default).bind fun v12=>
 bif (bif (assoc (get a1.words k2) s2).isSome then true else v12)then
  chk ((↑k2:Int)<(↑a2.words.length:Int)) <|
  (Oz (get a1.words k2) (get a2.words k2) s2).bind fun v14=>
  bif (!v14.1)then
   some (.ret (false,v14.2))
  else
   some (.nxt v14.2)
 else
  chk ((↑k2:Int)<(↑a2.words.length:Int)) <|
  bif (!decide ((get a1.words k2)=(get a2.words k2)))then
   some (.ret (false,s2))
  else
   some (.nxt s2)
def PJ(self:(Mb)→(LZ)→(LZ)→((List (Bs×Ma)))→Option (Bool×(List (Bs×Ma))))(a2:LZ)(a0:Mb)(a1:LZ)(k3:Nat)(s3:(List (Bs×Ma))):Option (Ctl (Bool×(List (Bs×Ma))) ((List (Bs×Ma))) ((List (Bs×Ma)))):=
 chk ((↑k3:Int)<(↑a2.subs.length:Int)) <|
 (self a0 (get a1.subs k3) (get a2.subs k3) s3).bind fun v19=>
 bif (!v19.1)then
  some (.ret (false,v19.2))
 else
  some (.nxt v19.2)
def PK(t3:(List (Bs×Ma))):Option (Bool×(List (Bs×Ma))):=
 some (true,t3)
def PI(self:(Mb)→(LZ)→(LZ)→((List (Bs×Ma)))→Option (Bool×(List (Bs×Ma))))(a2:LZ)(a0:Mb)(a1:LZ)(t2:(List (Bs×Ma))):Option (Bool×(List (Bs×Ma))):=
 Mw (MY (PJ self a2 a0 a1) a1.subs.length t2) (PK)
def NQ(self:(Mb)→(LZ)→(LZ)→((List (Bs×Ma)))→Option (Bool×(List (Bs×Ma))))(a1:LZ)(a0:Mb)(a2:LZ)(j1:(List (Bs×Ma))):Option (Bool×(List (Bs×Ma))):=
 Mw (MY (OA a1 a0 a2) a1.words.length j1) (PI self a2 a0 a1)
def Nn(self:(Mb)→(LZ)→(LZ)→((List (Bs×Ma)))→Option (Bool×(List (Bs×Ma))))(a1:LZ)(a2:LZ)(m0:(List (Bs×Ma)))(a0:Mb)(j0:Bool):Option (Bool×(List (Bs×Ma))):=
 bif j0 then
  (Oz a1.name a2.name m0).bind fun v7=>
  bif (!v7.1)then
   some (false,v7.2)
  else
   NQ self a1 a0 a2 v7.2
 else
  bif (!decide (a1.name=a2.name))then
   some (false,m0)
  else
   NQ self a1 a0 a2 m0
def Mz:Nat→(Mb)→(LZ)→(LZ)→((List (Bs×Ma)))→Option (Bool×(List (Bs×Ma)))
 |0,_,_,_,_=>none
 |n+1,a0,a1,a2,m0=>
  (PB a0 a1).bind fun v1=>
  bif v1 then
   bif (assoc a1.name m0).isSome then
    (Rm n (((assoc a1.name m0).getD default).form) a2).bind fun v2=>
    some (v2,m0)
   else
    Sk (ML a1.name (Ma.mk a1.name [] a2) m0) fun c3=>
    some (true,c3)
  else
   bif (bif (!decide (a1.kind=a2.kind))then true else(!decide ((↑a1.words.length:Int)=(↑a2.words.length:Int))))then
    some (false,m0)
   else
    (MG a1).bind fun v5=>
    bif v5 then
     Nn (Mz n) a1 a2 m0 a0 v5
    else
     (gd (decide (a1.kind=2)) (Mf a0.Mj a1.name) default).bind fun v6=>
     Nn (Mz n) a1 a2 m0 a0 (bif (decide (a1.kind=2))then v6 else false)
def Nr(a1:Bs)(l0:(List Bs))(k0:Nat)(s0:Unit):Option (Ctl (Int) (Unit) (Unit)):=
 bif (decide (a1=(get l0 k0)))then
  some (.ret (↑k0:Int))
 else
  some (.nxt ())
def Ns(t0:Unit):Option (Int):=
 some (-1)
def NU(a1:Bs)(l0:(List Bs)):Option (Int):=
 chk (l0.length≤9223372036854775807) <|
 Mw (MY (Nr a1 l0) l0.length ()) (Ns)
def Ms(a1:Bs)(l0:(List Bs)):Option (Bool):=
 (NU a1 l0).bind fun v1=>
 some (decide (0≤v1))
def NT(a0:(List Bs)):Option (List Bs):=
 some a0
def RD(self:(LZ)→Option (LZ))(a0:LZ)(k0:Nat)(s0:(List LZ)):Option (Ctl (LZ) ((List LZ)) ((List LZ))):=
 (self (get a0.subs k0)).bind fun v9=>
 Sk (s0++[v9]) fun c11=>
 chk (c11.length*72≤top∧c11.length≤top) <|
 some (.nxt c11)
def RE(a0:LZ)(v1:(List Bs))(t0:(List LZ)):Option (LZ):=
 some (LZ.mk a0.kind a0.name v1 t0)
def Qp:Nat→(LZ)→Option (LZ)
 |0,_=>none
 |n+1,a0=>
  (NT a0.words).bind fun v1=>
  Mw (MY (RD (Qp n) a0) a0.subs.length []) (RE a0 v1)
def Rg(v3:(List Bs))(v2:Bool×(List (Bs×Ma)))(k0:Nat)(s0:(List Bs)):Option (Ctl ((List Ma)×Bool) ((List Bs)) ((List Bs))):=
 Sk (s0++[((assoc (get v3 k0) v2.2).getD default).text]) fun c11=>
 chk (c11.length*16≤top∧c11.length≤top) <|
 some (.nxt c11)
def Ri(n:Nat)(v1:Mb)(v19:(List Bs))(v2:Bool×(List (Bs×Ma)))(t0:(List Bs))(k1:Nat)(s1:(List Ma)):Option (Ctl ((List Ma)×Bool) ((List Ma)) ((List Ma))):=
 (Mf v1.words (get v19 k1)).bind fun v38=>
 (gd v38 (Ms (((assoc (get v19 k1) v2.2).getD default).text) t0) (default:Bool)).bind fun v39=>
 bif (bif v38 then v39 else false)then
  some (.ret ([],false))
 else
  chk (0≤1∧1≤(get v19 k1).length) <|
  (Mf v1.parts (get v19 k1)).bind fun v42=>
  bif v42 then
   (Qp n (((assoc (get v19 k1) v2.2).getD default).form)).bind fun v43=>
   Sk (s1++[(Ma.mk ((get v19 k1).drop 1) (((assoc (get v19 k1) v2.2).getD default).text) v43)]) fun c45=>
   chk (c45.length*104≤top∧c45.length≤top) <|
   some (.nxt c45)
  else
   Sk (s1++[(Ma.mk ((get v19 k1).drop 1) (((assoc (get v19 k1) v2.2).getD default).text) (((assoc (get v19 k1) v2.2).getD default).form))]) fun c51=>
   chk (c51.length*104≤top∧c51.length≤top) <|
   some (.nxt c51)
def Rj(t1:(List Ma)):Option ((List Ma)×Bool):=
 some (t1,true)
def Rh(n:Nat)(v1:Mb)(v2:Bool×(List (Bs×Ma)))(t0:(List Bs)):Option ((List Ma)×Bool):=
 (Ni v1).bind fun v16=>
 (Mp n v1.form).bind fun v17=>
 (Ux [v16,v17]).bind fun v19=>
 Mw (MY (Ri n v1 v19 v2 t0) v19.length []) (Rj)
def QD(n:Nat)(a0:Mb)(a1:LZ):Option ((List Ma)×Bool):=
 (Qo n a0).bind fun v1=>
 (Mz n v1 v1.form a1 []).bind fun v2=>
 bif (!v2.1)then
  some ([],false)
 else
  (Mp n v1.form).bind fun v3=>
  Mw (MY (Rg v3 v2) v3.length []) (Rh n v1 v2)
def Qa(n:Nat)(a0:Mb)(a1:LZ):Option ((List Ma)×Bool×Mi):=
 (NP n a0).bind fun v1=>
 bif (!decide (v1.code=0))then
  some ([],false,v1)
 else
  (Nw n a1).bind fun v2=>
  bif (!decide (v2.code=0))then
   some ([],false,v2)
  else
   (Pw n a1).bind fun v3=>
   (QD n a0 v3).bind fun v4=>
   some (v4.1,v4.2,(Mi.mk 0 0))
def RR(self:(LZ)→(Int)→(Int)→(Bs)→((List Bs))→((List LZ))→((List Bs))→((List Bs))→((List Bs))→((List Ml))→Option (Int×(List Ml)))(a0:LZ)(MN:Int)(d1f:Bs)(d1g:(List Bs))(d1h:(List LZ))(d1i:(List Bs))(d1j:(List Bs))(d1k:(List Bs))(k1:Nat)(s1:Int×(List Ml)):Option (Ctl (Int×(List Ml)) (Int×(List Ml)) (Int×(List Ml))):=
 (self (get a0.subs k1) s1.1 MN d1f d1g d1h d1i d1j d1k s1.2).bind fun v10=>
 some (.nxt (v10.1,v10.2))
def RS(t1:Int×(List Ml)):Option (Int×(List Ml)):=
 some (t1.1,t1.2)
def QH(self:(LZ)→(Int)→(Int)→(Bs)→((List Bs))→((List LZ))→((List Bs))→((List Bs))→((List Bs))→((List Ml))→Option (Int×(List Ml)))(a0:LZ)(MN:Int)(d1f:Bs)(d1g:(List Bs))(d1h:(List LZ))(d1i:(List Bs))(d1j:(List Bs))(d1k:(List Bs))(MB:Int)(j0:(List Ml)):Option (Int×(List Ml)):=
 Mw (MY (RR self a0 MN d1f d1g d1h d1i d1j d1k) a0.subs.length ((wr .i64 (MB+1)),j0)) (RS)
def Pc:Nat→(LZ)→(Int)→(Int)→(Bs)→((List Bs))→((List LZ))→((List Bs))→((List Bs))→((List Bs))→((List Ml))→Option (Int×(List Ml))
 |0,_,_,_,_,_,_,_,_,_,_=>none
 |n+1,a0,MB,MN,d1f,d1g,d1h,d1i,d1j,d1k,l3=>
  (QD n (Mb.mk (LZ.mk MN d1f d1g d1h) d1i d1j d1k) a0).bind fun v1=>
  bif v1.2 then
   Sk (l3++[(Ml.mk MB v1.1)]) fun c3=>
   chk (c3.length*32≤top∧c3.length≤top) <|
   QH (Pc n) a0 MN d1f d1g d1h d1i d1j d1k MB c3
  else
   QH (Pc n) a0 MN d1f d1g d1h d1i d1j d1k MB l3
def UG(n:Nat)(a0:Mb)(a1:LZ):Option ((List Ml)×Mi):=
 (NP n a0).bind fun v1=>
 bif (!decide (v1.code=0))then
  some ([],v1)
 else
  (Nw n a1).bind fun v2=>
  bif (!decide (v2.code=0))then
   some ([],v2)
  else
   (Pw n a1).bind fun v3=>
   (Pc n v3 0 a0.form.kind a0.form.name a0.form.words a0.form.subs a0.words a0.Mj a0.parts []).bind fun v4=>
   some (v4.2,(Mi.mk 0 0))
def MV(a0:(List Bs))(a1:(List Bs))(s0:Int):Option (Ctl (Bool) (Int) (Unit)):=
 bif (decide (s0<(↑a0.length:Int)))then
  chk (0≤s0∧s0<(↑a0.length:Int)) <|
  chk (s0<(↑a1.length:Int)) <|
  bif (!decide ((get a0 s0.toNat)=(get a1 s0.toNat)))then
   some (.ret false)
  else
   some (.nxt (wr .i64 (s0+1)))
 else
  some (.brk ())
def OC(t0:Unit):Option (Bool):=
 some true
def Np(n:Nat)(a0:(List Bs))(a1:(List Bs)):Option (Bool):=
 bif (!decide ((↑a0.length:Int)=(↑a1.length:Int)))then
  some false
 else
  Mw (Qk (MV a0 a1) n 0) (OC)
def Ng(self:(LZ)→(LZ)→Option (Bool))(a0:LZ)(a1:LZ)(s0:Int):Option (Ctl (Bool) (Int) (Unit)):=
 bif (decide (s0<(↑a0.subs.length:Int)))then
  chk (0≤s0∧s0<(↑a0.subs.length:Int)) <|
  chk (s0<(↑a1.subs.length:Int)) <|
  (self (get a0.subs s0.toNat) (get a1.subs s0.toNat)).bind fun v8=>
  bif (!v8)then
   some (.ret false)
  else
   some (.nxt (wr .i64 (s0+1)))
 else
  some (.brk ())
def OI(t0:Unit):Option (Bool):=
 some true
def Mt:Nat→(LZ)→(LZ)→Option (Bool)
 |0,_,_=>none
 |n+1,a0,a1=>
  (gd (!(bif (!decide (a0.kind=a1.kind))then true else(!decide (a0.name=a1.name)))) (Np n a0.words a1.words) default).bind fun v1=>
  bif (bif (bif (bif (!decide (a0.kind=a1.kind))then true else(!decide (a0.name=a1.name)))then true else(!v1))then true else(!decide ((↑a0.subs.length:Int)=(↑a1.subs.length:Int))))then
   some false
  else
   Mw (Qk (Ng (Mt n) a0 a1) n 0) (OI)
def MK(n:Nat):Option (Bool):=
 (PN [112] []).bind fun v1=>
 (PN [113] []).bind fun v2=>
 (OB 5 v1 v2).bind fun v3=>
 (OB 5 (LZ.mk 1 [] [] []) (LZ.mk 4 [] [] [(LZ.mk 1 [] [] [])])).bind fun v6=>
 (Qa n (Mb.mk v3 [] [] [[112],[113]]) v6).bind fun v7=>
 (OB 5 (LZ.mk 1 [] [] []) (LZ.mk 4 [] [] [(LZ.mk 1 [] [] [])])).bind fun v8=>
 (UG n (Mb.mk v3 [] [] [[112],[113]]) v8).bind fun v9=>
 chk (d1m (bif (bif (bif (decide (v7.2.2.code=0))then(decide (v9.2.code=0))else false)then v7.2.1 else false)then(decide ((↑v7.1.length:Int)=2))else false) (0<(↑v7.1.length:Int))) <|
 (gd (bif (bif (bif (decide (v7.2.2.code=0))then(decide (v9.2.code=0))else false)then v7.2.1 else false)then(decide ((↑v7.1.length:Int)=2))else false) (Mt n ((get v7.1 0).form) (LZ.mk 1 [] [] [])) default).bind fun v12=>
 chk (d1m (bif (bif (bif (bif (decide (v7.2.2.code=0))then(decide (v9.2.code=0))else false)then v7.2.1 else false)then(decide ((↑v7.1.length:Int)=2))else false)then v12 else false) (1<(↑v7.1.length:Int))) <|
 (gd (bif (bif (bif (bif (decide (v7.2.2.code=0))then(decide (v9.2.code=0))else false)then v7.2.1 else false)then(decide ((↑v7.1.length:Int)=2))else false)then v12 else false) (Mt n ((get v7.1 1).form) (LZ.mk 4 [] [] [(LZ.mk 1 [] [] [])])) default).bind fun v15=>
 chk (d1m (bif (bif (bif (bif (bif (bif (decide (v7.2.2.code=0))then(decide (v9.2.code=0))else false)then v7.2.1 else false)then(decide ((↑v7.1.length:Int)=2))else false)then v12 else false)then v15 else false)then(decide ((↑v9.1.length:Int)=1))else false) (0<(↑v9.1.length:Int))) <|
 some (bif (bif (bif (bif (bif (bif (bif (decide (v7.2.2.code=0))then(decide (v9.2.code=0))else false)then v7.2.1 else false)then(decide ((↑v7.1.length:Int)=2))else false)then v12 else false)then v15 else false)then(decide ((↑v9.1.length:Int)=1))else false)then(decide (((get v9.1 0).at_)=0))else false)
def Vx(a0:Int):Option (Int):=
 bif (bif (decide (a0<1))then true else(decide (9<a0)))then
  some (-1)
 else
  chk (0≤a0∧a0<10) <|
  some (get [0,0,0,0,1,2,2,2,1,1] a0.toNat)
def UO(a0:Bs)(s0:Int):Option (Ctl (Bool) (Int) (Unit)):=
 bif (decide (s0<(↑a0.length:Int)))then
  chk (0≤s0∧s0<(↑a0.length:Int)) <|
  bif (bif (!(bif (decide (97≤(PS a0 s0)))then(decide ((PS a0 s0)≤122))else false))then(bif (decide (s0=0))then true else(!(bif (bif (bif (decide (48≤(PS a0 s0)))then(decide ((PS a0 s0)≤57))else false)then true else(decide ((PS a0 s0)=95)))then true else(decide ((PS a0 s0)=45)))))else false)then
   some (.ret false)
  else
   some (.nxt (wr .i64 (s0+1)))
 else
  some (.brk ())
def UP(t0:Unit):Option (Bool):=
 some true
def Tp(n:Nat)(a0:Bs):Option (Bool):=
 bif (bif (decide ((↑a0.length:Int)<1))then true else(decide (30<(↑a0.length:Int))))then
  some false
 else
  Mw (Qk (UO a0) n 0) (UP)
def SE(s0:(List Md)×Int×Nat)(s12:(List Md)×Int×Nat):Option (Ctl (Ctl (Mi) ((List Md)×Int×Nat) (Unit)) ((List Md)×Int×Nat) ((List Md)×Nat)):=
 bif (decide (0≤s12.2.1))then
  chk (0≤s12.2.1∧s12.2.1<(↑(((get s0.1 ((wr .i64 ((↑s0.2.2:Int)-1)).toNat)).f.subs).length):Int)) <|
  chk (s12.2.2≤s12.1.length) <|
  Sk ((s12.1.take s12.2.2)++[(Md.mk (get ((get s0.1 ((wr .i64 ((↑s0.2.2:Int)-1)).toNat)).f.subs) s12.2.1.toNat) (wr .i64 (((get s0.1 ((wr .i64 ((↑s0.2.2:Int)-1)).toNat)).depth)+1)))]) fun c51=>
  chk (c51.length*80≤top∧c51.length≤top) <|
  some (.nxt (c51,(wr .i64 (s12.2.1-1)),c51.length))
 else
  some (.brk (s12.1,s12.2.2))
def SF(s0:(List Md)×Int×Nat)(t12:(List Md)×Nat):Option (Ctl (Mi) ((List Md)×Int×Nat) (Unit)):=
 some (.nxt (t12.1,(wr .i64 (s0.2.1+1)),t12.2))
def MD(n:Nat)(s0:(List Md)×Int×Nat)(j10:Int):Option (Ctl (Mi) ((List Md)×Int×Nat) (Unit)):=
 bif (!decide (j10=0))then
  some (.ret (Mi.mk j10 s0.2.1))
 else
  Mw (Qk (SE s0) n (s0.1,(wr .i64 ((↑(((get s0.1 ((wr .i64 ((↑s0.2.2:Int)-1)).toNat)).f.subs).length):Int)-1)),(wr .i64 ((↑s0.2.2:Int)-1)).toNat)) (SF s0)
def SG(n:Nat)(s0:(List Md)×Int×Nat)(k11:Nat)(s11:Int):Option (Ctl (Ctl (Mi) ((List Md)×Int×Nat) (Unit)) (Int) (Int)):=
 (Tp n (get ((get s0.1 ((wr .i64 ((↑s0.2.2:Int)-1)).toNat)).f.words) k11)).bind fun v37=>
 bif (!v37)then
  some (.nxt 10)
 else
  some (.nxt s11)
def SH(n:Nat)(s0:(List Md)×Int×Nat)(t11:Int):Option (Ctl (Mi) ((List Md)×Int×Nat) (Unit)):=
 MD n s0 t11
def Qq(n:Nat)(s0:(List Md)×Int×Nat)(j7:Int)(j9:Int×Int):Option (Ctl (Mi) ((List Md)×Int×Nat) (Unit)):=
 bif (bif (decide (200≤s0.2.1))then true else(decide (40<((get s0.1 ((wr .i64 ((↑s0.2.2:Int)-1)).toNat)).depth))))then
  MD n s0 1
 else
  bif (decide (j7<0))then
   MD n s0 4
  else
   bif (bif (bif (!decide ((↑(((get s0.1 ((wr .i64 ((↑s0.2.2:Int)-1)).toNat)).f.subs).length):Int)=j7))then true else(decide ((↑(((get s0.1 ((wr .i64 ((↑s0.2.2:Int)-1)).toNat)).f.words).length):Int)<j9.2)))then true else(decide (j9.1<(↑(((get s0.1 ((wr .i64 ((↑s0.2.2:Int)-1)).toNat)).f.words).length):Int))))then
    MD n s0 9
   else
    (gd (bif (bif (bif (decide (((get s0.1 ((wr .i64 ((↑s0.2.2:Int)-1)).toNat)).f.kind)=2))then true else(decide (((get s0.1 ((wr .i64 ((↑s0.2.2:Int)-1)).toNat)).f.kind)=8)))then true else(decide (((get s0.1 ((wr .i64 ((↑s0.2.2:Int)-1)).toNat)).f.kind)=9)))then true else(decide (((get s0.1 ((wr .i64 ((↑s0.2.2:Int)-1)).toNat)).f.kind)=10))) (Tp n ((get s0.1 ((wr .i64 ((↑s0.2.2:Int)-1)).toNat)).f.name)) default).bind fun v35=>
    bif (bif (bif (bif (bif (decide (((get s0.1 ((wr .i64 ((↑s0.2.2:Int)-1)).toNat)).f.kind)=2))then true else(decide (((get s0.1 ((wr .i64 ((↑s0.2.2:Int)-1)).toNat)).f.kind)=8)))then true else(decide (((get s0.1 ((wr .i64 ((↑s0.2.2:Int)-1)).toNat)).f.kind)=9)))then true else(decide (((get s0.1 ((wr .i64 ((↑s0.2.2:Int)-1)).toNat)).f.kind)=10)))then(!v35)else false)then
     MD n s0 10
    else
     bif (bif (!(bif (bif (bif (decide (((get s0.1 ((wr .i64 ((↑s0.2.2:Int)-1)).toNat)).f.kind)=2))then true else(decide (((get s0.1 ((wr .i64 ((↑s0.2.2:Int)-1)).toNat)).f.kind)=8)))then true else(decide (((get s0.1 ((wr .i64 ((↑s0.2.2:Int)-1)).toNat)).f.kind)=9)))then true else(decide (((get s0.1 ((wr .i64 ((↑s0.2.2:Int)-1)).toNat)).f.kind)=10))))then(!decide (((get s0.1 ((wr .i64 ((↑s0.2.2:Int)-1)).toNat)).f.name)=[]))else false)then
      MD n s0 5
     else
      Mw (MY (SG n s0) (((get s0.1 ((wr .i64 ((↑s0.2.2:Int)-1)).toNat)).f.words).length) 0) (SH n s0)
def Qr(n:Nat)(s0:(List Md)×Int×Nat)(j7:Int)(j8:Int):Option (Ctl (Mi) ((List Md)×Int×Nat) (Unit)):=
 bif (decide (((get s0.1 ((wr .i64 ((↑s0.2.2:Int)-1)).toNat)).f.kind)=3))then
  Qq n s0 j7 (2,2)
 else
  Qq n s0 j7 (j8,0)
def Qs(n:Nat)(s0:(List Md)×Int×Nat)(j7:Int):Option (Ctl (Mi) ((List Md)×Int×Nat) (Unit)):=
 bif (decide (((get s0.1 ((wr .i64 ((↑s0.2.2:Int)-1)).toNat)).f.kind)=2))then
  Qr n s0 j7 3
 else
  Qr n s0 j7 0
def Tj(n:Nat)(a1:Bool)(s0:(List Md)×Int×Nat):Option (Ctl (Mi) ((List Md)×Int×Nat) (Unit)):=
 bif (decide (0<(↑s0.2.2:Int)))then
  chk (s0.2.2≤s0.1.length) <|
  chk (0≤(wr .i64 ((↑s0.2.2:Int)-1))∧(wr .i64 ((↑s0.2.2:Int)-1))<(↑s0.2.2:Int)) <|
  chk ((wr .i64 ((↑s0.2.2:Int)-1)).toNat≤s0.2.2) <|
  (Vx ((get s0.1 ((wr .i64 ((↑s0.2.2:Int)-1)).toNat)).f.kind)).bind fun v34=>
  bif (bif a1 then(decide (((get s0.1 ((wr .i64 ((↑s0.2.2:Int)-1)).toNat)).f.kind)=10))else false)then
   Qs n s0 0
  else
   Qs n s0 v34
 else
  some (.brk ())
def PV(n:Nat)(a0:LZ):Option (LZ×Mi):=
 (Nw n a0).bind fun v1=>
 bif (!decide (v1.code=0))then
  some ((LZ.mk 0 [] [] []),v1)
 else
  (Pw n a0).bind fun v2=>
  some (v2,(Mi.mk 0 0))
def RY(self:(LZ)→Option (Int×Int))(a0:LZ)(k0:Nat)(s0:Int×Int):Option (Ctl (Int×Int) (Int×Int) (Int×Int)):=
 (self (get a0.subs k0)).bind fun v2=>
 some (.nxt ((wr .i64 (s0.1+v2.1)),(max s0.2 v2.2)))
def RZ(t0:Int×Int):Option (Int×Int):=
 some (t0.1,(wr .i64 (t0.2+1)))
def Rn:Nat→(LZ)→Option (Int×Int)
 |0,_=>none
 |n+1,a0=>
  Mw (MY (RY (Rn n) a0) a0.subs.length (1,0)) (RZ)
def NZ(a1:Int)(MB:(List Ma))(a2:Bs)(s0:Int):Option (Ctl (Bs) (Int) (Unit)):=
 bif (decide (s0<a1))then
  chk (0≤s0∧s0<(↑MB.length:Int)) <|
  bif (decide (((get MB s0.toNat).name)=a2))then
   some (.ret ((get MB s0.toNat).text))
  else
   some (.nxt (wr .i64 (s0+1)))
 else
  some (.brk ())
def Qt(a2:Bs)(t0:Unit):Option (Bs):=
 some a2
def MA(n:Nat)(a0:Int)(a1:Int)(a2:Bs)(MB:(List Ma)):Option (Bs):=
 Mw (Qk (NZ a1 MB a2) n a0) (Qt a2)
def OU(n:Nat)(a2:(List Bs))(a0:LZ)(Pf:Int)(OH:(List Bs))(MN:(List Ma))(PO:(List Bs))(k2:Nat)(s2:(List Bs)):Option (Ctl (LZ×Bool×Int) ((List Bs)) ((List Bs))):=
 (Mf a2 (get a0.words k2)).bind fun v22=>
 bif v22 then
  (MA n (wr .i64 (Pf+(↑OH.length:Int))) (↑MN.length:Int) (get a0.words k2) MN).bind fun v23=>
  Sk (s2++[v23]) fun c25=>
  chk (c25.length*16≤top∧c25.length≤top) <|
  some (.nxt c25)
 else
  (MA n 0 (↑PO.length:Int) (get a0.words k2) MN).bind fun v30=>
  Sk (s2++[v30]) fun c32=>
  chk (c32.length*16≤top∧c32.length≤top) <|
  some (.nxt c32)
def OV(self:(LZ)→(Int)→((List Bs))→(Int)→(Bs)→((List Bs))→((List LZ))→((List Bs))→((List Bs))→((List Bs))→((List Ma))→(Int)→(Int)→Option (LZ×Bool×Int))(a0:LZ)(a1:Int)(j3:Bs×(List Bs))(MB:Int)(QE:Bs)(QF:(List Bs))(QG:(List LZ))(PO:(List Bs))(Qw:(List Bs))(OH:(List Bs))(MN:(List Ma))(Pf:Int)(k4:Nat)(s4:Int×(List LZ)×Bool):Option (Ctl (LZ×Bool×Int) (Int×(List LZ)×Bool) (Int×(List LZ)×Bool)):=
 (self (get a0.subs k4) (wr .i64 (a1+1)) j3.2 MB QE QF QG PO Qw OH MN Pf s4.1).bind fun v54=>
 Sk (s4.2.1++[v54.1]) fun c56=>
 chk (c56.length*72≤top∧c56.length≤top) <|
 some (.nxt (v54.2.2,c56,(bif s4.2.2 then v54.2.1 else false)))
def OW(a0:LZ)(j3:Bs×(List Bs))(t2:(List Bs))(t4:Int×(List LZ)×Bool):Option (LZ×Bool×Int):=
 some ((LZ.mk a0.kind j3.1 t2 t4.2.1),t4.2.2,t4.1)
def MW(self:(LZ)→(Int)→((List Bs))→(Int)→(Bs)→((List Bs))→((List LZ))→((List Bs))→((List Bs))→((List Bs))→((List Ma))→(Int)→(Int)→Option (LZ×Bool×Int))(a0:LZ)(a1:Int)(MB:Int)(QE:Bs)(QF:(List Bs))(QG:(List LZ))(PO:(List Bs))(Qw:(List Bs))(OH:(List Bs))(MN:(List Ma))(Pf:Int)(TU:Int)(t2:(List Bs))(j3:Bs×(List Bs)):Option (LZ×Bool×Int):=
 Mw (MY (OV self a0 a1 j3 MB QE QF QG PO Qw OH MN Pf) a0.subs.length ((wr .i64 (TU+1)),[],(bif (decide ((wr .i64 (TU+1))≤200))then(decide (a1≤40))else false))) (OW a0 j3 t2)
def OX(self:(LZ)→(Int)→((List Bs))→(Int)→(Bs)→((List Bs))→((List LZ))→((List Bs))→((List Bs))→((List Bs))→((List Ma))→(Int)→(Int)→Option (LZ×Bool×Int))(n:Nat)(a0:LZ)(a2:(List Bs))(Pf:Int)(OH:(List Bs))(MN:(List Ma))(a1:Int)(MB:Int)(QE:Bs)(QF:(List Bs))(QG:(List LZ))(PO:(List Bs))(Qw:(List Bs))(TU:Int)(t2:(List Bs)):Option (LZ×Bool×Int):=
 (MG a0).bind fun v37=>
 bif v37 then
  (NV a2 []).bind fun v38=>
  Sk (v38++[a0.name]) fun c40=>
  chk (c40.length*16≤top∧c40.length≤top) <|
  (MA n (wr .i64 (Pf+(↑OH.length:Int))) (↑MN.length:Int) a0.name MN).bind fun v45=>
  MW self a0 a1 MB QE QF QG PO Qw OH MN Pf TU t2 (v45,c40)
 else
  bif (decide (a0.kind=2))then
   (MA n (↑PO.length:Int) Pf a0.name MN).bind fun v46=>
   MW self a0 a1 MB QE QF QG PO Qw OH MN Pf TU t2 (v46,a2)
  else
   MW self a0 a1 MB QE QF QG PO Qw OH MN Pf TU t2 (a0.name,a2)
def Nq(self:(LZ)→(Int)→((List Bs))→(Int)→(Bs)→((List Bs))→((List LZ))→((List Bs))→((List Bs))→((List Bs))→((List Ma))→(Int)→(Int)→Option (LZ×Bool×Int))(n:Nat)(a2:(List Bs))(a0:LZ)(Pf:Int)(OH:(List Bs))(MN:(List Ma))(PO:(List Bs))(a1:Int)(MB:Int)(QE:Bs)(QF:(List Bs))(QG:(List LZ))(Qw:(List Bs))(TU:Int)(j0:Unit):Option (LZ×Bool×Int):=
 Mw (MY (OU n a2 a0 Pf OH MN PO) a0.words.length []) (OX self n a0 a2 Pf OH MN a1 MB QE QF QG PO Qw TU)
def OY(n:Nat)(MN:(List Ma))(Pf:Int)(OH:(List Bs))(a0:LZ)(TU:Int)(a1:Int)(k1:Nat)(s1:Unit):Option (Ctl (LZ×Bool×Int) (Unit) (Unit)):=
 bif (decide (((get ((MN.drop Pf.toNat).take ((wr .i64 (Pf+(↑OH.length:Int))).toNat-Pf.toNat)) k1).name)=a0.name))then
  (Rn n ((get ((MN.drop Pf.toNat).take ((wr .i64 (Pf+(↑OH.length:Int))).toNat-Pf.toNat)) k1).form)).bind fun v6=>
  some (.ret ((get ((MN.drop Pf.toNat).take ((wr .i64 (Pf+(↑OH.length:Int))).toNat-Pf.toNat)) k1).form,(bif (decide ((wr .i64 (TU+v6.1))≤200))then(decide ((wr .i64 ((wr .i64 (a1+v6.2))-1))≤40))else false),(wr .i64 (TU+v6.1))))
 else
  some (.nxt ())
def Qu(self:(LZ)→(Int)→((List Bs))→(Int)→(Bs)→((List Bs))→((List LZ))→((List Bs))→((List Bs))→((List Bs))→((List Ma))→(Int)→(Int)→Option (LZ×Bool×Int))(n:Nat)(a2:(List Bs))(a0:LZ)(Pf:Int)(OH:(List Bs))(MN:(List Ma))(PO:(List Bs))(a1:Int)(MB:Int)(QE:Bs)(QF:(List Bs))(QG:(List LZ))(Qw:(List Bs))(TU:Int)(t1:Unit):Option (LZ×Bool×Int):=
 Nq self n a2 a0 Pf OH MN PO a1 MB QE QF QG Qw TU ()
def Mq:Nat→(LZ)→(Int)→((List Bs))→(Int)→(Bs)→((List Bs))→((List LZ))→((List Bs))→((List Bs))→((List Bs))→((List Ma))→(Int)→(Int)→Option (LZ×Bool×Int)
 |0,_,_,_,_,_,_,_,_,_,_,_,_,_=>none
 |n+1,a0,a1,a2,MB,QE,QF,QG,PO,Qw,OH,MN,Pf,TU=>
  (PB (Mb.mk (LZ.mk MB QE QF QG) PO Qw OH) a0).bind fun v1=>
  bif v1 then
   chk (0≤Pf∧0≤(wr .i64 (Pf+(↑OH.length:Int)))∧Pf.toNat≤(wr .i64 (Pf+(↑OH.length:Int))).toNat∧(wr .i64 (Pf+(↑OH.length:Int))).toNat≤MN.length) <|
   Mw (MY (OY n MN Pf OH a0 TU a1) (((MN.drop Pf.toNat).take ((wr .i64 (Pf+(↑OH.length:Int))).toNat-Pf.toNat)).length) ()) (Qu (Mq n) n a2 a0 Pf OH MN PO a1 MB QE QF QG Qw TU)
  else
   Nq (Mq n) n a2 a0 Pf OH MN PO a1 MB QE QF QG Qw TU ()
def MQ(n:Nat)(k0:Nat)(a0:Mb)(a1:(List Ma))(j2:Bool):Option (Ctl (LZ×Mi) (Unit) (Unit)):=
 bif j2 then
  (Mn 5 (↑k0:Int)).bind fun v16=>
  some (.ret ((LZ.mk 0 [] [] []),v16))
 else
  bif (bif (decide ((wr .i64 ((↑a0.words.length:Int)+(↑a0.Mj.length:Int)))≤(↑k0:Int)))then(decide ((↑k0:Int)<(wr .i64 ((wr .i64 ((↑a0.words.length:Int)+(↑a0.Mj.length:Int)))+(↑a0.parts.length:Int)))))else false)then
   (Nw n ((get a1 k0).form)).bind fun v17=>
   bif (!decide (v17.code=0))then
    (Mn v17.code (↑k0:Int)).bind fun v18=>
    some (.ret ((LZ.mk 0 [] [] []),v18))
   else
    some (.nxt ())
  else
   some (.nxt ())
def Pq(n:Nat)(v5:(List Bs))(a1:(List Ma))(a0:Mb)(k0:Nat)(s0:Unit):Option (Ctl (LZ×Mi) (Unit) (Unit)):=
 chk ((↑k0:Int)<(↑v5.length:Int)) <|
 bif (!decide (((get a1 k0).name)=(get v5 k0)))then
  (Mn 10 (↑k0:Int)).bind fun v14=>
  some (.ret ((LZ.mk 0 [] [] []),v14))
 else
  bif (bif (bif (decide ((wr .i64 ((↑a0.words.length:Int)+(↑a0.Mj.length:Int)))≤(↑k0:Int)))then(decide ((↑k0:Int)<(wr .i64 ((wr .i64 ((↑a0.words.length:Int)+(↑a0.Mj.length:Int)))+(↑a0.parts.length:Int)))))else false)then(!decide (((get a1 k0).text)=[]))else false)then
   MQ n k0 a0 a1 (bif (bif (decide ((wr .i64 ((↑a0.words.length:Int)+(↑a0.Mj.length:Int)))≤(↑k0:Int)))then(decide ((↑k0:Int)<(wr .i64 ((wr .i64 ((↑a0.words.length:Int)+(↑a0.Mj.length:Int)))+(↑a0.parts.length:Int)))))else false)then(!decide (((get a1 k0).text)=[]))else false)
  else
   (gd ((!(bif (decide ((wr .i64 ((↑a0.words.length:Int)+(↑a0.Mj.length:Int)))≤(↑k0:Int)))then(decide ((↑k0:Int)<(wr .i64 ((wr .i64 ((↑a0.words.length:Int)+(↑a0.Mj.length:Int)))+(↑a0.parts.length:Int)))))else false))&&(!(!(bif (bif (bif (decide (((get a1 k0).form.kind)=0))then(decide (((get a1 k0).form.name)=[]))else false)then(decide ((↑(((get a1 k0).form.words).length):Int)=0))else false)then(decide ((↑(((get a1 k0).form.subs).length):Int)=0))else false)))) (termName ((get a1 k0).text)) default).bind fun v15=>
   MQ n k0 a0 a1 (bif (!(bif (decide ((wr .i64 ((↑a0.words.length:Int)+(↑a0.Mj.length:Int)))≤(↑k0:Int)))then(decide ((↑k0:Int)<(wr .i64 ((wr .i64 ((↑a0.words.length:Int)+(↑a0.Mj.length:Int)))+(↑a0.parts.length:Int)))))else false))then(bif (!(bif (bif (bif (decide (((get a1 k0).form.kind)=0))then(decide (((get a1 k0).form.name)=[]))else false)then(decide ((↑(((get a1 k0).form.words).length):Int)=0))else false)then(decide ((↑(((get a1 k0).form.subs).length):Int)=0))else false))then true else(!v15))else false)
def Pr(n:Nat)(a0:Mb)(a1:(List Ma))(t0:Unit):Option (LZ×Mi):=
 (Mq n a0.form 1 [] a0.form.kind a0.form.name a0.form.words a0.form.subs a0.words a0.Mj a0.parts a1 (wr .i64 ((↑a0.words.length:Int)+(↑a0.Mj.length:Int))) 0).bind fun v19=>
 bif (!v19.2.1)then
  (Mn 1 0).bind fun v20=>
  some ((LZ.mk 0 [] [] []),v20)
 else
  (Pw n v19.1).bind fun v21=>
  some (v21,(Mi.mk 0 0))
def Ov(n:Nat)(a0:Mb)(a1:(List Ma)):Option (LZ×Mi):=
 (NP n a0).bind fun v1=>
 bif (!decide (v1.code=0))then
  some ((LZ.mk 0 [] [] []),v1)
 else
  (Ni a0).bind fun v2=>
  (Mp n a0.form).bind fun v3=>
  (Ux [v2,v3]).bind fun v5=>
  bif (!decide ((↑a1.length:Int)=(↑v5.length:Int)))then
   (Mn 9 (-2)).bind fun v6=>
   some ((LZ.mk 0 [] [] []),v6)
  else
   Mw (MY (Pq n v5 a1 a0) a1.length ()) (Pr n a0 a1)
def MH(n:Nat)(a0:Mb)(a1:LZ):Option (Bool):=
 (MK n).bind fun v1=>
 bif (!v1)then
  some false
 else
  (Qa n a0 a1).bind fun v2=>
  bif (bif (!decide (v2.2.2.code=0))then true else(!v2.2.1))then
   some true
  else
   (Ov n a0 v2.1).bind fun v3=>
   (PV n a1).bind fun v4=>
   (gd (bif (decide (v3.2.code=0))then(decide (v4.2.code=0))else false) (Mt n v3.1 v4.1) default).bind fun v5=>
   some (bif (bif (decide (v3.2.code=0))then(decide (v4.2.code=0))else false)then v5 else false)
end Go.Proofs.YtdjnbjnlnjhllaaDoor
