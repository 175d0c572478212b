import Derived.KernelRfl
import Derived.Test.YtbgkcolebacbmaaGreatDoorDRead
import Derived.Test.YtbgkcolebacbmaaGreatDoorDLaw2
set_option linter.unusedVariables false
set_option linter.unusedSimpArgs false
namespace Go.Proofs.YtbgkcolebacbmaaGreatDoor
open Go Go.Am
theorem GS:Tryz.prog.cellsOf 32=5:=by kernel_rfl
theorem wv:Tryz.prog.cellsOf 25=2:=by kernel_rfl
theorem GU:Tryz.prog.cellsOf 22=1:=by kernel_rfl
theorem xY:Tryz.prog.cellsOf 140=2:=by kernel_rfl
theorem qc:Tryz.prog.cellsOf 9=1:=by kernel_rfl
theorem GV:Tryz.prog.cellsOf 92=1:=by kernel_rfl
theorem dA:Tryz.prog.cellsOf 3=1:=by kernel_rfl
theorem Lw{H:Type}(enc:TypeId×Value→H)(w:World):∀n,Opens enc Tryz.prog w 140 w6.cells (fun _=>True) n:=by
 intro n
 induction n with
 |zero=>exact Opens.zero
 |succ n ih=>
  intro m hm cs x h hb
  have hl:=Y8 Tryz.underlying140 h
  rw[xY]at hl
  obtain⟨v0,r0,x0⟩:=C8 (n:=n) (e:=9) (o:=0) (z:=1) Tryz.underlying140 h hm hb 0 _ rfl ⟨rfl,rfl⟩ qc (mZ Tryz.underlying9)
  obtain⟨v1,r1,x1⟩:=C8 (n:=n) (e:=92) (o:=1) (z:=1) Tryz.underlying140 h hm hb 1 _ rfl ⟨rfl,rfl⟩ GV ((S5 (b:=8) Tryz.underlying92 dA (by decide) (by decide) (by decide) (fun v=>by first|rfl|(cases v;rfl)) (aV Tryz.underlying3)).le (Nat.le_succ _))
  have key:Rd w (cs.drop 0) _:=(K0 r0 (by first|rfl|(cases v0;rfl)) (K0 r1 (by first|rfl|(cases v1;rfl)) (mj hl)))
  refine⟨w6.mk v0 v1,?_,?_⟩
  ·rw[List.drop_zero]at key
   first|exact key|(rw[w6.D7];exact key)
  ·trivial
theorem GW:Tryz.prog.cellsOf 23=1:=by kernel_rfl
theorem AP:Tryz.prog.cellsOf 94=3:=by kernel_rfl
theorem Oi{H:Type}(enc:TypeId×Value→H)(w:World):∀n,Opens enc Tryz.prog w 94 y3.cells (fun _=>True) n:=by
 intro n
 induction n with
 |zero=>exact Opens.zero
 |succ n ih=>
  intro m hm cs x h hb
  have hl:=Y8 Tryz.underlying94 h
  rw[AP]at hl
  obtain⟨v0,r0,x0⟩:=C8 (n:=n) (e:=9) (o:=0) (z:=1) Tryz.underlying94 h hm hb 0 _ rfl ⟨rfl,rfl⟩ qc (mZ Tryz.underlying9)
  obtain⟨v1,r1,x1⟩:=C8 (n:=n) (e:=3) (o:=1) (z:=1) Tryz.underlying94 h hm hb 1 _ rfl ⟨rfl,rfl⟩ dA (aV Tryz.underlying3)
  obtain⟨v2,r2,x2⟩:=C8 (n:=n) (e:=3) (o:=2) (z:=1) Tryz.underlying94 h hm hb 2 _ rfl ⟨rfl,rfl⟩ dA (aV Tryz.underlying3)
  have key:Rd w (cs.drop 0) _:=(K0 r0 (by first|rfl|(cases v0;rfl)) (K0 r1 (by first|rfl|(cases v1;rfl)) (K0 r2 (by first|rfl|(cases v2;rfl)) (mj hl))))
  refine⟨y3.mk v0 v1 v2,?_,?_⟩
  ·rw[List.drop_zero]at key
   first|exact key|(rw[y3.D7];exact key)
  ·trivial
theorem JN{H:Type}(enc:TypeId×Value→H)(w:World):∀n,Opens enc Tryz.prog w 25 w5.cells (Ja) n:=by
 intro n
 induction n with
 |zero=>exact Opens.zero
 |succ n ih=>
  intro m hm cs x h hb
  have hl:=Y8 Tryz.underlying25 h
  rw[wv]at hl
  obtain⟨v0,r0,x0⟩:=C8 (n:=n) (e:=22) (o:=0) (z:=1) Tryz.underlying25 h hm hb 0 _ rfl ⟨rfl,rfl⟩ GU ((S5 (b:=40) Tryz.underlying22 xY (by decide) (by decide) (by decide) (fun v=>by first|rfl|(cases v;rfl)) (Lw enc w n)).le (Nat.le_succ _))
  obtain⟨v1,r1,x1⟩:=C8 (n:=n) (e:=23) (o:=1) (z:=1) Tryz.underlying25 h hm hb 1 _ rfl ⟨rfl,rfl⟩ GW ((S5 (b:=32) Tryz.underlying23 AP (by decide) (by decide) (by decide) (fun v=>by first|rfl|(cases v;rfl)) (Oi enc w n)).le (Nat.le_succ _))
  have key:Rd w (cs.drop 0) _:=(K0 r0 (by first|rfl|(cases v0;rfl)) (K0 r1 (by first|rfl|(cases v1;rfl)) (mj hl)))
  refine⟨w5.mk v0 v1,?_,?_⟩
  ·rw[List.drop_zero]at key
   first|exact key|(rw[w5.D7];exact key)
  ·exact⟨x0.1⟩
theorem AU:Tryz.prog.cellsOf 26=1:=by kernel_rfl
theorem wz:Tryz.prog.cellsOf 72=10:=by kernel_rfl
theorem pB:Tryz.prog.cellsOf 30=1:=by kernel_rfl
theorem GX:Tryz.prog.cellsOf 28=1:=by kernel_rfl
theorem xZ:Tryz.prog.cellsOf 130=2:=by kernel_rfl
theorem Ew:Tryz.prog.cellsOf 128=1:=by kernel_rfl
theorem yc:Tryz.prog.cellsOf 132=2:=by kernel_rfl
theorem Lx{H:Type}(enc:TypeId×Value→H)(w:World):∀n,Opens enc Tryz.prog w 132 D4.cells (fun _=>True) n:=by
 intro n
 induction n with
 |zero=>exact Opens.zero
 |succ n ih=>
  intro m hm cs x h hb
  have hl:=Y8 Tryz.underlying132 h
  rw[yc]at hl
  obtain⟨v0,r0,x0⟩:=C8 (n:=n) (e:=3) (o:=0) (z:=1) Tryz.underlying132 h hm hb 0 _ rfl ⟨rfl,rfl⟩ dA (aV Tryz.underlying3)
  obtain⟨v1,r1,x1⟩:=C8 (n:=n) (e:=3) (o:=1) (z:=1) Tryz.underlying132 h hm hb 1 _ rfl ⟨rfl,rfl⟩ dA (aV Tryz.underlying3)
  have key:Rd w (cs.drop 0) _:=(K0 r0 (by first|rfl|(cases v0;rfl)) (K0 r1 (by first|rfl|(cases v1;rfl)) (mj hl)))
  refine⟨D4.mk v0 v1,?_,?_⟩
  ·rw[List.drop_zero]at key
   first|exact key|(rw[D4.D7];exact key)
  ·trivial
theorem Ly{H:Type}(enc:TypeId×Value→H)(w:World):∀n,Opens enc Tryz.prog w 130 w8.cells (fun v=>v.links.length≤1048576) n:=by
 intro n
 induction n with
 |zero=>exact Opens.zero
 |succ n ih=>
  intro m hm cs x h hb
  have hl:=Y8 Tryz.underlying130 h
  rw[xZ]at hl
  obtain⟨v0,r0,x0⟩:=C8 (n:=n) (e:=3) (o:=0) (z:=1) Tryz.underlying130 h hm hb 0 _ rfl ⟨rfl,rfl⟩ dA (aV Tryz.underlying3)
  obtain⟨v1,r1,x1⟩:=C8 (n:=n) (e:=128) (o:=1) (z:=1) Tryz.underlying130 h hm hb 1 _ rfl ⟨rfl,rfl⟩ Ew ((S5 (b:=16) Tryz.underlying128 yc (by decide) (by decide) (by decide) (fun v=>by first|rfl|(cases v;rfl)) (Lx enc w n)).le (Nat.le_succ _))
  have key:Rd w (cs.drop 0) _:=(K0 r0 (by first|rfl|(cases v0;rfl)) (K0 r1 (by first|rfl|(cases v1;rfl)) (mj hl)))
  refine⟨w8.mk v0 v1,?_,?_⟩
  ·rw[List.drop_zero]at key
   first|exact key|(rw[w8.D7];exact key)
  ·exact x1.1
theorem Dy{H:Type}(enc:TypeId×Value→H)(w:World):∀n,Opens enc Tryz.prog w 30 y4.cells (wh) n:=by
 intro n
 induction n with
 |zero=>exact Opens.zero
 |succ n ih=>
  intro m hm cs x h hb
  have hl:=Y8 Tryz.underlying30 h
  rw[pB]at hl
  obtain⟨v0,r0,x0⟩:=C8 (n:=n) (e:=28) (o:=0) (z:=1) Tryz.underlying30 h hm hb 0 _ rfl ⟨rfl,rfl⟩ GX ((S5 (b:=32) Tryz.underlying28 xZ (by decide) (by decide) (by decide) (fun v=>by first|rfl|(cases v;rfl)) (Ly enc w n)).le (Nat.le_succ _))
  have key:Rd w (cs.drop 0) _:=(K0 r0 (by first|rfl|(cases v0;rfl)) (mj hl))
  refine⟨y4.mk v0,?_,?_⟩
  ·rw[List.drop_zero]at key
   first|exact key|(rw[y4.D7];exact key)
  ·exact⟨x0.1,x0.2⟩
theorem rX:Tryz.prog.cellsOf 70=6:=by kernel_rfl
theorem wA:Tryz.prog.cellsOf 67=2:=by kernel_rfl
theorem GY:Tryz.prog.cellsOf 65=1:=by kernel_rfl
theorem Oj{H:Type}(enc:TypeId×Value→H)(w:World):∀n,Opens enc Tryz.prog w 67 u0.cells (tq) n:=by
 intro n
 induction n with
 |zero=>exact Opens.zero
 |succ n ih=>
  intro m hm cs x h hb
  have hl:=Y8 Tryz.underlying67 h
  rw[wA]at hl
  obtain⟨v0,r0,x0⟩:=C8 (n:=n) (e:=9) (o:=0) (z:=1) Tryz.underlying67 h hm hb 0 _ rfl ⟨rfl,rfl⟩ qc (mZ Tryz.underlying9)
  obtain⟨v1,r1,x1⟩:=C8 (n:=n) (e:=65) (o:=1) (z:=1) Tryz.underlying67 h hm hb 1 _ rfl ⟨rfl,rfl⟩ GY ((S5 (b:=40) Tryz.underlying65 wA (by decide) (by decide) (by decide) (fun v=>by first|rfl|(cases v;rfl)) ih).le (Nat.le_succ _))
  have key:Rd w (cs.drop 0) _:=(K0 r0 (by first|rfl|(cases v0;rfl)) (K0 r1 (by first|rfl|(cases v1;rfl)) (mj hl)))
  refine⟨u0.mk v0 v1,?_,?_⟩
  ·rw[List.drop_zero]at key
   first|exact key|(rw[u0.D7];exact key)
  ·exact .mk _ x1.1 (fun k hk=>x1.2 _ (get_mem hk))
theorem GZ:Tryz.prog.cellsOf 68=1:=by kernel_rfl
theorem JO{H:Type}(enc:TypeId×Value→H)(w:World):∀n,Opens enc Tryz.prog w 70 w7.cells (Co) n:=by
 intro n
 induction n with
 |zero=>exact Opens.zero
 |succ n ih=>
  intro m hm cs x h hb
  have hl:=Y8 Tryz.underlying70 h
  rw[rX]at hl
  obtain⟨v0,r0,x0⟩:=C8 (n:=n) (e:=3) (o:=0) (z:=1) Tryz.underlying70 h hm hb 0 _ rfl ⟨rfl,rfl⟩ dA (aV Tryz.underlying3)
  obtain⟨v1,r1,x1⟩:=C8 (n:=n) (e:=9) (o:=1) (z:=1) Tryz.underlying70 h hm hb 1 _ rfl ⟨rfl,rfl⟩ qc (mZ Tryz.underlying9)
  obtain⟨v2,r2,x2⟩:=C8 (n:=n) (e:=3) (o:=2) (z:=1) Tryz.underlying70 h hm hb 2 _ rfl ⟨rfl,rfl⟩ dA (aV Tryz.underlying3)
  obtain⟨v3,r3,x3⟩:=C8 (n:=n) (e:=67) (o:=3) (z:=2) Tryz.underlying70 h hm hb 3 _ rfl ⟨rfl,rfl⟩ wA (Oj enc w n)
  obtain⟨v4,r4,x4⟩:=C8 (n:=n) (e:=68) (o:=5) (z:=1) Tryz.underlying70 h hm hb 4 _ rfl ⟨rfl,rfl⟩ GZ ((S5 (b:=96) Tryz.underlying68 rX (by decide) (by decide) (by decide) (fun v=>by first|rfl|(cases v;rfl)) ih).le (Nat.le_succ _))
  have key:Rd w (cs.drop 0) _:=(K0 r0 (by first|rfl|(cases v0;rfl)) (K0 r1 (by first|rfl|(cases v1;rfl)) (K0 r2 (by first|rfl|(cases v2;rfl)) (K0 r3 (by first|rfl|(cases v3;rfl)) (K0 r4 (by first|rfl|(cases v4;rfl)) (mj hl))))))
  refine⟨w7.mk v0 v1 v2 v3 v4,?_,?_⟩
  ·rw[List.drop_zero]at key
   first|exact key|(rw[w7.D7];exact key)|(simp only[u0.D7]at key;exact key)|(rw[w7.D7];simp only[u0.D7]at key;exact key)
  ·exact .mk _ x3 x4.1 (fun k hk=>x4.2 _ (get_mem hk))
theorem JQ{H:Type}(enc:TypeId×Value→H)(w:World):∀n,Opens enc Tryz.prog w 72 w4.cells (Cp) n:=by
 intro n
 induction n with
 |zero=>exact Opens.zero
 |succ n ih=>
  intro m hm cs x h hb
  have hl:=Y8 Tryz.underlying72 h
  rw[wz]at hl
  obtain⟨v0,r0,x0⟩:=C8 (n:=n) (e:=9) (o:=0) (z:=1) Tryz.underlying72 h hm hb 0 _ rfl ⟨rfl,rfl⟩ qc (mZ Tryz.underlying9)
  obtain⟨v1,r1,x1⟩:=C8 (n:=n) (e:=30) (o:=1) (z:=1) Tryz.underlying72 h hm hb 1 _ rfl ⟨rfl,rfl⟩ pB (Dy enc w n)
  obtain⟨v2,r2,x2⟩:=C8 (n:=n) (e:=3) (o:=2) (z:=1) Tryz.underlying72 h hm hb 2 _ rfl ⟨rfl,rfl⟩ dA (aV Tryz.underlying3)
  obtain⟨v3,r3,x3⟩:=C8 (n:=n) (e:=3) (o:=3) (z:=1) Tryz.underlying72 h hm hb 3 _ rfl ⟨rfl,rfl⟩ dA (aV Tryz.underlying3)
  obtain⟨v4,r4,x4⟩:=C8 (n:=n) (e:=70) (o:=4) (z:=6) Tryz.underlying72 h hm hb 4 _ rfl ⟨rfl,rfl⟩ rX (JO enc w n)
  have key:Rd w (cs.drop 0) _:=(K0 r0 (by first|rfl|(cases v0;rfl)) (K0 r1 (by first|rfl|(cases v1;rfl)) (K0 r2 (by first|rfl|(cases v2;rfl)) (K0 r3 (by first|rfl|(cases v3;rfl)) (K0 r4 (by first|rfl|(cases v4;rfl)) (mj hl))))))
  refine⟨w4.mk v0 v1 v2 v3 v4,?_,?_⟩
  ·rw[List.drop_zero]at key
   first|exact key|(rw[w4.D7];exact key)|(simp only[y4.D7,w7.D7]at key;exact key)|(rw[w4.D7];simp only[y4.D7,w7.D7]at key;exact key)
  ·exact⟨x1,x4⟩
theorem AV:Tryz.prog.cellsOf 27=1:=by kernel_rfl
theorem wB:Tryz.prog.cellsOf 76=9:=by kernel_rfl
theorem JR{H:Type}(enc:TypeId×Value→H)(w:World):∀n,Opens enc Tryz.prog w 76 x7.cells (Lq) n:=by
 intro n
 induction n with
 |zero=>exact Opens.zero
 |succ n ih=>
  intro m hm cs x h hb
  have hl:=Y8 Tryz.underlying76 h
  rw[wB]at hl
  obtain⟨v0,r0,x0⟩:=C8 (n:=n) (e:=9) (o:=0) (z:=1) Tryz.underlying76 h hm hb 0 _ rfl ⟨rfl,rfl⟩ qc (mZ Tryz.underlying9)
  obtain⟨v1,r1,x1⟩:=C8 (n:=n) (e:=30) (o:=1) (z:=1) Tryz.underlying76 h hm hb 1 _ rfl ⟨rfl,rfl⟩ pB (Dy enc w n)
  obtain⟨v2,r2,x2⟩:=C8 (n:=n) (e:=3) (o:=2) (z:=1) Tryz.underlying76 h hm hb 2 _ rfl ⟨rfl,rfl⟩ dA (aV Tryz.underlying3)
  obtain⟨v3,r3,x3⟩:=C8 (n:=n) (e:=70) (o:=3) (z:=6) Tryz.underlying76 h hm hb 3 _ rfl ⟨rfl,rfl⟩ rX (JO enc w n)
  have key:Rd w (cs.drop 0) _:=(K0 r0 (by first|rfl|(cases v0;rfl)) (K0 r1 (by first|rfl|(cases v1;rfl)) (K0 r2 (by first|rfl|(cases v2;rfl)) (K0 r3 (by first|rfl|(cases v3;rfl)) (mj hl)))))
  refine⟨x7.mk v0 v1 v2 v3,?_,?_⟩
  ·rw[List.drop_zero]at key
   first|exact key|(rw[x7.D7];exact key)|(simp only[y4.D7,w7.D7]at key;exact key)|(rw[x7.D7];simp only[y4.D7,w7.D7]at key;exact key)
  ·exact⟨x0,x1,x3⟩
theorem NH{H:Type}(enc:TypeId×Value→H)(w:World):∀n,Opens enc Tryz.prog w 32 x6.cells (wj) n:=by
 intro n
 induction n with
 |zero=>exact Opens.zero
 |succ n ih=>
  intro m hm cs x h hb
  have hl:=Y8 Tryz.underlying32 h
  rw[GS]at hl
  obtain⟨v0,r0,x0⟩:=C8 (n:=n) (e:=25) (o:=0) (z:=2) Tryz.underlying32 h hm hb 0 _ rfl ⟨rfl,rfl⟩ wv (JN enc w n)
  obtain⟨v1,r1,x1⟩:=C8 (n:=n) (e:=26) (o:=2) (z:=1) Tryz.underlying32 h hm hb 1 _ rfl ⟨rfl,rfl⟩ AU ((S5 (b:=152) Tryz.underlying26 wz (by decide) (by decide) (by decide) (fun v=>by first|rfl|(cases v;rfl)) (JQ enc w n)).le (Nat.le_succ _))
  obtain⟨v2,r2,x2⟩:=C8 (n:=n) (e:=27) (o:=3) (z:=1) Tryz.underlying32 h hm hb 2 _ rfl ⟨rfl,rfl⟩ AV ((S5 (b:=144) Tryz.underlying27 wB (by decide) (by decide) (by decide) (fun v=>by first|rfl|(cases v;rfl)) (JR enc w n)).le (Nat.le_succ _))
  obtain⟨v3,r3,x3⟩:=C8 (n:=n) (e:=30) (o:=4) (z:=1) Tryz.underlying32 h hm hb 3 _ rfl ⟨rfl,rfl⟩ pB (Dy enc w n)
  have key:Rd w (cs.drop 0) _:=(K0 r0 (by first|rfl|(cases v0;rfl)) (K0 r1 (by first|rfl|(cases v1;rfl)) (K0 r2 (by first|rfl|(cases v2;rfl)) (K0 r3 (by first|rfl|(cases v3;rfl)) (mj hl)))))
  refine⟨x6.mk v0 v1 v2 v3,?_,?_⟩
  ·rw[List.drop_zero]at key
   first|exact key|(rw[x6.D7];exact key)|(simp only[w5.D7,y4.D7]at key;exact key)|(rw[x6.D7];simp only[w5.D7,y4.D7]at key;exact key)
  ·exact⟨x0,x1.1,x2.1,x1.2,x2.2,x3⟩
theorem He:Tryz.prog.cellsOf 38=4:=by kernel_rfl
theorem Hf:Tryz.prog.cellsOf 33=1:=by kernel_rfl
theorem Hg:Tryz.prog.cellsOf 34=1:=by kernel_rfl
theorem Hi:Tryz.prog.cellsOf 35=1:=by kernel_rfl
theorem AW:Tryz.prog.cellsOf 46=3:=by kernel_rfl
theorem Ol{H:Type}(enc:TypeId×Value→H)(w:World):∀n,Opens enc Tryz.prog w 46 y7.cells (fun v=>∀r∈v.put,Cp r) n:=by
 intro n
 induction n with
 |zero=>exact Opens.zero
 |succ n ih=>
  intro m hm cs x h hb
  have hl:=Y8 Tryz.underlying46 h
  rw[AW]at hl
  obtain⟨v0,r0,x0⟩:=C8 (n:=n) (e:=3) (o:=0) (z:=1) Tryz.underlying46 h hm hb 0 _ rfl ⟨rfl,rfl⟩ dA (aV Tryz.underlying3)
  obtain⟨v1,r1,x1⟩:=C8 (n:=n) (e:=3) (o:=1) (z:=1) Tryz.underlying46 h hm hb 1 _ rfl ⟨rfl,rfl⟩ dA (aV Tryz.underlying3)
  obtain⟨v2,r2,x2⟩:=C8 (n:=n) (e:=26) (o:=2) (z:=1) Tryz.underlying46 h hm hb 2 _ rfl ⟨rfl,rfl⟩ AU ((S5 (b:=152) Tryz.underlying26 wz (by decide) (by decide) (by decide) (fun v=>by first|rfl|(cases v;rfl)) (JQ enc w n)).le (Nat.le_succ _))
  have key:Rd w (cs.drop 0) _:=(K0 r0 (by first|rfl|(cases v0;rfl)) (K0 r1 (by first|rfl|(cases v1;rfl)) (K0 r2 (by first|rfl|(cases v2;rfl)) (mj hl))))
  refine⟨y7.mk v0 v1 v2,?_,?_⟩
  ·rw[List.drop_zero]at key
   first|exact key|(rw[y7.D7];exact key)
  ·exact x2.2
theorem Hj:Tryz.prog.cellsOf 36=1:=by kernel_rfl
theorem AX:Tryz.prog.cellsOf 48=3:=by kernel_rfl
theorem Om{H:Type}(enc:TypeId×Value→H)(w:World):∀n,Opens enc Tryz.prog w 48 A9.cells (fun v=>∀r∈v.put,Lq r) n:=by
 intro n
 induction n with
 |zero=>exact Opens.zero
 |succ n ih=>
  intro m hm cs x h hb
  have hl:=Y8 Tryz.underlying48 h
  rw[AX]at hl
  obtain⟨v0,r0,x0⟩:=C8 (n:=n) (e:=3) (o:=0) (z:=1) Tryz.underlying48 h hm hb 0 _ rfl ⟨rfl,rfl⟩ dA (aV Tryz.underlying3)
  obtain⟨v1,r1,x1⟩:=C8 (n:=n) (e:=3) (o:=1) (z:=1) Tryz.underlying48 h hm hb 1 _ rfl ⟨rfl,rfl⟩ dA (aV Tryz.underlying3)
  obtain⟨v2,r2,x2⟩:=C8 (n:=n) (e:=27) (o:=2) (z:=1) Tryz.underlying48 h hm hb 2 _ rfl ⟨rfl,rfl⟩ AV ((S5 (b:=144) Tryz.underlying27 wB (by decide) (by decide) (by decide) (fun v=>by first|rfl|(cases v;rfl)) (JR enc w n)).le (Nat.le_succ _))
  have key:Rd w (cs.drop 0) _:=(K0 r0 (by first|rfl|(cases v0;rfl)) (K0 r1 (by first|rfl|(cases v1;rfl)) (K0 r2 (by first|rfl|(cases v2;rfl)) (mj hl))))
  refine⟨A9.mk v0 v1 v2,?_,?_⟩
  ·rw[List.drop_zero]at key
   first|exact key|(rw[A9.D7];exact key)
  ·exact x2.2
theorem NI{H:Type}(enc:TypeId×Value→H)(w:World):∀n,Opens enc Tryz.prog w 38 y8.cells (uD) n:=by
 intro n
 induction n with
 |zero=>exact Opens.zero
 |succ n ih=>
  intro m hm cs x h hb
  have hl:=Y8 Tryz.underlying38 h
  rw[He]at hl
  obtain⟨v0,r0,x0⟩:=C8 (n:=n) (e:=33) (o:=0) (z:=1) Tryz.underlying38 h hm hb 0 _ rfl ⟨rfl,rfl⟩ Hf ((S5 (b:=48) Tryz.underlying33 wv (by decide) (by decide) (by decide) (fun v=>by first|rfl|(cases v;rfl)) (JN enc w n)).le (Nat.le_succ _))
  obtain⟨v1,r1,x1⟩:=C8 (n:=n) (e:=34) (o:=1) (z:=1) Tryz.underlying38 h hm hb 1 _ rfl ⟨rfl,rfl⟩ Hg ((S5 (b:=24) Tryz.underlying34 pB (by decide) (by decide) (by decide) (fun v=>by first|rfl|(cases v;rfl)) (Dy enc w n)).le (Nat.le_succ _))
  obtain⟨v2,r2,x2⟩:=C8 (n:=n) (e:=35) (o:=2) (z:=1) Tryz.underlying38 h hm hb 2 _ rfl ⟨rfl,rfl⟩ Hi ((S5 (b:=40) Tryz.underlying35 AW (by decide) (by decide) (by decide) (fun v=>by first|rfl|(cases v;rfl)) (Ol enc w n)).le (Nat.le_succ _))
  obtain⟨v3,r3,x3⟩:=C8 (n:=n) (e:=36) (o:=3) (z:=1) Tryz.underlying38 h hm hb 3 _ rfl ⟨rfl,rfl⟩ Hj ((S5 (b:=40) Tryz.underlying36 AX (by decide) (by decide) (by decide) (fun v=>by first|rfl|(cases v;rfl)) (Om enc w n)).le (Nat.le_succ _))
  have key:Rd w (cs.drop 0) _:=(K0 r0 (by first|rfl|(cases v0;rfl)) (K0 r1 (by first|rfl|(cases v1;rfl)) (K0 r2 (by first|rfl|(cases v2;rfl)) (K0 r3 (by first|rfl|(cases v3;rfl)) (mj hl)))))
  refine⟨y8.mk v0 v1 v2 v3,?_,?_⟩
  ·rw[List.drop_zero]at key
   first|exact key|(rw[y8.D7];exact key)
  ·exact⟨x0.2,x1.2,x2.2,x3.2⟩
end Go.Proofs.YtbgkcolebacbmaaGreatDoor
