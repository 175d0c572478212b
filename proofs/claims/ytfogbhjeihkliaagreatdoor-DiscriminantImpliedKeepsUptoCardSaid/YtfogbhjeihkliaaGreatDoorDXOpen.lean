import Derived.KernelRfl
import Derived.Test.YtfogbhjeihkliaaGreatDoorDXRead
import Derived.Test.YtfogbhjeihkliaaGreatDoorDXLaw2
set_option linter.unusedVariables false
set_option linter.unusedSimpArgs false
namespace Go.Proofs.YtfogbhjeihkliaaGreatDoor
open Go Go.Am
theorem Km:Tryz.prog.cellsOf 32=5:=by kernel_rfl
theorem Dt:Tryz.prog.cellsOf 25=2:=by kernel_rfl
theorem Kn:Tryz.prog.cellsOf 22=1:=by kernel_rfl
theorem AA:Tryz.prog.cellsOf 124=2:=by kernel_rfl
theorem su:Tryz.prog.cellsOf 9=1:=by kernel_rfl
theorem Ko:Tryz.prog.cellsOf 46=1:=by kernel_rfl
theorem dS:Tryz.prog.cellsOf 3=1:=by kernel_rfl
theorem OL{H:Type}(enc:TypeId×Value→H)(w:World):∀n,Opens enc Tryz.prog w 124 x7.cells (fun _=>True) n:=by
 intro n
 induction n with
 |zero=>exact Opens.zero
 |succ n ih=>
  intro m hm cs x h hb
  have hl:=bX Tryz.underlying124 h
  rw[AA]at hl
  obtain⟨v0,r0,x0⟩:=C7 (n:=n) (e:=9) (o:=0) (z:=1) Tryz.underlying124 h hm hb 0 _ rfl ⟨rfl,rfl⟩ su (pW Tryz.underlying9)
  obtain⟨v1,r1,x1⟩:=C7 (n:=n) (e:=46) (o:=1) (z:=1) Tryz.underlying124 h hm hb 1 _ rfl ⟨rfl,rfl⟩ Ko ((P5 (b:=8) Tryz.underlying46 dS (by decide) (by decide) (by decide) (fun v=>by first|rfl|(cases v;rfl)) (aY Tryz.underlying3)).le (Nat.le_succ _))
  have key:Rd w (cs.drop 0) _:=(M4 r0 (by first|rfl|(cases v0;rfl)) (M4 r1 (by first|rfl|(cases v1;rfl)) (oQ hl)))
  refine⟨x7.mk v0 v1,?_,?_⟩
  ·rw[List.drop_zero]at key
   first|exact key|(rw[x7.D8];exact key)
  ·trivial
theorem Kp:Tryz.prog.cellsOf 23=1:=by kernel_rfl
theorem Du:Tryz.prog.cellsOf 88=3:=by kernel_rfl
theorem RF{H:Type}(enc:TypeId×Value→H)(w:World):∀n,Opens enc Tryz.prog w 88 y8.cells (fun _=>True) n:=by
 intro n
 induction n with
 |zero=>exact Opens.zero
 |succ n ih=>
  intro m hm cs x h hb
  have hl:=bX Tryz.underlying88 h
  rw[Du]at hl
  obtain⟨v0,r0,x0⟩:=C7 (n:=n) (e:=9) (o:=0) (z:=1) Tryz.underlying88 h hm hb 0 _ rfl ⟨rfl,rfl⟩ su (pW Tryz.underlying9)
  obtain⟨v1,r1,x1⟩:=C7 (n:=n) (e:=3) (o:=1) (z:=1) Tryz.underlying88 h hm hb 1 _ rfl ⟨rfl,rfl⟩ dS (aY Tryz.underlying3)
  obtain⟨v2,r2,x2⟩:=C7 (n:=n) (e:=3) (o:=2) (z:=1) Tryz.underlying88 h hm hb 2 _ rfl ⟨rfl,rfl⟩ dS (aY Tryz.underlying3)
  have key:Rd w (cs.drop 0) _:=(M4 r0 (by first|rfl|(cases v0;rfl)) (M4 r1 (by first|rfl|(cases v1;rfl)) (M4 r2 (by first|rfl|(cases v2;rfl)) (oQ hl))))
  refine⟨y8.mk v0 v1 v2,?_,?_⟩
  ·rw[List.drop_zero]at key
   first|exact key|(rw[y8.D8];exact key)
  ·trivial
theorem RG{H:Type}(enc:TypeId×Value→H)(w:World):∀n,Opens enc Tryz.prog w 25 y6.cells (Rw) n:=by
 intro n
 induction n with
 |zero=>exact Opens.zero
 |succ n ih=>
  intro m hm cs x h hb
  have hl:=bX Tryz.underlying25 h
  rw[Dt]at hl
  obtain⟨v0,r0,x0⟩:=C7 (n:=n) (e:=22) (o:=0) (z:=1) Tryz.underlying25 h hm hb 0 _ rfl ⟨rfl,rfl⟩ Kn ((P5 (b:=40) Tryz.underlying22 AA (by decide) (by decide) (by decide) (fun v=>by first|rfl|(cases v;rfl)) (OL enc w n)).le (Nat.le_succ _))
  obtain⟨v1,r1,x1⟩:=C7 (n:=n) (e:=23) (o:=1) (z:=1) Tryz.underlying25 h hm hb 1 _ rfl ⟨rfl,rfl⟩ Kp ((P5 (b:=32) Tryz.underlying23 Du (by decide) (by decide) (by decide) (fun v=>by first|rfl|(cases v;rfl)) (RF enc w n)).le (Nat.le_succ _))
  have key:Rd w (cs.drop 0) _:=(M4 r0 (by first|rfl|(cases v0;rfl)) (M4 r1 (by first|rfl|(cases v1;rfl)) (oQ hl)))
  refine⟨y6.mk v0 v1,?_,?_⟩
  ·rw[List.drop_zero]at key
   first|exact key|(rw[y6.D8];exact key)
  ·exact⟨x0.1⟩
theorem Kq:Tryz.prog.cellsOf 26=1:=by kernel_rfl
theorem Dv:Tryz.prog.cellsOf 95=10:=by kernel_rfl
theorem uG:Tryz.prog.cellsOf 30=1:=by kernel_rfl
theorem Kr:Tryz.prog.cellsOf 28=1:=by kernel_rfl
theorem AB:Tryz.prog.cellsOf 127=2:=by kernel_rfl
theorem Hs:Tryz.prog.cellsOf 125=1:=by kernel_rfl
theorem AE:Tryz.prog.cellsOf 129=2:=by kernel_rfl
theorem OM{H:Type}(enc:TypeId×Value→H)(w:World):∀n,Opens enc Tryz.prog w 129 G5.cells (fun _=>True) n:=by
 intro n
 induction n with
 |zero=>exact Opens.zero
 |succ n ih=>
  intro m hm cs x h hb
  have hl:=bX Tryz.underlying129 h
  rw[AE]at hl
  obtain⟨v0,r0,x0⟩:=C7 (n:=n) (e:=3) (o:=0) (z:=1) Tryz.underlying129 h hm hb 0 _ rfl ⟨rfl,rfl⟩ dS (aY Tryz.underlying3)
  obtain⟨v1,r1,x1⟩:=C7 (n:=n) (e:=3) (o:=1) (z:=1) Tryz.underlying129 h hm hb 1 _ rfl ⟨rfl,rfl⟩ dS (aY Tryz.underlying3)
  have key:Rd w (cs.drop 0) _:=(M4 r0 (by first|rfl|(cases v0;rfl)) (M4 r1 (by first|rfl|(cases v1;rfl)) (oQ hl)))
  refine⟨G5.mk v0 v1,?_,?_⟩
  ·rw[List.drop_zero]at key
   first|exact key|(rw[G5.D8];exact key)
  ·trivial
theorem OO{H:Type}(enc:TypeId×Value→H)(w:World):∀n,Opens enc Tryz.prog w 127 y4.cells (fun v=>v.links.length≤1048576) n:=by
 intro n
 induction n with
 |zero=>exact Opens.zero
 |succ n ih=>
  intro m hm cs x h hb
  have hl:=bX Tryz.underlying127 h
  rw[AB]at hl
  obtain⟨v0,r0,x0⟩:=C7 (n:=n) (e:=3) (o:=0) (z:=1) Tryz.underlying127 h hm hb 0 _ rfl ⟨rfl,rfl⟩ dS (aY Tryz.underlying3)
  obtain⟨v1,r1,x1⟩:=C7 (n:=n) (e:=125) (o:=1) (z:=1) Tryz.underlying127 h hm hb 1 _ rfl ⟨rfl,rfl⟩ Hs ((P5 (b:=16) Tryz.underlying125 AE (by decide) (by decide) (by decide) (fun v=>by first|rfl|(cases v;rfl)) (OM enc w n)).le (Nat.le_succ _))
  have key:Rd w (cs.drop 0) _:=(M4 r0 (by first|rfl|(cases v0;rfl)) (M4 r1 (by first|rfl|(cases v1;rfl)) (oQ hl)))
  refine⟨y4.mk v0 v1,?_,?_⟩
  ·rw[List.drop_zero]at key
   first|exact key|(rw[y4.D8];exact key)
  ·exact x1.1
theorem Ks{H:Type}(enc:TypeId×Value→H)(w:World):∀n,Opens enc Tryz.prog w 30 B3.cells (Dg) n:=by
 intro n
 induction n with
 |zero=>exact Opens.zero
 |succ n ih=>
  intro m hm cs x h hb
  have hl:=bX Tryz.underlying30 h
  rw[uG]at hl
  obtain⟨v0,r0,x0⟩:=C7 (n:=n) (e:=28) (o:=0) (z:=1) Tryz.underlying30 h hm hb 0 _ rfl ⟨rfl,rfl⟩ Kr ((P5 (b:=32) Tryz.underlying28 AB (by decide) (by decide) (by decide) (fun v=>by first|rfl|(cases v;rfl)) (OO enc w n)).le (Nat.le_succ _))
  have key:Rd w (cs.drop 0) _:=(M4 r0 (by first|rfl|(cases v0;rfl)) (oQ hl))
  refine⟨B3.mk v0,?_,?_⟩
  ·rw[List.drop_zero]at key
   first|exact key|(rw[B3.D8];exact key)
  ·exact⟨x0.1,x0.2⟩
theorem uH:Tryz.prog.cellsOf 92=6:=by kernel_rfl
theorem yY:Tryz.prog.cellsOf 83=2:=by kernel_rfl
theorem Kt:Tryz.prog.cellsOf 81=1:=by kernel_rfl
theorem RH{H:Type}(enc:TypeId×Value→H)(w:World):∀n,Opens enc Tryz.prog w 83 w6.cells (BN) n:=by
 intro n
 induction n with
 |zero=>exact Opens.zero
 |succ n ih=>
  intro m hm cs x h hb
  have hl:=bX Tryz.underlying83 h
  rw[yY]at hl
  obtain⟨v0,r0,x0⟩:=C7 (n:=n) (e:=9) (o:=0) (z:=1) Tryz.underlying83 h hm hb 0 _ rfl ⟨rfl,rfl⟩ su (pW Tryz.underlying9)
  obtain⟨v1,r1,x1⟩:=C7 (n:=n) (e:=81) (o:=1) (z:=1) Tryz.underlying83 h hm hb 1 _ rfl ⟨rfl,rfl⟩ Kt ((P5 (b:=40) Tryz.underlying81 yY (by decide) (by decide) (by decide) (fun v=>by first|rfl|(cases v;rfl)) ih).le (Nat.le_succ _))
  have key:Rd w (cs.drop 0) _:=(M4 r0 (by first|rfl|(cases v0;rfl)) (M4 r1 (by first|rfl|(cases v1;rfl)) (oQ hl)))
  refine⟨w6.mk v0 v1,?_,?_⟩
  ·rw[List.drop_zero]at key
   first|exact key|(rw[w6.D8];exact key)
  ·exact .mk _ x1.1 (fun k hk=>x1.2 _ (get_mem hk))
theorem Ku:Tryz.prog.cellsOf 89=1:=by kernel_rfl
theorem Na{H:Type}(enc:TypeId×Value→H)(w:World):∀n,Opens enc Tryz.prog w 92 x9.cells (JH) n:=by
 intro n
 induction n with
 |zero=>exact Opens.zero
 |succ n ih=>
  intro m hm cs x h hb
  have hl:=bX Tryz.underlying92 h
  rw[uH]at hl
  obtain⟨v0,r0,x0⟩:=C7 (n:=n) (e:=3) (o:=0) (z:=1) Tryz.underlying92 h hm hb 0 _ rfl ⟨rfl,rfl⟩ dS (aY Tryz.underlying3)
  obtain⟨v1,r1,x1⟩:=C7 (n:=n) (e:=9) (o:=1) (z:=1) Tryz.underlying92 h hm hb 1 _ rfl ⟨rfl,rfl⟩ su (pW Tryz.underlying9)
  obtain⟨v2,r2,x2⟩:=C7 (n:=n) (e:=3) (o:=2) (z:=1) Tryz.underlying92 h hm hb 2 _ rfl ⟨rfl,rfl⟩ dS (aY Tryz.underlying3)
  obtain⟨v3,r3,x3⟩:=C7 (n:=n) (e:=83) (o:=3) (z:=2) Tryz.underlying92 h hm hb 3 _ rfl ⟨rfl,rfl⟩ yY (RH enc w n)
  obtain⟨v4,r4,x4⟩:=C7 (n:=n) (e:=89) (o:=5) (z:=1) Tryz.underlying92 h hm hb 4 _ rfl ⟨rfl,rfl⟩ Ku ((P5 (b:=96) Tryz.underlying89 uH (by decide) (by decide) (by decide) (fun v=>by first|rfl|(cases v;rfl)) ih).le (Nat.le_succ _))
  have key:Rd w (cs.drop 0) _:=(M4 r0 (by first|rfl|(cases v0;rfl)) (M4 r1 (by first|rfl|(cases v1;rfl)) (M4 r2 (by first|rfl|(cases v2;rfl)) (M4 r3 (by first|rfl|(cases v3;rfl)) (M4 r4 (by first|rfl|(cases v4;rfl)) (oQ hl))))))
  refine⟨x9.mk v0 v1 v2 v3 v4,?_,?_⟩
  ·rw[List.drop_zero]at key
   first|exact key|(rw[x9.D8];exact key)|(simp only[w6.D8]at key;exact key)|(rw[x9.D8];simp only[w6.D8]at key;exact key)
  ·exact .mk _ x3 x4.1 (fun k hk=>x4.2 _ (get_mem hk))
theorem RI{H:Type}(enc:TypeId×Value→H)(w:World):∀n,Opens enc Tryz.prog w 95 x6.cells (Rv) n:=by
 intro n
 induction n with
 |zero=>exact Opens.zero
 |succ n ih=>
  intro m hm cs x h hb
  have hl:=bX Tryz.underlying95 h
  rw[Dv]at hl
  obtain⟨v0,r0,x0⟩:=C7 (n:=n) (e:=9) (o:=0) (z:=1) Tryz.underlying95 h hm hb 0 _ rfl ⟨rfl,rfl⟩ su (pW Tryz.underlying9)
  obtain⟨v1,r1,x1⟩:=C7 (n:=n) (e:=30) (o:=1) (z:=1) Tryz.underlying95 h hm hb 1 _ rfl ⟨rfl,rfl⟩ uG (Ks enc w n)
  obtain⟨v2,r2,x2⟩:=C7 (n:=n) (e:=3) (o:=2) (z:=1) Tryz.underlying95 h hm hb 2 _ rfl ⟨rfl,rfl⟩ dS (aY Tryz.underlying3)
  obtain⟨v3,r3,x3⟩:=C7 (n:=n) (e:=3) (o:=3) (z:=1) Tryz.underlying95 h hm hb 3 _ rfl ⟨rfl,rfl⟩ dS (aY Tryz.underlying3)
  obtain⟨v4,r4,x4⟩:=C7 (n:=n) (e:=92) (o:=4) (z:=6) Tryz.underlying95 h hm hb 4 _ rfl ⟨rfl,rfl⟩ uH (Na enc w n)
  have key:Rd w (cs.drop 0) _:=(M4 r0 (by first|rfl|(cases v0;rfl)) (M4 r1 (by first|rfl|(cases v1;rfl)) (M4 r2 (by first|rfl|(cases v2;rfl)) (M4 r3 (by first|rfl|(cases v3;rfl)) (M4 r4 (by first|rfl|(cases v4;rfl)) (oQ hl))))))
  refine⟨x6.mk v0 v1 v2 v3 v4,?_,?_⟩
  ·rw[List.drop_zero]at key
   first|exact key|(rw[x6.D8];exact key)|(simp only[B3.D8,x9.D8]at key;exact key)|(rw[x6.D8];simp only[B3.D8,x9.D8]at key;exact key)
  ·exact⟨x1,x4⟩
theorem Kv:Tryz.prog.cellsOf 27=1:=by kernel_rfl
theorem Dw:Tryz.prog.cellsOf 98=9:=by kernel_rfl
theorem RJ{H:Type}(enc:TypeId×Value→H)(w:World):∀n,Opens enc Tryz.prog w 98 C5.cells (UK) n:=by
 intro n
 induction n with
 |zero=>exact Opens.zero
 |succ n ih=>
  intro m hm cs x h hb
  have hl:=bX Tryz.underlying98 h
  rw[Dw]at hl
  obtain⟨v0,r0,x0⟩:=C7 (n:=n) (e:=9) (o:=0) (z:=1) Tryz.underlying98 h hm hb 0 _ rfl ⟨rfl,rfl⟩ su (pW Tryz.underlying9)
  obtain⟨v1,r1,x1⟩:=C7 (n:=n) (e:=30) (o:=1) (z:=1) Tryz.underlying98 h hm hb 1 _ rfl ⟨rfl,rfl⟩ uG (Ks enc w n)
  obtain⟨v2,r2,x2⟩:=C7 (n:=n) (e:=3) (o:=2) (z:=1) Tryz.underlying98 h hm hb 2 _ rfl ⟨rfl,rfl⟩ dS (aY Tryz.underlying3)
  obtain⟨v3,r3,x3⟩:=C7 (n:=n) (e:=92) (o:=3) (z:=6) Tryz.underlying98 h hm hb 3 _ rfl ⟨rfl,rfl⟩ uH (Na enc w n)
  have key:Rd w (cs.drop 0) _:=(M4 r0 (by first|rfl|(cases v0;rfl)) (M4 r1 (by first|rfl|(cases v1;rfl)) (M4 r2 (by first|rfl|(cases v2;rfl)) (M4 r3 (by first|rfl|(cases v3;rfl)) (oQ hl)))))
  refine⟨C5.mk v0 v1 v2 v3,?_,?_⟩
  ·rw[List.drop_zero]at key
   first|exact key|(rw[C5.D8];exact key)|(simp only[B3.D8,x9.D8]at key;exact key)|(rw[C5.D8];simp only[B3.D8,x9.D8]at key;exact key)
  ·exact⟨x0,x1,x3⟩
theorem Ai{H:Type}(enc:TypeId×Value→H)(w:World):∀n,Opens enc Tryz.prog w 32 x5.cells (zG) n:=by
 intro n
 induction n with
 |zero=>exact Opens.zero
 |succ n ih=>
  intro m hm cs x h hb
  have hl:=bX Tryz.underlying32 h
  rw[Km]at hl
  obtain⟨v0,r0,x0⟩:=C7 (n:=n) (e:=25) (o:=0) (z:=2) Tryz.underlying32 h hm hb 0 _ rfl ⟨rfl,rfl⟩ Dt (RG enc w n)
  obtain⟨v1,r1,x1⟩:=C7 (n:=n) (e:=26) (o:=2) (z:=1) Tryz.underlying32 h hm hb 1 _ rfl ⟨rfl,rfl⟩ Kq ((P5 (b:=152) Tryz.underlying26 Dv (by decide) (by decide) (by decide) (fun v=>by first|rfl|(cases v;rfl)) (RI enc w n)).le (Nat.le_succ _))
  obtain⟨v2,r2,x2⟩:=C7 (n:=n) (e:=27) (o:=3) (z:=1) Tryz.underlying32 h hm hb 2 _ rfl ⟨rfl,rfl⟩ Kv ((P5 (b:=144) Tryz.underlying27 Dw (by decide) (by decide) (by decide) (fun v=>by first|rfl|(cases v;rfl)) (RJ enc w n)).le (Nat.le_succ _))
  obtain⟨v3,r3,x3⟩:=C7 (n:=n) (e:=30) (o:=4) (z:=1) Tryz.underlying32 h hm hb 3 _ rfl ⟨rfl,rfl⟩ uG (Ks enc w n)
  have key:Rd w (cs.drop 0) _:=(M4 r0 (by first|rfl|(cases v0;rfl)) (M4 r1 (by first|rfl|(cases v1;rfl)) (M4 r2 (by first|rfl|(cases v2;rfl)) (M4 r3 (by first|rfl|(cases v3;rfl)) (oQ hl)))))
  refine⟨x5.mk v0 v1 v2 v3,?_,?_⟩
  ·rw[List.drop_zero]at key
   first|exact key|(rw[x5.D8];exact key)|(simp only[y6.D8,B3.D8]at key;exact key)|(rw[x5.D8];simp only[y6.D8,B3.D8]at key;exact key)
  ·exact⟨x0,x1.1,x2.1,x1.2,x2.2,x3⟩
theorem lW:Tryz.prog.cellsOf 58=3:=by kernel_rfl
theorem Kw:Tryz.prog.cellsOf 33=1:=by kernel_rfl
theorem Aj{H:Type}(enc:TypeId×Value→H)(w:World):∀n,Opens enc Tryz.prog w 58 w8.cells (fun _=>True) n:=by
 intro n
 induction n with
 |zero=>exact Opens.zero
 |succ n ih=>
  intro m hm cs x h hb
  have hl:=bX Tryz.underlying58 h
  rw[lW]at hl
  obtain⟨v0,r0,x0⟩:=C7 (n:=n) (e:=3) (o:=0) (z:=1) Tryz.underlying58 h hm hb 0 _ rfl ⟨rfl,rfl⟩ dS (aY Tryz.underlying3)
  obtain⟨v1,r1,x1⟩:=C7 (n:=n) (e:=3) (o:=1) (z:=1) Tryz.underlying58 h hm hb 1 _ rfl ⟨rfl,rfl⟩ dS (aY Tryz.underlying3)
  obtain⟨v2,r2,x2⟩:=C7 (n:=n) (e:=33) (o:=2) (z:=1) Tryz.underlying58 h hm hb 2 _ rfl ⟨rfl,rfl⟩ Kw ((P5 (b:=40) Tryz.underlying33 lW (by decide) (by decide) (by decide) (fun v=>by first|rfl|(cases v;rfl)) ih).le (Nat.le_succ _))
  have key:Rd w (cs.drop 0) _:=(M4 r0 (by first|rfl|(cases v0;rfl)) (M4 r1 (by first|rfl|(cases v1;rfl)) (M4 r2 (by first|rfl|(cases v2;rfl)) (oQ hl))))
  refine⟨w8.mk v0 v1 v2,?_,?_⟩
  ·rw[List.drop_zero]at key
   first|exact key|(rw[w8.D8];exact key)
  ·trivial
theorem tW:Tryz.prog.cellsOf 55=6:=by kernel_rfl
theorem Dx:Tryz.prog.cellsOf 43=5:=by kernel_rfl
theorem RL{H:Type}(enc:TypeId×Value→H)(w:World):∀n,Opens enc Tryz.prog w 43 w5.cells (fun _=>True) n:=by
 intro n
 induction n with
 |zero=>exact Opens.zero
 |succ n ih=>
  intro m hm cs x h hb
  have hl:=bX Tryz.underlying43 h
  rw[Dx]at hl
  obtain⟨v0,r0,x0⟩:=C7 (n:=n) (e:=3) (o:=0) (z:=1) Tryz.underlying43 h hm hb 0 _ rfl ⟨rfl,rfl⟩ dS (aY Tryz.underlying3)
  obtain⟨v1,r1,x1⟩:=C7 (n:=n) (e:=3) (o:=1) (z:=1) Tryz.underlying43 h hm hb 1 _ rfl ⟨rfl,rfl⟩ dS (aY Tryz.underlying3)
  obtain⟨v2,r2,x2⟩:=C7 (n:=n) (e:=3) (o:=2) (z:=1) Tryz.underlying43 h hm hb 2 _ rfl ⟨rfl,rfl⟩ dS (aY Tryz.underlying3)
  obtain⟨v3,r3,x3⟩:=C7 (n:=n) (e:=3) (o:=3) (z:=1) Tryz.underlying43 h hm hb 3 _ rfl ⟨rfl,rfl⟩ dS (aY Tryz.underlying3)
  obtain⟨v4,r4,x4⟩:=C7 (n:=n) (e:=3) (o:=4) (z:=1) Tryz.underlying43 h hm hb 4 _ rfl ⟨rfl,rfl⟩ dS (aY Tryz.underlying3)
  have key:Rd w (cs.drop 0) _:=(M4 r0 (by first|rfl|(cases v0;rfl)) (M4 r1 (by first|rfl|(cases v1;rfl)) (M4 r2 (by first|rfl|(cases v2;rfl)) (M4 r3 (by first|rfl|(cases v3;rfl)) (M4 r4 (by first|rfl|(cases v4;rfl)) (oQ hl))))))
  refine⟨w5.mk v0 v1 v2 v3 v4,?_,?_⟩
  ·rw[List.drop_zero]at key
   first|exact key|(rw[w5.D8];exact key)
  ·trivial
theorem Mf:Tryz.prog.cellsOf 4=1:=by kernel_rfl
theorem Jl{H:Type}(enc:TypeId×Value→H)(w:World):∀n,Opens enc Tryz.prog w 55 w7.cells (fun _=>True) n:=by
 intro n
 induction n with
 |zero=>exact Opens.zero
 |succ n ih=>
  intro m hm cs x h hb
  have hl:=bX Tryz.underlying55 h
  rw[tW]at hl
  obtain⟨v0,r0,x0⟩:=C7 (n:=n) (e:=43) (o:=0) (z:=5) Tryz.underlying55 h hm hb 0 _ rfl ⟨rfl,rfl⟩ Dx (RL enc w n)
  obtain⟨v1,r1,x1⟩:=C7 (n:=n) (e:=4) (o:=5) (z:=1) Tryz.underlying55 h hm hb 1 _ rfl ⟨rfl,rfl⟩ Mf (Py Tryz.underlying4)
  have key:Rd w (cs.drop 0) _:=(M4 r0 (by first|rfl|(cases v0;rfl)) (M4 r1 (by first|rfl|(cases v1;rfl)) (oQ hl)))
  refine⟨w7.mk v0 v1,?_,?_⟩
  ·rw[List.drop_zero]at key
   first|exact key|(rw[w7.D8];exact key)|(simp only[w5.D8]at key;exact key)|(rw[w7.D8];simp only[w5.D8]at key;exact key)
  ·trivial
end Go.Proofs.YtfogbhjeihkliaaGreatDoor
