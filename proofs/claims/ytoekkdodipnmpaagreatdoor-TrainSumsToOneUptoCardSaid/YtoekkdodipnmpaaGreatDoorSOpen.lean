import Derived.KernelRfl
import Derived.Test.YtoekkdodipnmpaaGreatDoorSRead
import Derived.Test.YtoekkdodipnmpaaGreatDoorSLaw2
set_option linter.unusedVariables false
set_option linter.unusedSimpArgs false
namespace Go.Proofs.YtoekkdodipnmpaaGreatDoor
open Go Go.Am
theorem Dd:Tryz.prog.cellsOf 32=5:=by kernel_rfl
theorem wV:Tryz.prog.cellsOf 25=2:=by kernel_rfl
theorem Df:Tryz.prog.cellsOf 22=1:=by kernel_rfl
theorem tU:Tryz.prog.cellsOf 114=2:=by kernel_rfl
theorem lZ:Tryz.prog.cellsOf 9=1:=by kernel_rfl
theorem sw:Tryz.prog.cellsOf 33=1:=by kernel_rfl
theorem cH:Tryz.prog.cellsOf 3=1:=by kernel_rfl
theorem Hv{H:Type}(enc:TypeId×Value→H)(w:World):∀n,Opens enc Tryz.prog w 114 x5.cells (fun _=>True) n:=by
 intro n
 induction n with
 |zero=>exact Opens.zero
 |succ n ih=>
  intro m hm cs x h hb
  have hl:=Y4 Tryz.underlying114 h
  rw[tU]at hl
  obtain⟨v0,r0,x0⟩:=C9 (n:=n) (e:=9) (o:=0) (z:=1) Tryz.underlying114 h hm hb 0 _ rfl ⟨rfl,rfl⟩ lZ (jF Tryz.underlying9)
  obtain⟨v1,r1,x1⟩:=C9 (n:=n) (e:=33) (o:=1) (z:=1) Tryz.underlying114 h hm hb 1 _ rfl ⟨rfl,rfl⟩ sw ((W9 (b:=8) Tryz.underlying33 cH (by decide) (by decide) (by decide) (fun v=>by first|rfl|(cases v;rfl)) (aI Tryz.underlying3)).le (Nat.le_succ _))
  have key:Rd w (cs.drop 0) _:=(K9 r0 (by first|rfl|(cases v0;rfl)) (K9 r1 (by first|rfl|(cases v1;rfl)) (kB hl)))
  refine⟨x5.mk v0 v1,?_,?_⟩
  ·rw[List.drop_zero]at key
   first|exact key|(rw[x5.D1];exact key)
  ·trivial
theorem Dg:Tryz.prog.cellsOf 23=1:=by kernel_rfl
theorem wW:Tryz.prog.cellsOf 80=3:=by kernel_rfl
theorem Ke{H:Type}(enc:TypeId×Value→H)(w:World):∀n,Opens enc Tryz.prog w 80 A0.cells (fun _=>True) n:=by
 intro n
 induction n with
 |zero=>exact Opens.zero
 |succ n ih=>
  intro m hm cs x h hb
  have hl:=Y4 Tryz.underlying80 h
  rw[wW]at hl
  obtain⟨v0,r0,x0⟩:=C9 (n:=n) (e:=9) (o:=0) (z:=1) Tryz.underlying80 h hm hb 0 _ rfl ⟨rfl,rfl⟩ lZ (jF Tryz.underlying9)
  obtain⟨v1,r1,x1⟩:=C9 (n:=n) (e:=3) (o:=1) (z:=1) Tryz.underlying80 h hm hb 1 _ rfl ⟨rfl,rfl⟩ cH (aI Tryz.underlying3)
  obtain⟨v2,r2,x2⟩:=C9 (n:=n) (e:=3) (o:=2) (z:=1) Tryz.underlying80 h hm hb 2 _ rfl ⟨rfl,rfl⟩ cH (aI Tryz.underlying3)
  have key:Rd w (cs.drop 0) _:=(K9 r0 (by first|rfl|(cases v0;rfl)) (K9 r1 (by first|rfl|(cases v1;rfl)) (K9 r2 (by first|rfl|(cases v2;rfl)) (kB hl))))
  refine⟨A0.mk v0 v1 v2,?_,?_⟩
  ·rw[List.drop_zero]at key
   first|exact key|(rw[A0.D1];exact key)
  ·trivial
theorem Kf{H:Type}(enc:TypeId×Value→H)(w:World):∀n,Opens enc Tryz.prog w 25 x7.cells (Ka) n:=by
 intro n
 induction n with
 |zero=>exact Opens.zero
 |succ n ih=>
  intro m hm cs x h hb
  have hl:=Y4 Tryz.underlying25 h
  rw[wV]at hl
  obtain⟨v0,r0,x0⟩:=C9 (n:=n) (e:=22) (o:=0) (z:=1) Tryz.underlying25 h hm hb 0 _ rfl ⟨rfl,rfl⟩ Df ((W9 (b:=40) Tryz.underlying22 tU (by decide) (by decide) (by decide) (fun v=>by first|rfl|(cases v;rfl)) (Hv enc w n)).le (Nat.le_succ _))
  obtain⟨v1,r1,x1⟩:=C9 (n:=n) (e:=23) (o:=1) (z:=1) Tryz.underlying25 h hm hb 1 _ rfl ⟨rfl,rfl⟩ Dg ((W9 (b:=32) Tryz.underlying23 wW (by decide) (by decide) (by decide) (fun v=>by first|rfl|(cases v;rfl)) (Ke enc w n)).le (Nat.le_succ _))
  have key:Rd w (cs.drop 0) _:=(K9 r0 (by first|rfl|(cases v0;rfl)) (K9 r1 (by first|rfl|(cases v1;rfl)) (kB hl)))
  refine⟨x7.mk v0 v1,?_,?_⟩
  ·rw[List.drop_zero]at key
   first|exact key|(rw[x7.D1];exact key)
  ·exact⟨x0.1⟩
theorem Dh:Tryz.prog.cellsOf 26=1:=by kernel_rfl
theorem wX:Tryz.prog.cellsOf 71=10:=by kernel_rfl
theorem oc:Tryz.prog.cellsOf 30=1:=by kernel_rfl
theorem Di:Tryz.prog.cellsOf 28=1:=by kernel_rfl
theorem wY:Tryz.prog.cellsOf 61=2:=by kernel_rfl
theorem Dj:Tryz.prog.cellsOf 59=1:=by kernel_rfl
theorem tV:Tryz.prog.cellsOf 103=2:=by kernel_rfl
theorem Hw{H:Type}(enc:TypeId×Value→H)(w:World):∀n,Opens enc Tryz.prog w 103 D9.cells (fun _=>True) n:=by
 intro n
 induction n with
 |zero=>exact Opens.zero
 |succ n ih=>
  intro m hm cs x h hb
  have hl:=Y4 Tryz.underlying103 h
  rw[tV]at hl
  obtain⟨v0,r0,x0⟩:=C9 (n:=n) (e:=3) (o:=0) (z:=1) Tryz.underlying103 h hm hb 0 _ rfl ⟨rfl,rfl⟩ cH (aI Tryz.underlying3)
  obtain⟨v1,r1,x1⟩:=C9 (n:=n) (e:=3) (o:=1) (z:=1) Tryz.underlying103 h hm hb 1 _ rfl ⟨rfl,rfl⟩ cH (aI Tryz.underlying3)
  have key:Rd w (cs.drop 0) _:=(K9 r0 (by first|rfl|(cases v0;rfl)) (K9 r1 (by first|rfl|(cases v1;rfl)) (kB hl)))
  refine⟨D9.mk v0 v1,?_,?_⟩
  ·rw[List.drop_zero]at key
   first|exact key|(rw[D9.D1];exact key)
  ·trivial
theorem Kg{H:Type}(enc:TypeId×Value→H)(w:World):∀n,Opens enc Tryz.prog w 61 y4.cells (fun v=>v.links.length≤1048576) n:=by
 intro n
 induction n with
 |zero=>exact Opens.zero
 |succ n ih=>
  intro m hm cs x h hb
  have hl:=Y4 Tryz.underlying61 h
  rw[wY]at hl
  obtain⟨v0,r0,x0⟩:=C9 (n:=n) (e:=3) (o:=0) (z:=1) Tryz.underlying61 h hm hb 0 _ rfl ⟨rfl,rfl⟩ cH (aI Tryz.underlying3)
  obtain⟨v1,r1,x1⟩:=C9 (n:=n) (e:=59) (o:=1) (z:=1) Tryz.underlying61 h hm hb 1 _ rfl ⟨rfl,rfl⟩ Dj ((W9 (b:=16) Tryz.underlying59 tV (by decide) (by decide) (by decide) (fun v=>by first|rfl|(cases v;rfl)) (Hw enc w n)).le (Nat.le_succ _))
  have key:Rd w (cs.drop 0) _:=(K9 r0 (by first|rfl|(cases v0;rfl)) (K9 r1 (by first|rfl|(cases v1;rfl)) (kB hl)))
  refine⟨y4.mk v0 v1,?_,?_⟩
  ·rw[List.drop_zero]at key
   first|exact key|(rw[y4.D1];exact key)
  ·exact x1.1
theorem Dk{H:Type}(enc:TypeId×Value→H)(w:World):∀n,Opens enc Tryz.prog w 30 B0.cells (wQ) n:=by
 intro n
 induction n with
 |zero=>exact Opens.zero
 |succ n ih=>
  intro m hm cs x h hb
  have hl:=Y4 Tryz.underlying30 h
  rw[oc]at hl
  obtain⟨v0,r0,x0⟩:=C9 (n:=n) (e:=28) (o:=0) (z:=1) Tryz.underlying30 h hm hb 0 _ rfl ⟨rfl,rfl⟩ Di ((W9 (b:=32) Tryz.underlying28 wY (by decide) (by decide) (by decide) (fun v=>by first|rfl|(cases v;rfl)) (Kg enc w n)).le (Nat.le_succ _))
  have key:Rd w (cs.drop 0) _:=(K9 r0 (by first|rfl|(cases v0;rfl)) (kB hl))
  refine⟨B0.mk v0,?_,?_⟩
  ·rw[List.drop_zero]at key
   first|exact key|(rw[B0.D1];exact key)
  ·exact⟨x0.1,x0.2⟩
theorem od:Tryz.prog.cellsOf 67=6:=by kernel_rfl
theorem sx:Tryz.prog.cellsOf 64=2:=by kernel_rfl
theorem Dl:Tryz.prog.cellsOf 62=1:=by kernel_rfl
theorem Kh{H:Type}(enc:TypeId×Value→H)(w:World):∀n,Opens enc Tryz.prog w 64 u0.cells (uZ) n:=by
 intro n
 induction n with
 |zero=>exact Opens.zero
 |succ n ih=>
  intro m hm cs x h hb
  have hl:=Y4 Tryz.underlying64 h
  rw[sx]at hl
  obtain⟨v0,r0,x0⟩:=C9 (n:=n) (e:=9) (o:=0) (z:=1) Tryz.underlying64 h hm hb 0 _ rfl ⟨rfl,rfl⟩ lZ (jF Tryz.underlying9)
  obtain⟨v1,r1,x1⟩:=C9 (n:=n) (e:=62) (o:=1) (z:=1) Tryz.underlying64 h hm hb 1 _ rfl ⟨rfl,rfl⟩ Dl ((W9 (b:=40) Tryz.underlying62 sx (by decide) (by decide) (by decide) (fun v=>by first|rfl|(cases v;rfl)) ih).le (Nat.le_succ _))
  have key:Rd w (cs.drop 0) _:=(K9 r0 (by first|rfl|(cases v0;rfl)) (K9 r1 (by first|rfl|(cases v1;rfl)) (kB hl)))
  refine⟨u0.mk v0 v1,?_,?_⟩
  ·rw[List.drop_zero]at key
   first|exact key|(rw[u0.D1];exact key)
  ·exact .mk _ x1.1 (fun k hk=>x1.2 _ (get_mem hk))
theorem Dm:Tryz.prog.cellsOf 65=1:=by kernel_rfl
theorem FH{H:Type}(enc:TypeId×Value→H)(w:World):∀n,Opens enc Tryz.prog w 67 w6.cells (CW) n:=by
 intro n
 induction n with
 |zero=>exact Opens.zero
 |succ n ih=>
  intro m hm cs x h hb
  have hl:=Y4 Tryz.underlying67 h
  rw[od]at hl
  obtain⟨v0,r0,x0⟩:=C9 (n:=n) (e:=3) (o:=0) (z:=1) Tryz.underlying67 h hm hb 0 _ rfl ⟨rfl,rfl⟩ cH (aI Tryz.underlying3)
  obtain⟨v1,r1,x1⟩:=C9 (n:=n) (e:=9) (o:=1) (z:=1) Tryz.underlying67 h hm hb 1 _ rfl ⟨rfl,rfl⟩ lZ (jF Tryz.underlying9)
  obtain⟨v2,r2,x2⟩:=C9 (n:=n) (e:=3) (o:=2) (z:=1) Tryz.underlying67 h hm hb 2 _ rfl ⟨rfl,rfl⟩ cH (aI Tryz.underlying3)
  obtain⟨v3,r3,x3⟩:=C9 (n:=n) (e:=64) (o:=3) (z:=2) Tryz.underlying67 h hm hb 3 _ rfl ⟨rfl,rfl⟩ sx (Kh enc w n)
  obtain⟨v4,r4,x4⟩:=C9 (n:=n) (e:=65) (o:=5) (z:=1) Tryz.underlying67 h hm hb 4 _ rfl ⟨rfl,rfl⟩ Dm ((W9 (b:=96) Tryz.underlying65 od (by decide) (by decide) (by decide) (fun v=>by first|rfl|(cases v;rfl)) ih).le (Nat.le_succ _))
  have key:Rd w (cs.drop 0) _:=(K9 r0 (by first|rfl|(cases v0;rfl)) (K9 r1 (by first|rfl|(cases v1;rfl)) (K9 r2 (by first|rfl|(cases v2;rfl)) (K9 r3 (by first|rfl|(cases v3;rfl)) (K9 r4 (by first|rfl|(cases v4;rfl)) (kB hl))))))
  refine⟨w6.mk v0 v1 v2 v3 v4,?_,?_⟩
  ·rw[List.drop_zero]at key
   first|exact key|(rw[w6.D1];exact key)|(simp only[u0.D1]at key;exact key)|(rw[w6.D1];simp only[u0.D1]at key;exact key)
  ·exact .mk _ x3 x4.1 (fun k hk=>x4.2 _ (get_mem hk))
theorem Ki{H:Type}(enc:TypeId×Value→H)(w:World):∀n,Opens enc Tryz.prog w 71 w8.cells (JZ) n:=by
 intro n
 induction n with
 |zero=>exact Opens.zero
 |succ n ih=>
  intro m hm cs x h hb
  have hl:=Y4 Tryz.underlying71 h
  rw[wX]at hl
  obtain⟨v0,r0,x0⟩:=C9 (n:=n) (e:=9) (o:=0) (z:=1) Tryz.underlying71 h hm hb 0 _ rfl ⟨rfl,rfl⟩ lZ (jF Tryz.underlying9)
  obtain⟨v1,r1,x1⟩:=C9 (n:=n) (e:=30) (o:=1) (z:=1) Tryz.underlying71 h hm hb 1 _ rfl ⟨rfl,rfl⟩ oc (Dk enc w n)
  obtain⟨v2,r2,x2⟩:=C9 (n:=n) (e:=3) (o:=2) (z:=1) Tryz.underlying71 h hm hb 2 _ rfl ⟨rfl,rfl⟩ cH (aI Tryz.underlying3)
  obtain⟨v3,r3,x3⟩:=C9 (n:=n) (e:=3) (o:=3) (z:=1) Tryz.underlying71 h hm hb 3 _ rfl ⟨rfl,rfl⟩ cH (aI Tryz.underlying3)
  obtain⟨v4,r4,x4⟩:=C9 (n:=n) (e:=67) (o:=4) (z:=6) Tryz.underlying71 h hm hb 4 _ rfl ⟨rfl,rfl⟩ od (FH enc w n)
  have key:Rd w (cs.drop 0) _:=(K9 r0 (by first|rfl|(cases v0;rfl)) (K9 r1 (by first|rfl|(cases v1;rfl)) (K9 r2 (by first|rfl|(cases v2;rfl)) (K9 r3 (by first|rfl|(cases v3;rfl)) (K9 r4 (by first|rfl|(cases v4;rfl)) (kB hl))))))
  refine⟨w8.mk v0 v1 v2 v3 v4,?_,?_⟩
  ·rw[List.drop_zero]at key
   first|exact key|(rw[w8.D1];exact key)|(simp only[B0.D1,w6.D1]at key;exact key)|(rw[w8.D1];simp only[B0.D1,w6.D1]at key;exact key)
  ·exact⟨x1,x4⟩
theorem Dn:Tryz.prog.cellsOf 27=1:=by kernel_rfl
theorem wZ:Tryz.prog.cellsOf 69=9:=by kernel_rfl
theorem Kj{H:Type}(enc:TypeId×Value→H)(w:World):∀n,Opens enc Tryz.prog w 69 D0.cells (MK) n:=by
 intro n
 induction n with
 |zero=>exact Opens.zero
 |succ n ih=>
  intro m hm cs x h hb
  have hl:=Y4 Tryz.underlying69 h
  rw[wZ]at hl
  obtain⟨v0,r0,x0⟩:=C9 (n:=n) (e:=9) (o:=0) (z:=1) Tryz.underlying69 h hm hb 0 _ rfl ⟨rfl,rfl⟩ lZ (jF Tryz.underlying9)
  obtain⟨v1,r1,x1⟩:=C9 (n:=n) (e:=30) (o:=1) (z:=1) Tryz.underlying69 h hm hb 1 _ rfl ⟨rfl,rfl⟩ oc (Dk enc w n)
  obtain⟨v2,r2,x2⟩:=C9 (n:=n) (e:=3) (o:=2) (z:=1) Tryz.underlying69 h hm hb 2 _ rfl ⟨rfl,rfl⟩ cH (aI Tryz.underlying3)
  obtain⟨v3,r3,x3⟩:=C9 (n:=n) (e:=67) (o:=3) (z:=6) Tryz.underlying69 h hm hb 3 _ rfl ⟨rfl,rfl⟩ od (FH enc w n)
  have key:Rd w (cs.drop 0) _:=(K9 r0 (by first|rfl|(cases v0;rfl)) (K9 r1 (by first|rfl|(cases v1;rfl)) (K9 r2 (by first|rfl|(cases v2;rfl)) (K9 r3 (by first|rfl|(cases v3;rfl)) (kB hl)))))
  refine⟨D0.mk v0 v1 v2 v3,?_,?_⟩
  ·rw[List.drop_zero]at key
   first|exact key|(rw[D0.D1];exact key)|(simp only[B0.D1,w6.D1]at key;exact key)|(rw[D0.D1];simp only[B0.D1,w6.D1]at key;exact key)
  ·exact⟨x0,x1,x3⟩
theorem JE{H:Type}(enc:TypeId×Value→H)(w:World):∀n,Opens enc Tryz.prog w 32 y7.cells (Hs) n:=by
 intro n
 induction n with
 |zero=>exact Opens.zero
 |succ n ih=>
  intro m hm cs x h hb
  have hl:=Y4 Tryz.underlying32 h
  rw[Dd]at hl
  obtain⟨v0,r0,x0⟩:=C9 (n:=n) (e:=25) (o:=0) (z:=2) Tryz.underlying32 h hm hb 0 _ rfl ⟨rfl,rfl⟩ wV (Kf enc w n)
  obtain⟨v1,r1,x1⟩:=C9 (n:=n) (e:=26) (o:=2) (z:=1) Tryz.underlying32 h hm hb 1 _ rfl ⟨rfl,rfl⟩ Dh ((W9 (b:=152) Tryz.underlying26 wX (by decide) (by decide) (by decide) (fun v=>by first|rfl|(cases v;rfl)) (Ki enc w n)).le (Nat.le_succ _))
  obtain⟨v2,r2,x2⟩:=C9 (n:=n) (e:=27) (o:=3) (z:=1) Tryz.underlying32 h hm hb 2 _ rfl ⟨rfl,rfl⟩ Dn ((W9 (b:=144) Tryz.underlying27 wZ (by decide) (by decide) (by decide) (fun v=>by first|rfl|(cases v;rfl)) (Kj enc w n)).le (Nat.le_succ _))
  obtain⟨v3,r3,x3⟩:=C9 (n:=n) (e:=30) (o:=4) (z:=1) Tryz.underlying32 h hm hb 3 _ rfl ⟨rfl,rfl⟩ oc (Dk enc w n)
  have key:Rd w (cs.drop 0) _:=(K9 r0 (by first|rfl|(cases v0;rfl)) (K9 r1 (by first|rfl|(cases v1;rfl)) (K9 r2 (by first|rfl|(cases v2;rfl)) (K9 r3 (by first|rfl|(cases v3;rfl)) (kB hl)))))
  refine⟨y7.mk v0 v1 v2 v3,?_,?_⟩
  ·rw[List.drop_zero]at key
   first|exact key|(rw[y7.D1];exact key)|(simp only[x7.D1,B0.D1]at key;exact key)|(rw[y7.D1];simp only[x7.D1,B0.D1]at key;exact key)
  ·exact⟨x0,x1.1,x2.1,x1.2,x2.2,x3⟩
theorem Dp:Tryz.prog.cellsOf 35=2:=by kernel_rfl
theorem JF{H:Type}(enc:TypeId×Value→H)(w:World):∀n,Opens enc Tryz.prog w 35 C4.cells (fun _=>True) n:=by
 intro n
 induction n with
 |zero=>exact Opens.zero
 |succ n ih=>
  intro m hm cs x h hb
  have hl:=Y4 Tryz.underlying35 h
  rw[Dp]at hl
  obtain⟨v0,r0,x0⟩:=C9 (n:=n) (e:=33) (o:=0) (z:=1) Tryz.underlying35 h hm hb 0 _ rfl ⟨rfl,rfl⟩ sw ((W9 (b:=8) Tryz.underlying33 cH (by decide) (by decide) (by decide) (fun v=>by first|rfl|(cases v;rfl)) (aI Tryz.underlying3)).le (Nat.le_succ _))
  obtain⟨v1,r1,x1⟩:=C9 (n:=n) (e:=33) (o:=1) (z:=1) Tryz.underlying35 h hm hb 1 _ rfl ⟨rfl,rfl⟩ sw ((W9 (b:=8) Tryz.underlying33 cH (by decide) (by decide) (by decide) (fun v=>by first|rfl|(cases v;rfl)) (aI Tryz.underlying3)).le (Nat.le_succ _))
  have key:Rd w (cs.drop 0) _:=(K9 r0 (by first|rfl|(cases v0;rfl)) (K9 r1 (by first|rfl|(cases v1;rfl)) (kB hl)))
  refine⟨C4.mk v0 v1,?_,?_⟩
  ·rw[List.drop_zero]at key
   first|exact key|(rw[C4.D1];exact key)
  ·trivial
end Go.Proofs.YtoekkdodipnmpaaGreatDoor
