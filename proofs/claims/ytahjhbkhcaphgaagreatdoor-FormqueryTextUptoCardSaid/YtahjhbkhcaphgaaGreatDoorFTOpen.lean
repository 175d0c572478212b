import Derived.KernelRfl
import Derived.Test.YtahjhbkhcaphgaaGreatDoorFTRead
import Derived.Test.YtahjhbkhcaphgaaGreatDoorFTLaw3
set_option linter.unusedVariables false
set_option linter.unusedSimpArgs false
namespace Go.Proofs.YtahjhbkhcaphgaaGreatDoor
open Go Go.Am
theorem Bf:Tryz.prog.cellsOf 27=7:=by kernel_rfl
theorem oU:Tryz.prog.cellsOf 25=4:=by kernel_rfl
theorem Dc:Tryz.prog.cellsOf 3=1:=by kernel_rfl
theorem lu:Tryz.prog.cellsOf 9=1:=by kernel_rfl
theorem lx:Tryz.prog.cellsOf 22=1:=by kernel_rfl
theorem Bg:Tryz.prog.cellsOf 23=1:=by kernel_rfl
theorem Jc{H:Type}(enc:TypeId×Value→H)(w:World):∀n,Opens enc Tryz.prog w 25 u6.cells (fun _=>True) n:=by
 intro n
 induction n with
 |zero=>exact Opens.zero
 |succ n ih=>
  intro m hm cs x h hb
  have hl:=qx Tryz.underlying25 h
  rw[oU]at hl
  obtain⟨v0,r0,x0⟩:=Y1 (n:=n) (e:=3) (o:=0) (z:=1) Tryz.underlying25 h hm hb 0 _ rfl ⟨rfl,rfl⟩ Dc (Bh Tryz.underlying3)
  obtain⟨v1,r1,x1⟩:=Y1 (n:=n) (e:=9) (o:=1) (z:=1) Tryz.underlying25 h hm hb 1 _ rfl ⟨rfl,rfl⟩ lu (gu Tryz.underlying9)
  obtain⟨v2,r2,x2⟩:=Y1 (n:=n) (e:=22) (o:=2) (z:=1) Tryz.underlying25 h hm hb 2 _ rfl ⟨rfl,rfl⟩ lx ((eV (b:=16) Tryz.underlying22 lu (by decide) (by decide) (by decide) (fun v=>by first|rfl|(cases v;rfl)) (gu Tryz.underlying9)).le (Nat.le_succ _))
  obtain⟨v3,r3,x3⟩:=Y1 (n:=n) (e:=23) (o:=3) (z:=1) Tryz.underlying25 h hm hb 3 _ rfl ⟨rfl,rfl⟩ Bg ((eV (b:=72) Tryz.underlying23 oU (by decide) (by decide) (by decide) (fun v=>by first|rfl|(cases v;rfl)) ih).le (Nat.le_succ _))
  have key:Rd w (cs.drop 0) _:=(iY r0 (by first|rfl|(cases v0;rfl)) (iY r1 (by first|rfl|(cases v1;rfl)) (iY r2 (by first|rfl|(cases v2;rfl)) (iY r3 (by first|rfl|(cases v3;rfl)) (DN hl)))))
  refine⟨u6.mk v0 v1 v2 v3,?_,?_⟩
  ·rw[List.drop_zero]at key
   first|exact key|(rw[u6.W6];exact key)
  ·trivial
theorem Ic{H:Type}(enc:TypeId×Value→H)(w:World):∀n,Opens enc Tryz.prog w 27 w8.cells (SB) n:=by
 intro n
 induction n with
 |zero=>exact Opens.zero
 |succ n ih=>
  intro m hm cs x h hb
  have hl:=qx Tryz.underlying27 h
  rw[Bf]at hl
  obtain⟨v0,r0,x0⟩:=Y1 (n:=n) (e:=25) (o:=0) (z:=4) Tryz.underlying27 h hm hb 0 _ rfl ⟨rfl,rfl⟩ oU (Jc enc w n)
  obtain⟨v1,r1,x1⟩:=Y1 (n:=n) (e:=22) (o:=4) (z:=1) Tryz.underlying27 h hm hb 1 _ rfl ⟨rfl,rfl⟩ lx ((eV (b:=16) Tryz.underlying22 lu (by decide) (by decide) (by decide) (fun v=>by first|rfl|(cases v;rfl)) (gu Tryz.underlying9)).le (Nat.le_succ _))
  obtain⟨v2,r2,x2⟩:=Y1 (n:=n) (e:=22) (o:=5) (z:=1) Tryz.underlying27 h hm hb 2 _ rfl ⟨rfl,rfl⟩ lx ((eV (b:=16) Tryz.underlying22 lu (by decide) (by decide) (by decide) (fun v=>by first|rfl|(cases v;rfl)) (gu Tryz.underlying9)).le (Nat.le_succ _))
  obtain⟨v3,r3,x3⟩:=Y1 (n:=n) (e:=22) (o:=6) (z:=1) Tryz.underlying27 h hm hb 3 _ rfl ⟨rfl,rfl⟩ lx ((eV (b:=16) Tryz.underlying22 lu (by decide) (by decide) (by decide) (fun v=>by first|rfl|(cases v;rfl)) (gu Tryz.underlying9)).le (Nat.le_succ _))
  have key:Rd w (cs.drop 0) _:=(iY r0 (by first|rfl|(cases v0;rfl)) (iY r1 (by first|rfl|(cases v1;rfl)) (iY r2 (by first|rfl|(cases v2;rfl)) (iY r3 (by first|rfl|(cases v3;rfl)) (DN hl)))))
  refine⟨w8.mk v0 v1 v2 v3,?_,?_⟩
  ·rw[List.drop_zero]at key
   first|exact key|(rw[w8.W6];exact key)|(simp only[u6.W6]at key;exact key)|(rw[w8.W6];simp only[u6.W6]at key;exact key)
  ·exact Fl x1 x2 x3
end Go.Proofs.YtahjhbkhcaphgaaGreatDoor
