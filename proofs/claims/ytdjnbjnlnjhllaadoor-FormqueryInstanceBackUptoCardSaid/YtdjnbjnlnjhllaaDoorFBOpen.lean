import Derived.KernelRfl
import Derived.Test.YtdjnbjnlnjhllaaDoorFBRead
import Derived.Test.YtdjnbjnlnjhllaaDoorFBLaw3
set_option linter.unusedVariables false
set_option linter.unusedSimpArgs false
namespace Go.Proofs.YtdjnbjnlnjhllaaDoor
open Go Go.Am
theorem Zx:Tryd.prog.cellsOf 25=4:=by kernel_rfl
theorem d9e:Tryd.prog.cellsOf 3=1:=by kernel_rfl
theorem Xh:Tryd.prog.cellsOf 9=1:=by kernel_rfl
theorem Xi:Tryd.prog.cellsOf 22=1:=by kernel_rfl
theorem d7J:Tryd.prog.cellsOf 23=1:=by kernel_rfl
theorem d9B{H:Type}(enc:TypeId×Value→H)(w:World):∀n,Opens enc Tryd.prog w 25 LZ.cells (fun _=>True) n:=by
 intro n
 induction n with
 |zero=>exact Opens.zero
 |succ n ih=>
  intro m hm cs x h hb
  have hl:=d0n Tryd.underlying25 h
  rw[Zx]at hl
  obtain⟨v0,r0,x0⟩:=Px (n:=n) (e:=3) (o:=0) (z:=1) Tryd.underlying25 h hm hb 0 _ rfl ⟨rfl,rfl⟩ d9e (d7K Tryd.underlying3)
  obtain⟨v1,r1,x1⟩:=Px (n:=n) (e:=9) (o:=1) (z:=1) Tryd.underlying25 h hm hb 1 _ rfl ⟨rfl,rfl⟩ Xh (Vy Tryd.underlying9)
  obtain⟨v2,r2,x2⟩:=Px (n:=n) (e:=22) (o:=2) (z:=1) Tryd.underlying25 h hm hb 2 _ rfl ⟨rfl,rfl⟩ Xi ((Tq (b:=16) Tryd.underlying22 Xh (by decide) (by decide) (by decide) (fun v=>by first|rfl|(cases v;rfl)) (Vy Tryd.underlying9)).le (Nat.le_succ _))
  obtain⟨v3,r3,x3⟩:=Px (n:=n) (e:=23) (o:=3) (z:=1) Tryd.underlying25 h hm hb 3 _ rfl ⟨rfl,rfl⟩ d7J ((Tq (b:=72) Tryd.underlying23 Zx (by decide) (by decide) (by decide) (fun v=>by first|rfl|(cases v;rfl)) ih).le (Nat.le_succ _))
  have key:Rd w (cs.drop 0) _:=(Vz r0 (by first|rfl|(cases v0;rfl)) (Vz r1 (by first|rfl|(cases v1;rfl)) (Vz r2 (by first|rfl|(cases v2;rfl)) (Vz r3 (by first|rfl|(cases v3;rfl)) (d9M hl)))))
  refine⟨LZ.mk v0 v1 v2 v3,?_,?_⟩
  ·rw[List.drop_zero]at key
   first|exact key|(rw[LZ.PA];exact key)
  ·trivial
theorem d7L:Tryd.prog.cellsOf 27=7:=by kernel_rfl
theorem i2Q{H:Type}(enc:TypeId×Value→H)(w:World):∀n,Opens enc Tryd.prog w 27 Mb.cells (SB) n:=by
 intro n
 induction n with
 |zero=>exact Opens.zero
 |succ n ih=>
  intro m hm cs x h hb
  have hl:=d0n Tryd.underlying27 h
  rw[d7L]at hl
  obtain⟨v0,r0,x0⟩:=Px (n:=n) (e:=25) (o:=0) (z:=4) Tryd.underlying27 h hm hb 0 _ rfl ⟨rfl,rfl⟩ Zx (d9B enc w n)
  obtain⟨v1,r1,x1⟩:=Px (n:=n) (e:=22) (o:=4) (z:=1) Tryd.underlying27 h hm hb 1 _ rfl ⟨rfl,rfl⟩ Xi ((Tq (b:=16) Tryd.underlying22 Xh (by decide) (by decide) (by decide) (fun v=>by first|rfl|(cases v;rfl)) (Vy Tryd.underlying9)).le (Nat.le_succ _))
  obtain⟨v2,r2,x2⟩:=Px (n:=n) (e:=22) (o:=5) (z:=1) Tryd.underlying27 h hm hb 2 _ rfl ⟨rfl,rfl⟩ Xi ((Tq (b:=16) Tryd.underlying22 Xh (by decide) (by decide) (by decide) (fun v=>by first|rfl|(cases v;rfl)) (Vy Tryd.underlying9)).le (Nat.le_succ _))
  obtain⟨v3,r3,x3⟩:=Px (n:=n) (e:=22) (o:=6) (z:=1) Tryd.underlying27 h hm hb 3 _ rfl ⟨rfl,rfl⟩ Xi ((Tq (b:=16) Tryd.underlying22 Xh (by decide) (by decide) (by decide) (fun v=>by first|rfl|(cases v;rfl)) (Vy Tryd.underlying9)).le (Nat.le_succ _))
  have key:Rd w (cs.drop 0) _:=(Vz r0 (by first|rfl|(cases v0;rfl)) (Vz r1 (by first|rfl|(cases v1;rfl)) (Vz r2 (by first|rfl|(cases v2;rfl)) (Vz r3 (by first|rfl|(cases v3;rfl)) (d9M hl)))))
  refine⟨Mb.mk v0 v1 v2 v3,?_,?_⟩
  ·rw[List.drop_zero]at key
   first|exact key|(rw[Mb.PA];exact key)|(simp only[LZ.PA]at key;exact key)|(rw[Mb.PA];simp only[LZ.PA]at key;exact key)
  ·exact i5b x1 x2 x3
end Go.Proofs.YtdjnbjnlnjhllaaDoor
