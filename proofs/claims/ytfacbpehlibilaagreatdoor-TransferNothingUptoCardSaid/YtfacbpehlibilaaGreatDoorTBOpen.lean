import Derived.KernelRfl
import Derived.Test.YtfacbpehlibilaaGreatDoorTBRead
import Derived.Test.YtfacbpehlibilaaGreatDoorTBLaw3
set_option linter.unusedVariables false
set_option linter.unusedSimpArgs false
namespace Go.Proofs.YtfacbpehlibilaaGreatDoor
open Go Go.Am
theorem d6C:Tryz.prog.cellsOf 31=4:=by kernel_rfl
theorem i3A:Tryz.prog.cellsOf 3=1:=by kernel_rfl
theorem d8V:Tryz.prog.cellsOf 9=1:=by kernel_rfl
theorem i1Z:Tryz.prog.cellsOf 28=1:=by kernel_rfl
theorem i2a:Tryz.prog.cellsOf 29=1:=by kernel_rfl
theorem i4a{H:Type}(enc:TypeId×Value→H)(w:World):∀n,Opens enc Tryz.prog w 31 Ox.cells (fun _=>True) n:=by
 intro n
 induction n with
 |zero=>exact Opens.zero
 |succ n ih=>
  intro m hm cs x h hb
  have hl:=d9G Tryz.underlying31 h
  rw[d6C]at hl
  obtain⟨v0,r0,x0⟩:=XL (n:=n) (e:=3) (o:=0) (z:=1) Tryz.underlying31 h hm hb 0 _ rfl ⟨rfl,rfl⟩ i3A (i2b Tryz.underlying3)
  obtain⟨v1,r1,x1⟩:=XL (n:=n) (e:=9) (o:=1) (z:=1) Tryz.underlying31 h hm hb 1 _ rfl ⟨rfl,rfl⟩ d8V (d6D Tryz.underlying9)
  obtain⟨v2,r2,x2⟩:=XL (n:=n) (e:=28) (o:=2) (z:=1) Tryz.underlying31 h hm hb 2 _ rfl ⟨rfl,rfl⟩ i1Z ((d3D (b:=16) Tryz.underlying28 d8V (by decide) (by decide) (by decide) (fun v=>by first|rfl|(cases v;rfl)) (d6D Tryz.underlying9)).le (Nat.le_succ _))
  obtain⟨v3,r3,x3⟩:=XL (n:=n) (e:=29) (o:=3) (z:=1) Tryz.underlying31 h hm hb 3 _ rfl ⟨rfl,rfl⟩ i2a ((d3D (b:=72) Tryz.underlying29 d6C (by decide) (by decide) (by decide) (fun v=>by first|rfl|(cases v;rfl)) ih).le (Nat.le_succ _))
  have key:Rd w (cs.drop 0) _:=(d5B r0 (by first|rfl|(cases v0;rfl)) (d5B r1 (by first|rfl|(cases v1;rfl)) (d5B r2 (by first|rfl|(cases v2;rfl)) (d5B r3 (by first|rfl|(cases v3;rfl)) (i8b hl)))))
  refine⟨Ox.mk v0 v1 v2 v3,?_,?_⟩
  ·rw[List.drop_zero]at key
   first|exact key|(rw[Ox.TN];exact key)
  ·trivial
end Go.Proofs.YtfacbpehlibilaaGreatDoor
