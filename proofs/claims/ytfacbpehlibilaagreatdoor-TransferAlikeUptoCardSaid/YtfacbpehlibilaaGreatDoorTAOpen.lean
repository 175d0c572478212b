import Derived.KernelRfl
import Derived.Test.YtfacbpehlibilaaGreatDoorTARead
import Derived.Test.YtfacbpehlibilaaGreatDoorTALaw3
set_option linter.unusedVariables false
set_option linter.unusedSimpArgs false
namespace Go.Proofs.YtfacbpehlibilaaGreatDoor
open Go Go.Am
theorem i3W:Tryz.prog.cellsOf 49=11:=by kernel_rfl
theorem i4H:Tryz.prog.cellsOf 47=7:=by kernel_rfl
theorem d7I:Tryz.prog.cellsOf 31=4:=by kernel_rfl
theorem p3o:Tryz.prog.cellsOf 3=1:=by kernel_rfl
theorem d7J:Tryz.prog.cellsOf 9=1:=by kernel_rfl
theorem d7K:Tryz.prog.cellsOf 28=1:=by kernel_rfl
theorem p1y:Tryz.prog.cellsOf 29=1:=by kernel_rfl
theorem p0f{H:Type}(enc:TypeId×Value→H)(w:World):∀n,Opens enc Tryz.prog w 31 Lr.cells (fun _=>True) n:=by
 intro n
 induction n with
 |zero=>exact Opens.zero
 |succ n ih=>
  intro m hm cs x h hb
  have hl:=d8u Tryz.underlying31 h
  rw[d7I]at hl
  obtain⟨v0,r0,x0⟩:=Zm (n:=n) (e:=3) (o:=0) (z:=1) Tryz.underlying31 h hm hb 0 _ rfl ⟨rfl,rfl⟩ p3o (p1z Tryz.underlying3)
  obtain⟨v1,r1,x1⟩:=Zm (n:=n) (e:=9) (o:=1) (z:=1) Tryz.underlying31 h hm hb 1 _ rfl ⟨rfl,rfl⟩ d7J (d5X Tryz.underlying9)
  obtain⟨v2,r2,x2⟩:=Zm (n:=n) (e:=28) (o:=2) (z:=1) Tryz.underlying31 h hm hb 2 _ rfl ⟨rfl,rfl⟩ d7K ((d3d (b:=16) Tryz.underlying28 d7J (by decide) (by decide) (by decide) (fun v=>by first|rfl|(cases v;rfl)) (d5X Tryz.underlying9)).le (Nat.le_succ _))
  obtain⟨v3,r3,x3⟩:=Zm (n:=n) (e:=29) (o:=3) (z:=1) Tryz.underlying31 h hm hb 3 _ rfl ⟨rfl,rfl⟩ p1y ((d3d (b:=72) Tryz.underlying29 d7I (by decide) (by decide) (by decide) (fun v=>by first|rfl|(cases v;rfl)) ih).le (Nat.le_succ _))
  have key:Rd w (cs.drop 0) _:=(d4F r0 (by first|rfl|(cases v0;rfl)) (d4F r1 (by first|rfl|(cases v1;rfl)) (d4F r2 (by first|rfl|(cases v2;rfl)) (d4F r3 (by first|rfl|(cases v3;rfl)) (p1A hl)))))
  refine⟨Lr.mk v0 v1 v2 v3,?_,?_⟩
  ·rw[List.drop_zero]at key
   first|exact key|(rw[Lr.Yw];exact key)
  ·trivial
theorem p8u{H:Type}(enc:TypeId×Value→H)(w:World):∀n,Opens enc Tryz.prog w 47 Wu.cells (SB) n:=by
 intro n
 induction n with
 |zero=>exact Opens.zero
 |succ n ih=>
  intro m hm cs x h hb
  have hl:=d8u Tryz.underlying47 h
  rw[i4H]at hl
  obtain⟨v0,r0,x0⟩:=Zm (n:=n) (e:=31) (o:=0) (z:=4) Tryz.underlying47 h hm hb 0 _ rfl ⟨rfl,rfl⟩ d7I (p0f enc w n)
  obtain⟨v1,r1,x1⟩:=Zm (n:=n) (e:=28) (o:=4) (z:=1) Tryz.underlying47 h hm hb 1 _ rfl ⟨rfl,rfl⟩ d7K ((d3d (b:=16) Tryz.underlying28 d7J (by decide) (by decide) (by decide) (fun v=>by first|rfl|(cases v;rfl)) (d5X Tryz.underlying9)).le (Nat.le_succ _))
  obtain⟨v2,r2,x2⟩:=Zm (n:=n) (e:=28) (o:=5) (z:=1) Tryz.underlying47 h hm hb 2 _ rfl ⟨rfl,rfl⟩ d7K ((d3d (b:=16) Tryz.underlying28 d7J (by decide) (by decide) (by decide) (fun v=>by first|rfl|(cases v;rfl)) (d5X Tryz.underlying9)).le (Nat.le_succ _))
  obtain⟨v3,r3,x3⟩:=Zm (n:=n) (e:=28) (o:=6) (z:=1) Tryz.underlying47 h hm hb 3 _ rfl ⟨rfl,rfl⟩ d7K ((d3d (b:=16) Tryz.underlying28 d7J (by decide) (by decide) (by decide) (fun v=>by first|rfl|(cases v;rfl)) (d5X Tryz.underlying9)).le (Nat.le_succ _))
  have key:Rd w (cs.drop 0) _:=(d4F r0 (by first|rfl|(cases v0;rfl)) (d4F r1 (by first|rfl|(cases v1;rfl)) (d4F r2 (by first|rfl|(cases v2;rfl)) (d4F r3 (by first|rfl|(cases v3;rfl)) (p1A hl)))))
  refine⟨Wu.mk v0 v1 v2 v3,?_,?_⟩
  ·rw[List.drop_zero]at key
   first|exact key|(rw[Wu.Yw];exact key)|(simp only[Lr.Yw]at key;exact key)|(rw[Wu.Yw];simp only[Lr.Yw]at key;exact key)
  ·exact r0o x1 x2 x3
theorem p7P{H:Type}(enc:TypeId×Value→H)(w:World):∀n,Opens enc Tryz.prog w 49 Wq.cells (fun v=>SB v.from_) n:=by
 intro n
 induction n with
 |zero=>exact Opens.zero
 |succ n ih=>
  intro m hm cs x h hb
  have hl:=d8u Tryz.underlying49 h
  rw[i3W]at hl
  obtain⟨v0,r0,x0⟩:=Zm (n:=n) (e:=47) (o:=0) (z:=7) Tryz.underlying49 h hm hb 0 _ rfl ⟨rfl,rfl⟩ i4H (p8u enc w n)
  obtain⟨v1,r1,x1⟩:=Zm (n:=n) (e:=31) (o:=7) (z:=4) Tryz.underlying49 h hm hb 1 _ rfl ⟨rfl,rfl⟩ d7I (p0f enc w n)
  have key:Rd w (cs.drop 0) _:=(d4F r0 (by first|rfl|(cases v0;rfl)) (d4F r1 (by first|rfl|(cases v1;rfl)) (p1A hl)))
  refine⟨Wq.mk v0 v1,?_,?_⟩
  ·rw[List.drop_zero]at key
   first|exact key|(rw[Wq.Yw];exact key)|(simp only[Wu.Yw,Lr.Yw]at key;exact key)|(rw[Wq.Yw];simp only[Wu.Yw,Lr.Yw]at key;exact key)
  ·exact x0
end Go.Proofs.YtfacbpehlibilaaGreatDoor
