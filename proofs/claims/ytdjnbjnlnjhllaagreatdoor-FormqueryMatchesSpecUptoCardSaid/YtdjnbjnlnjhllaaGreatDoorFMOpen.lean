import Derived.KernelRfl
import Derived.Test.YtdjnbjnlnjhllaaGreatDoorFMRead
import Derived.Test.YtdjnbjnlnjhllaaGreatDoorFMLaw3
set_option linter.unusedVariables false
set_option linter.unusedSimpArgs false
namespace Go.Proofs.YtdjnbjnlnjhllaaGreatDoor
open Go Go.Am
theorem r3E:Tryz.prog.cellsOf 25=4:=by kernel_rfl
theorem u3H:Tryz.prog.cellsOf 3=1:=by kernel_rfl
theorem r1k:Tryz.prog.cellsOf 9=1:=by kernel_rfl
theorem r1l:Tryz.prog.cellsOf 22=1:=by kernel_rfl
theorem u2e:Tryz.prog.cellsOf 23=1:=by kernel_rfl
theorem u4e{H:Type}(enc:TypeId×Value→H)(w:World):∀n,Opens enc Tryz.prog w 25 i8F.cells (fun _=>True) n:=by
 intro n
 induction n with
 |zero=>exact Opens.zero
 |succ n ih=>
  intro m hm cs x h hb
  have hl:=r4u Tryz.underlying25 h
  rw[r3E]at hl
  obtain⟨v0,r0,x0⟩:=p4f (n:=n) (e:=3) (o:=0) (z:=1) Tryz.underlying25 h hm hb 0 _ rfl ⟨rfl,rfl⟩ u3H (u2f Tryz.underlying3)
  obtain⟨v1,r1,x1⟩:=p4f (n:=n) (e:=9) (o:=1) (z:=1) Tryz.underlying25 h hm hb 1 _ rfl ⟨rfl,rfl⟩ r1k (p9A Tryz.underlying9)
  obtain⟨v2,r2,x2⟩:=p4f (n:=n) (e:=22) (o:=2) (z:=1) Tryz.underlying25 h hm hb 2 _ rfl ⟨rfl,rfl⟩ r1l ((p7t (b:=16) Tryz.underlying22 r1k (by decide) (by decide) (by decide) (fun v=>by first|rfl|(cases v;rfl)) (p9A Tryz.underlying9)).le (Nat.le_succ _))
  obtain⟨v3,r3,x3⟩:=p4f (n:=n) (e:=23) (o:=3) (z:=1) Tryz.underlying25 h hm hb 3 _ rfl ⟨rfl,rfl⟩ u2e ((p7t (b:=72) Tryz.underlying23 r3E (by decide) (by decide) (by decide) (fun v=>by first|rfl|(cases v;rfl)) ih).le (Nat.le_succ _))
  have key:Rd w (cs.drop 0) _:=(p9B r0 (by first|rfl|(cases v0;rfl)) (p9B r1 (by first|rfl|(cases v1;rfl)) (p9B r2 (by first|rfl|(cases v2;rfl)) (p9B r3 (by first|rfl|(cases v3;rfl)) (u4v hl)))))
  refine⟨i8F.mk v0 v1 v2 v3,?_,?_⟩
  ·rw[List.drop_zero]at key
   first|exact key|(rw[i8F.p3n];exact key)
  ·trivial
theorem u2g:Tryz.prog.cellsOf 27=7:=by kernel_rfl
theorem u7B{H:Type}(enc:TypeId×Value→H)(w:World):∀n,Opens enc Tryz.prog w 27 i8I.cells (SB) n:=by
 intro n
 induction n with
 |zero=>exact Opens.zero
 |succ n ih=>
  intro m hm cs x h hb
  have hl:=r4u Tryz.underlying27 h
  rw[u2g]at hl
  obtain⟨v0,r0,x0⟩:=p4f (n:=n) (e:=25) (o:=0) (z:=4) Tryz.underlying27 h hm hb 0 _ rfl ⟨rfl,rfl⟩ r3E (u4e enc w n)
  obtain⟨v1,r1,x1⟩:=p4f (n:=n) (e:=22) (o:=4) (z:=1) Tryz.underlying27 h hm hb 1 _ rfl ⟨rfl,rfl⟩ r1l ((p7t (b:=16) Tryz.underlying22 r1k (by decide) (by decide) (by decide) (fun v=>by first|rfl|(cases v;rfl)) (p9A Tryz.underlying9)).le (Nat.le_succ _))
  obtain⟨v2,r2,x2⟩:=p4f (n:=n) (e:=22) (o:=5) (z:=1) Tryz.underlying27 h hm hb 2 _ rfl ⟨rfl,rfl⟩ r1l ((p7t (b:=16) Tryz.underlying22 r1k (by decide) (by decide) (by decide) (fun v=>by first|rfl|(cases v;rfl)) (p9A Tryz.underlying9)).le (Nat.le_succ _))
  obtain⟨v3,r3,x3⟩:=p4f (n:=n) (e:=22) (o:=6) (z:=1) Tryz.underlying27 h hm hb 3 _ rfl ⟨rfl,rfl⟩ r1l ((p7t (b:=16) Tryz.underlying22 r1k (by decide) (by decide) (by decide) (fun v=>by first|rfl|(cases v;rfl)) (p9A Tryz.underlying9)).le (Nat.le_succ _))
  have key:Rd w (cs.drop 0) _:=(p9B r0 (by first|rfl|(cases v0;rfl)) (p9B r1 (by first|rfl|(cases v1;rfl)) (p9B r2 (by first|rfl|(cases v2;rfl)) (p9B r3 (by first|rfl|(cases v3;rfl)) (u4v hl)))))
  refine⟨i8I.mk v0 v1 v2 v3,?_,?_⟩
  ·rw[List.drop_zero]at key
   first|exact key|(rw[i8I.p3n];exact key)|(simp only[i8F.p3n]at key;exact key)|(rw[i8I.p3n];simp only[i8F.p3n]at key;exact key)
  ·exact u9U x1 x2 x3
end Go.Proofs.YtdjnbjnlnjhllaaGreatDoor
