import Derived.KernelRfl
import Derived.Test.YtdjnbjnlnjhllaaGreatDoorFIRead
import Derived.Test.YtdjnbjnlnjhllaaGreatDoorFILaw3
set_option linter.unusedVariables false
set_option linter.unusedSimpArgs false
namespace Go.Proofs.YtdjnbjnlnjhllaaGreatDoor
open Go Go.Am
theorem y8p:Tryz.prog.cellsOf 27=7:=by kernel_rfl
theorem x7v:Tryz.prog.cellsOf 25=4:=by kernel_rfl
theorem y9U:Tryz.prog.cellsOf 3=1:=by kernel_rfl
theorem x5c:Tryz.prog.cellsOf 9=1:=by kernel_rfl
theorem x7w:Tryz.prog.cellsOf 22=1:=by kernel_rfl
theorem y8q:Tryz.prog.cellsOf 23=1:=by kernel_rfl
theorem z0F{H:Type}(enc:TypeId×Value→H)(w:World):∀n,Opens enc Tryz.prog w 25 w3T.cells (fun _=>True) n:=by
 intro n
 induction n with
 |zero=>exact Opens.zero
 |succ n ih=>
  intro m hm cs x h hb
  have hl:=x7Y Tryz.underlying25 h
  rw[x7v]at hl
  obtain⟨v0,r0,x0⟩:=w7v (n:=n) (e:=3) (o:=0) (z:=1) Tryz.underlying25 h hm hb 0 _ rfl ⟨rfl,rfl⟩ y9U (y8r Tryz.underlying3)
  obtain⟨v1,r1,x1⟩:=w7v (n:=n) (e:=9) (o:=1) (z:=1) Tryz.underlying25 h hm hb 1 _ rfl ⟨rfl,rfl⟩ x5c (x3K Tryz.underlying9)
  obtain⟨v2,r2,x2⟩:=w7v (n:=n) (e:=22) (o:=2) (z:=1) Tryz.underlying25 h hm hb 2 _ rfl ⟨rfl,rfl⟩ x7w ((x2i (b:=16) Tryz.underlying22 x5c (by decide) (by decide) (by decide) (fun v=>by first|rfl|(cases v;rfl)) (x3K Tryz.underlying9)).le (Nat.le_succ _))
  obtain⟨v3,r3,x3⟩:=w7v (n:=n) (e:=23) (o:=3) (z:=1) Tryz.underlying25 h hm hb 3 _ rfl ⟨rfl,rfl⟩ y8q ((x2i (b:=72) Tryz.underlying23 x7v (by decide) (by decide) (by decide) (fun v=>by first|rfl|(cases v;rfl)) ih).le (Nat.le_succ _))
  have key:Rd w (cs.drop 0) _:=(x3L r0 (by first|rfl|(cases v0;rfl)) (x3L r1 (by first|rfl|(cases v1;rfl)) (x3L r2 (by first|rfl|(cases v2;rfl)) (x3L r3 (by first|rfl|(cases v3;rfl)) (y8s hl)))))
  refine⟨w3T.mk v0 v1 v2 v3,?_,?_⟩
  ·rw[List.drop_zero]at key
   first|exact key|(rw[w3T.w8K];exact key)
  ·trivial
theorem z3P{H:Type}(enc:TypeId×Value→H)(w:World):∀n,Opens enc Tryz.prog w 27 w3W.cells (SB) n:=by
 intro n
 induction n with
 |zero=>exact Opens.zero
 |succ n ih=>
  intro m hm cs x h hb
  have hl:=x7Y Tryz.underlying27 h
  rw[y8p]at hl
  obtain⟨v0,r0,x0⟩:=w7v (n:=n) (e:=25) (o:=0) (z:=4) Tryz.underlying27 h hm hb 0 _ rfl ⟨rfl,rfl⟩ x7v (z0F enc w n)
  obtain⟨v1,r1,x1⟩:=w7v (n:=n) (e:=22) (o:=4) (z:=1) Tryz.underlying27 h hm hb 1 _ rfl ⟨rfl,rfl⟩ x7w ((x2i (b:=16) Tryz.underlying22 x5c (by decide) (by decide) (by decide) (fun v=>by first|rfl|(cases v;rfl)) (x3K Tryz.underlying9)).le (Nat.le_succ _))
  obtain⟨v2,r2,x2⟩:=w7v (n:=n) (e:=22) (o:=5) (z:=1) Tryz.underlying27 h hm hb 2 _ rfl ⟨rfl,rfl⟩ x7w ((x2i (b:=16) Tryz.underlying22 x5c (by decide) (by decide) (by decide) (fun v=>by first|rfl|(cases v;rfl)) (x3K Tryz.underlying9)).le (Nat.le_succ _))
  obtain⟨v3,r3,x3⟩:=w7v (n:=n) (e:=22) (o:=6) (z:=1) Tryz.underlying27 h hm hb 3 _ rfl ⟨rfl,rfl⟩ x7w ((x2i (b:=16) Tryz.underlying22 x5c (by decide) (by decide) (by decide) (fun v=>by first|rfl|(cases v;rfl)) (x3K Tryz.underlying9)).le (Nat.le_succ _))
  have key:Rd w (cs.drop 0) _:=(x3L r0 (by first|rfl|(cases v0;rfl)) (x3L r1 (by first|rfl|(cases v1;rfl)) (x3L r2 (by first|rfl|(cases v2;rfl)) (x3L r3 (by first|rfl|(cases v3;rfl)) (y8s hl)))))
  refine⟨w3W.mk v0 v1 v2 v3,?_,?_⟩
  ·rw[List.drop_zero]at key
   first|exact key|(rw[w3W.w8K];exact key)|(simp only[w3T.w8K]at key;exact key)|(rw[w3W.w8K];simp only[w3T.w8K]at key;exact key)
  ·exact z6p x1 x2 x3
theorem y2o:Tryz.prog.cellsOf 61=6:=by kernel_rfl
theorem z3Q{H:Type}(enc:TypeId×Value→H)(w:World):∀n,Opens enc Tryz.prog w 61 w3V.cells (fun v=>v.text.length≤1048576) n:=by
 intro n
 induction n with
 |zero=>exact Opens.zero
 |succ n ih=>
  intro m hm cs x h hb
  have hl:=x7Y Tryz.underlying61 h
  rw[y2o]at hl
  obtain⟨v0,r0,x0⟩:=w7v (n:=n) (e:=9) (o:=0) (z:=1) Tryz.underlying61 h hm hb 0 _ rfl ⟨rfl,rfl⟩ x5c (x3K Tryz.underlying9)
  obtain⟨v1,r1,x1⟩:=w7v (n:=n) (e:=9) (o:=1) (z:=1) Tryz.underlying61 h hm hb 1 _ rfl ⟨rfl,rfl⟩ x5c (x3K Tryz.underlying9)
  obtain⟨v2,r2,x2⟩:=w7v (n:=n) (e:=25) (o:=2) (z:=4) Tryz.underlying61 h hm hb 2 _ rfl ⟨rfl,rfl⟩ x7v (z0F enc w n)
  have key:Rd w (cs.drop 0) _:=(x3L r0 (by first|rfl|(cases v0;rfl)) (x3L r1 (by first|rfl|(cases v1;rfl)) (x3L r2 (by first|rfl|(cases v2;rfl)) (y8s hl))))
  refine⟨w3V.mk v0 v1 v2,?_,?_⟩
  ·rw[List.drop_zero]at key
   first|exact key|(rw[w3V.w8K];exact key)|(simp only[w3T.w8K]at key;exact key)|(rw[w3V.w8K];simp only[w3T.w8K]at key;exact key)
  ·exact x1
end Go.Proofs.YtdjnbjnlnjhllaaGreatDoor
