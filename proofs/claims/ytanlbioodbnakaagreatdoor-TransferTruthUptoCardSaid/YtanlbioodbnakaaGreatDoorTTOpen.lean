import Derived.KernelRfl
import Derived.Test.YtanlbioodbnakaaGreatDoorTTRead
import Derived.Test.YtanlbioodbnakaaGreatDoorTTLaw3
set_option linter.unusedVariables false
set_option linter.unusedSimpArgs false
namespace Go.Proofs.YtanlbioodbnakaaGreatDoor
open Go Go.Am
theorem GK:Tryz.prog.cellsOf 25=3:=by kernel_rfl
theorem oQ:Tryz.prog.cellsOf 3=1:=by kernel_rfl
theorem GL:Tryz.prog.cellsOf 22=1:=by kernel_rfl
theorem yF:Tryz.prog.cellsOf 58=2:=by kernel_rfl
theorem qW:Tryz.prog.cellsOf 9=1:=by kernel_rfl
theorem OL{H:Type}(enc:TypeId×Value→H)(w:World):∀n,Opens enc Tryz.prog w 58 A0.cells (fun _=>True) n:=by
 intro n
 induction n with
 |zero=>exact Opens.zero
 |succ n ih=>
  intro m hm cs x h hb
  have hl:=mC Tryz.underlying58 h
  rw[yF]at hl
  obtain⟨v0,r0,x0⟩:=N3 (n:=n) (e:=9) (o:=0) (z:=1) Tryz.underlying58 h hm hb 0 _ rfl ⟨rfl,rfl⟩ qW (lN Tryz.underlying9)
  obtain⟨v1,r1,x1⟩:=N3 (n:=n) (e:=3) (o:=1) (z:=1) Tryz.underlying58 h hm hb 1 _ rfl ⟨rfl,rfl⟩ oQ (lV Tryz.underlying3)
  have key:Rd w (cs.drop 0) _:=(ig r0 (by first|rfl|(cases v0;rfl)) (ig r1 (by first|rfl|(cases v1;rfl)) (Cm hl)))
  refine⟨A0.mk v0 v1,?_,?_⟩
  ·rw[List.drop_zero]at key
   first|exact key|(rw[A0.U5];exact key)
  ·trivial
theorem GN:Tryz.prog.cellsOf 23=1:=by kernel_rfl
theorem yG:Tryz.prog.cellsOf 36=3:=by kernel_rfl
theorem GO:Tryz.prog.cellsOf 34=1:=by kernel_rfl
theorem GP:Tryz.prog.cellsOf 62=1:=by kernel_rfl
theorem OM{H:Type}(enc:TypeId×Value→H)(w:World):∀n,Opens enc Tryz.prog w 36 w7.cells (fun v=>v.tuples.length≤1048576) n:=by
 intro n
 induction n with
 |zero=>exact Opens.zero
 |succ n ih=>
  intro m hm cs x h hb
  have hl:=mC Tryz.underlying36 h
  rw[yG]at hl
  obtain⟨v0,r0,x0⟩:=N3 (n:=n) (e:=9) (o:=0) (z:=1) Tryz.underlying36 h hm hb 0 _ rfl ⟨rfl,rfl⟩ qW (lN Tryz.underlying9)
  obtain⟨v1,r1,x1⟩:=N3 (n:=n) (e:=3) (o:=1) (z:=1) Tryz.underlying36 h hm hb 1 _ rfl ⟨rfl,rfl⟩ oQ (lV Tryz.underlying3)
  obtain⟨v2,r2,x2⟩:=N3 (n:=n) (e:=34) (o:=2) (z:=1) Tryz.underlying36 h hm hb 2 _ rfl ⟨rfl,rfl⟩ GO ((gb (b:=24) Tryz.underlying34 GP (by decide) (by decide) (by decide) (fun v=>by first|rfl|(cases v;rfl)) ((gb (b:=8) Tryz.underlying62 oQ (by decide) (by decide) (by decide) (fun v=>by first|rfl|(cases v;rfl)) (lV Tryz.underlying3)).le (Nat.le_succ _))).le (Nat.le_succ _))
  have key:Rd w (cs.drop 0) _:=(ig r0 (by first|rfl|(cases v0;rfl)) (ig r1 (by first|rfl|(cases v1;rfl)) (ig r2 (by first|rfl|(cases v2;rfl)) (Cm hl))))
  refine⟨w7.mk v0 v1 v2,?_,?_⟩
  ·rw[List.drop_zero]at key
   first|exact key|(rw[w7.U5];exact key)
  ·exact x2.1
theorem NY{H:Type}(enc:TypeId×Value→H)(w:World):∀n,Opens enc Tryz.prog w 25 B4.cells (fun v=>∀r∈v.relations,r.tuples.length≤1048576) n:=by
 intro n
 induction n with
 |zero=>exact Opens.zero
 |succ n ih=>
  intro m hm cs x h hb
  have hl:=mC Tryz.underlying25 h
  rw[GK]at hl
  obtain⟨v0,r0,x0⟩:=N3 (n:=n) (e:=3) (o:=0) (z:=1) Tryz.underlying25 h hm hb 0 _ rfl ⟨rfl,rfl⟩ oQ (lV Tryz.underlying3)
  obtain⟨v1,r1,x1⟩:=N3 (n:=n) (e:=22) (o:=1) (z:=1) Tryz.underlying25 h hm hb 1 _ rfl ⟨rfl,rfl⟩ GL ((gb (b:=24) Tryz.underlying22 yF (by decide) (by decide) (by decide) (fun v=>by first|rfl|(cases v;rfl)) (OL enc w n)).le (Nat.le_succ _))
  obtain⟨v2,r2,x2⟩:=N3 (n:=n) (e:=23) (o:=2) (z:=1) Tryz.underlying25 h hm hb 2 _ rfl ⟨rfl,rfl⟩ GN ((gb (b:=48) Tryz.underlying23 yG (by decide) (by decide) (by decide) (fun v=>by first|rfl|(cases v;rfl)) (OM enc w n)).le (Nat.le_succ _))
  have key:Rd w (cs.drop 0) _:=(ig r0 (by first|rfl|(cases v0;rfl)) (ig r1 (by first|rfl|(cases v1;rfl)) (ig r2 (by first|rfl|(cases v2;rfl)) (Cm hl))))
  refine⟨B4.mk v0 v1 v2,?_,?_⟩
  ·rw[List.drop_zero]at key
   first|exact key|(rw[B4.U5];exact key)
  ·exact x2.2
theorem yH:Tryz.prog.cellsOf 29=4:=by kernel_rfl
theorem GQ:Tryz.prog.cellsOf 26=1:=by kernel_rfl
theorem GR:Tryz.prog.cellsOf 27=1:=by kernel_rfl
theorem NZ{H:Type}(enc:TypeId×Value→H)(w:World):∀n,Opens enc Tryz.prog w 29 u5.cells (fun _=>True) n:=by
 intro n
 induction n with
 |zero=>exact Opens.zero
 |succ n ih=>
  intro m hm cs x h hb
  have hl:=mC Tryz.underlying29 h
  rw[yH]at hl
  obtain⟨v0,r0,x0⟩:=N3 (n:=n) (e:=3) (o:=0) (z:=1) Tryz.underlying29 h hm hb 0 _ rfl ⟨rfl,rfl⟩ oQ (lV Tryz.underlying3)
  obtain⟨v1,r1,x1⟩:=N3 (n:=n) (e:=9) (o:=1) (z:=1) Tryz.underlying29 h hm hb 1 _ rfl ⟨rfl,rfl⟩ qW (lN Tryz.underlying9)
  obtain⟨v2,r2,x2⟩:=N3 (n:=n) (e:=26) (o:=2) (z:=1) Tryz.underlying29 h hm hb 2 _ rfl ⟨rfl,rfl⟩ GQ ((gb (b:=16) Tryz.underlying26 qW (by decide) (by decide) (by decide) (fun v=>by first|rfl|(cases v;rfl)) (lN Tryz.underlying9)).le (Nat.le_succ _))
  obtain⟨v3,r3,x3⟩:=N3 (n:=n) (e:=27) (o:=3) (z:=1) Tryz.underlying29 h hm hb 3 _ rfl ⟨rfl,rfl⟩ GR ((gb (b:=72) Tryz.underlying27 yH (by decide) (by decide) (by decide) (fun v=>by first|rfl|(cases v;rfl)) ih).le (Nat.le_succ _))
  have key:Rd w (cs.drop 0) _:=(ig r0 (by first|rfl|(cases v0;rfl)) (ig r1 (by first|rfl|(cases v1;rfl)) (ig r2 (by first|rfl|(cases v2;rfl)) (ig r3 (by first|rfl|(cases v3;rfl)) (Cm hl)))))
  refine⟨u5.mk v0 v1 v2 v3,?_,?_⟩
  ·rw[List.drop_zero]at key
   first|exact key|(rw[u5.U5];exact key)
  ·trivial
end Go.Proofs.YtanlbioodbnakaaGreatDoor
