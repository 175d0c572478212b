import Derived.KernelRfl
import Derived.Test.YtfacbpehlibilaaGreatDoorTZRead
import Derived.Test.YtfacbpehlibilaaGreatDoorTZLaw3
set_option linter.unusedVariables false
set_option linter.unusedSimpArgs false
namespace Go.Proofs.YtfacbpehlibilaaGreatDoor
open Go Go.Am
theorem yq:Tryz.prog.cellsOf 49=11:=by kernel_rfl
theorem ze:Tryz.prog.cellsOf 47=7:=by kernel_rfl
theorem om:Tryz.prog.cellsOf 31=4:=by kernel_rfl
theorem IU:Tryz.prog.cellsOf 3=1:=by kernel_rfl
theorem oo:Tryz.prog.cellsOf 9=1:=by kernel_rfl
theorem oq:Tryz.prog.cellsOf 28=1:=by kernel_rfl
theorem GS:Tryz.prog.cellsOf 29=1:=by kernel_rfl
theorem yr{H:Type}(enc:TypeId×Value→H)(w:World):∀n,Opens enc Tryz.prog w 31 u5.cells (fun _=>True) n:=by
 intro n
 induction n with
 |zero=>exact Opens.zero
 |succ n ih=>
  intro m hm cs x h hb
  have hl:=pH Tryz.underlying31 h
  rw[om]at hl
  obtain⟨v0,r0,x0⟩:=T8 (n:=n) (e:=3) (o:=0) (z:=1) Tryz.underlying31 h hm hb 0 _ rfl ⟨rfl,rfl⟩ IU (GU Tryz.underlying3)
  obtain⟨v1,r1,x1⟩:=T8 (n:=n) (e:=9) (o:=1) (z:=1) Tryz.underlying31 h hm hb 1 _ rfl ⟨rfl,rfl⟩ oo (eJ Tryz.underlying9)
  obtain⟨v2,r2,x2⟩:=T8 (n:=n) (e:=28) (o:=2) (z:=1) Tryz.underlying31 h hm hb 2 _ rfl ⟨rfl,rfl⟩ oq ((fL (b:=16) Tryz.underlying28 oo (by decide) (by decide) (by decide) (fun v=>by first|rfl|(cases v;rfl)) (eJ Tryz.underlying9)).le (Nat.le_succ _))
  obtain⟨v3,r3,x3⟩:=T8 (n:=n) (e:=29) (o:=3) (z:=1) Tryz.underlying31 h hm hb 3 _ rfl ⟨rfl,rfl⟩ GS ((fL (b:=72) Tryz.underlying29 om (by decide) (by decide) (by decide) (fun v=>by first|rfl|(cases v;rfl)) ih).le (Nat.le_succ _))
  have key:Rd w (cs.drop 0) _:=(ju r0 (by first|rfl|(cases v0;rfl)) (ju r1 (by first|rfl|(cases v1;rfl)) (ju r2 (by first|rfl|(cases v2;rfl)) (ju r3 (by first|rfl|(cases v3;rfl)) (GV hl)))))
  refine⟨u5.mk v0 v1 v2 v3,?_,?_⟩
  ·rw[List.drop_zero]at key
   first|exact key|(rw[u5.L9];exact key)
  ·trivial
theorem OT{H:Type}(enc:TypeId×Value→H)(w:World):∀n,Opens enc Tryz.prog w 47 w9.cells (SB) n:=by
 intro n
 induction n with
 |zero=>exact Opens.zero
 |succ n ih=>
  intro m hm cs x h hb
  have hl:=pH Tryz.underlying47 h
  rw[ze]at hl
  obtain⟨v0,r0,x0⟩:=T8 (n:=n) (e:=31) (o:=0) (z:=4) Tryz.underlying47 h hm hb 0 _ rfl ⟨rfl,rfl⟩ om (yr enc w n)
  obtain⟨v1,r1,x1⟩:=T8 (n:=n) (e:=28) (o:=4) (z:=1) Tryz.underlying47 h hm hb 1 _ rfl ⟨rfl,rfl⟩ oq ((fL (b:=16) Tryz.underlying28 oo (by decide) (by decide) (by decide) (fun v=>by first|rfl|(cases v;rfl)) (eJ Tryz.underlying9)).le (Nat.le_succ _))
  obtain⟨v2,r2,x2⟩:=T8 (n:=n) (e:=28) (o:=5) (z:=1) Tryz.underlying47 h hm hb 2 _ rfl ⟨rfl,rfl⟩ oq ((fL (b:=16) Tryz.underlying28 oo (by decide) (by decide) (by decide) (fun v=>by first|rfl|(cases v;rfl)) (eJ Tryz.underlying9)).le (Nat.le_succ _))
  obtain⟨v3,r3,x3⟩:=T8 (n:=n) (e:=28) (o:=6) (z:=1) Tryz.underlying47 h hm hb 3 _ rfl ⟨rfl,rfl⟩ oq ((fL (b:=16) Tryz.underlying28 oo (by decide) (by decide) (by decide) (fun v=>by first|rfl|(cases v;rfl)) (eJ Tryz.underlying9)).le (Nat.le_succ _))
  have key:Rd w (cs.drop 0) _:=(ju r0 (by first|rfl|(cases v0;rfl)) (ju r1 (by first|rfl|(cases v1;rfl)) (ju r2 (by first|rfl|(cases v2;rfl)) (ju r3 (by first|rfl|(cases v3;rfl)) (GV hl)))))
  refine⟨w9.mk v0 v1 v2 v3,?_,?_⟩
  ·rw[List.drop_zero]at key
   first|exact key|(rw[w9.L9];exact key)|(simp only[u5.L9]at key;exact key)|(rw[w9.L9];simp only[u5.L9]at key;exact key)
  ·exact QW x1 x2 x3
theorem Od{H:Type}(enc:TypeId×Value→H)(w:World):∀n,Opens enc Tryz.prog w 49 u6.cells (fun v=>SB v.from_) n:=by
 intro n
 induction n with
 |zero=>exact Opens.zero
 |succ n ih=>
  intro m hm cs x h hb
  have hl:=pH Tryz.underlying49 h
  rw[yq]at hl
  obtain⟨v0,r0,x0⟩:=T8 (n:=n) (e:=47) (o:=0) (z:=7) Tryz.underlying49 h hm hb 0 _ rfl ⟨rfl,rfl⟩ ze (OT enc w n)
  obtain⟨v1,r1,x1⟩:=T8 (n:=n) (e:=31) (o:=7) (z:=4) Tryz.underlying49 h hm hb 1 _ rfl ⟨rfl,rfl⟩ om (yr enc w n)
  have key:Rd w (cs.drop 0) _:=(ju r0 (by first|rfl|(cases v0;rfl)) (ju r1 (by first|rfl|(cases v1;rfl)) (GV hl)))
  refine⟨u6.mk v0 v1,?_,?_⟩
  ·rw[List.drop_zero]at key
   first|exact key|(rw[u6.L9];exact key)|(simp only[w9.L9,u5.L9]at key;exact key)|(rw[u6.L9];simp only[w9.L9,u5.L9]at key;exact key)
  ·exact x0
end Go.Proofs.YtfacbpehlibilaaGreatDoor
