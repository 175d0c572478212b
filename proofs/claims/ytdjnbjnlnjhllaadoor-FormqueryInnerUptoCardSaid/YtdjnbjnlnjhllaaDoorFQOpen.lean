import Derived.KernelRfl
import Derived.Test.YtdjnbjnlnjhllaaDoorFQRead
import Derived.Test.YtdjnbjnlnjhllaaDoorFQLaw3
set_option linter.unusedVariables false
set_option linter.unusedSimpArgs false
namespace Go.Proofs.YtdjnbjnlnjhllaaDoor
open Go Go.Am
theorem nJ:Tryd.prog.cellsOf 25=4:=by kernel_rfl
theorem Bh:Tryd.prog.cellsOf 3=1:=by kernel_rfl
theorem jU:Tryd.prog.cellsOf 9=1:=by kernel_rfl
theorem jV:Tryd.prog.cellsOf 22=1:=by kernel_rfl
theorem zp:Tryd.prog.cellsOf 23=1:=by kernel_rfl
theorem xT{H:Type}(enc:TypeId×Value→H)(w:World):∀n,Opens enc Tryd.prog w 25 u5.cells (fun _=>True) n:=by
 intro n
 induction n with
 |zero=>exact Opens.zero
 |succ n ih=>
  intro m hm cs x h hb
  have hl:=oN Tryd.underlying25 h
  rw[nJ]at hl
  obtain⟨v0,r0,x0⟩:=V2 (n:=n) (e:=3) (o:=0) (z:=1) Tryd.underlying25 h hm hb 0 _ rfl ⟨rfl,rfl⟩ Bh (zq Tryd.underlying3)
  obtain⟨v1,r1,x1⟩:=V2 (n:=n) (e:=9) (o:=1) (z:=1) Tryd.underlying25 h hm hb 1 _ rfl ⟨rfl,rfl⟩ jU (hB Tryd.underlying9)
  obtain⟨v2,r2,x2⟩:=V2 (n:=n) (e:=22) (o:=2) (z:=1) Tryd.underlying25 h hm hb 2 _ rfl ⟨rfl,rfl⟩ jV ((dM (b:=16) Tryd.underlying22 jU (by decide) (by decide) (by decide) (fun v=>by first|rfl|(cases v;rfl)) (hB Tryd.underlying9)).le (Nat.le_succ _))
  obtain⟨v3,r3,x3⟩:=V2 (n:=n) (e:=23) (o:=3) (z:=1) Tryd.underlying25 h hm hb 3 _ rfl ⟨rfl,rfl⟩ zp ((dM (b:=72) Tryd.underlying23 nJ (by decide) (by decide) (by decide) (fun v=>by first|rfl|(cases v;rfl)) ih).le (Nat.le_succ _))
  have key:Rd w (cs.drop 0) _:=(hJ r0 (by first|rfl|(cases v0;rfl)) (hJ r1 (by first|rfl|(cases v1;rfl)) (hJ r2 (by first|rfl|(cases v2;rfl)) (hJ r3 (by first|rfl|(cases v3;rfl)) (BT hl)))))
  refine⟨u5.mk v0 v1 v2 v3,?_,?_⟩
  ·rw[List.drop_zero]at key
   first|exact key|(rw[u5.R4];exact key)
  ·trivial
theorem zu:Tryd.prog.cellsOf 27=7:=by kernel_rfl
theorem xS{H:Type}(enc:TypeId×Value→H)(w:World):∀n,Opens enc Tryd.prog w 27 w6.cells (SB) n:=by
 intro n
 induction n with
 |zero=>exact Opens.zero
 |succ n ih=>
  intro m hm cs x h hb
  have hl:=oN Tryd.underlying27 h
  rw[zu]at hl
  obtain⟨v0,r0,x0⟩:=V2 (n:=n) (e:=25) (o:=0) (z:=4) Tryd.underlying27 h hm hb 0 _ rfl ⟨rfl,rfl⟩ nJ (xT enc w n)
  obtain⟨v1,r1,x1⟩:=V2 (n:=n) (e:=22) (o:=4) (z:=1) Tryd.underlying27 h hm hb 1 _ rfl ⟨rfl,rfl⟩ jV ((dM (b:=16) Tryd.underlying22 jU (by decide) (by decide) (by decide) (fun v=>by first|rfl|(cases v;rfl)) (hB Tryd.underlying9)).le (Nat.le_succ _))
  obtain⟨v2,r2,x2⟩:=V2 (n:=n) (e:=22) (o:=5) (z:=1) Tryd.underlying27 h hm hb 2 _ rfl ⟨rfl,rfl⟩ jV ((dM (b:=16) Tryd.underlying22 jU (by decide) (by decide) (by decide) (fun v=>by first|rfl|(cases v;rfl)) (hB Tryd.underlying9)).le (Nat.le_succ _))
  obtain⟨v3,r3,x3⟩:=V2 (n:=n) (e:=22) (o:=6) (z:=1) Tryd.underlying27 h hm hb 3 _ rfl ⟨rfl,rfl⟩ jV ((dM (b:=16) Tryd.underlying22 jU (by decide) (by decide) (by decide) (fun v=>by first|rfl|(cases v;rfl)) (hB Tryd.underlying9)).le (Nat.le_succ _))
  have key:Rd w (cs.drop 0) _:=(hJ r0 (by first|rfl|(cases v0;rfl)) (hJ r1 (by first|rfl|(cases v1;rfl)) (hJ r2 (by first|rfl|(cases v2;rfl)) (hJ r3 (by first|rfl|(cases v3;rfl)) (BT hl)))))
  refine⟨w6.mk v0 v1 v2 v3,?_,?_⟩
  ·rw[List.drop_zero]at key
   first|exact key|(rw[w6.R4];exact key)|(simp only[u5.R4]at key;exact key)|(rw[w6.R4];simp only[u5.R4]at key;exact key)
  ·exact Ic x1 x2 x3
end Go.Proofs.YtdjnbjnlnjhllaaDoor
