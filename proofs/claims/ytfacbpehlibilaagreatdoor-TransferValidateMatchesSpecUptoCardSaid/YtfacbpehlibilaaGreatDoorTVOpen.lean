import Derived.KernelRfl
import Derived.Test.YtfacbpehlibilaaGreatDoorTVRead
import Derived.Test.YtfacbpehlibilaaGreatDoorTVLaw3
set_option linter.unusedVariables false
set_option linter.unusedSimpArgs false
namespace Go.Proofs.YtfacbpehlibilaaGreatDoor
open Go Go.Am
theorem w4z:Tryz.prog.cellsOf 49=11:=by kernel_rfl
theorem w5g:Tryz.prog.cellsOf 47=7:=by kernel_rfl
theorem u8a:Tryz.prog.cellsOf 31=4:=by kernel_rfl
theorem x3k:Tryz.prog.cellsOf 3=1:=by kernel_rfl
theorem u8b:Tryz.prog.cellsOf 9=1:=by kernel_rfl
theorem u8d:Tryz.prog.cellsOf 28=1:=by kernel_rfl
theorem x1C:Tryz.prog.cellsOf 29=1:=by kernel_rfl
theorem x3X{H:Type}(enc:TypeId×Value→H)(w:World):∀n,Opens enc Tryz.prog w 31 p6w.cells (fun _=>True) n:=by
 intro n
 induction n with
 |zero=>exact Opens.zero
 |succ n ih=>
  intro m hm cs x h hb
  have hl:=u8N Tryz.underlying31 h
  rw[u8a]at hl
  obtain⟨v0,r0,x0⟩:=r8P (n:=n) (e:=3) (o:=0) (z:=1) Tryz.underlying31 h hm hb 0 _ rfl ⟨rfl,rfl⟩ x3k (x1D Tryz.underlying3)
  obtain⟨v1,r1,x1⟩:=r8P (n:=n) (e:=9) (o:=1) (z:=1) Tryz.underlying31 h hm hb 1 _ rfl ⟨rfl,rfl⟩ u8b (u6z Tryz.underlying9)
  obtain⟨v2,r2,x2⟩:=r8P (n:=n) (e:=28) (o:=2) (z:=1) Tryz.underlying31 h hm hb 2 _ rfl ⟨rfl,rfl⟩ u8d ((u2Q (b:=16) Tryz.underlying28 u8b (by decide) (by decide) (by decide) (fun v=>by first|rfl|(cases v;rfl)) (u6z Tryz.underlying9)).le (Nat.le_succ _))
  obtain⟨v3,r3,x3⟩:=r8P (n:=n) (e:=29) (o:=3) (z:=1) Tryz.underlying31 h hm hb 3 _ rfl ⟨rfl,rfl⟩ x1C ((u2Q (b:=72) Tryz.underlying29 u8a (by decide) (by decide) (by decide) (fun v=>by first|rfl|(cases v;rfl)) ih).le (Nat.le_succ _))
  have key:Rd w (cs.drop 0) _:=(u4Z r0 (by first|rfl|(cases v0;rfl)) (u4Z r1 (by first|rfl|(cases v1;rfl)) (u4Z r2 (by first|rfl|(cases v2;rfl)) (u4Z r3 (by first|rfl|(cases v3;rfl)) (x1E hl)))))
  refine⟨p6w.mk v0 v1 v2 v3,?_,?_⟩
  ·rw[List.drop_zero]at key
   first|exact key|(rw[p6w.r7V];exact key)
  ·trivial
theorem x8t{H:Type}(enc:TypeId×Value→H)(w:World):∀n,Opens enc Tryz.prog w 47 r5b.cells (SB) n:=by
 intro n
 induction n with
 |zero=>exact Opens.zero
 |succ n ih=>
  intro m hm cs x h hb
  have hl:=u8N Tryz.underlying47 h
  rw[w5g]at hl
  obtain⟨v0,r0,x0⟩:=r8P (n:=n) (e:=31) (o:=0) (z:=4) Tryz.underlying47 h hm hb 0 _ rfl ⟨rfl,rfl⟩ u8a (x3X enc w n)
  obtain⟨v1,r1,x1⟩:=r8P (n:=n) (e:=28) (o:=4) (z:=1) Tryz.underlying47 h hm hb 1 _ rfl ⟨rfl,rfl⟩ u8d ((u2Q (b:=16) Tryz.underlying28 u8b (by decide) (by decide) (by decide) (fun v=>by first|rfl|(cases v;rfl)) (u6z Tryz.underlying9)).le (Nat.le_succ _))
  obtain⟨v2,r2,x2⟩:=r8P (n:=n) (e:=28) (o:=5) (z:=1) Tryz.underlying47 h hm hb 2 _ rfl ⟨rfl,rfl⟩ u8d ((u2Q (b:=16) Tryz.underlying28 u8b (by decide) (by decide) (by decide) (fun v=>by first|rfl|(cases v;rfl)) (u6z Tryz.underlying9)).le (Nat.le_succ _))
  obtain⟨v3,r3,x3⟩:=r8P (n:=n) (e:=28) (o:=6) (z:=1) Tryz.underlying47 h hm hb 3 _ rfl ⟨rfl,rfl⟩ u8d ((u2Q (b:=16) Tryz.underlying28 u8b (by decide) (by decide) (by decide) (fun v=>by first|rfl|(cases v;rfl)) (u6z Tryz.underlying9)).le (Nat.le_succ _))
  have key:Rd w (cs.drop 0) _:=(u4Z r0 (by first|rfl|(cases v0;rfl)) (u4Z r1 (by first|rfl|(cases v1;rfl)) (u4Z r2 (by first|rfl|(cases v2;rfl)) (u4Z r3 (by first|rfl|(cases v3;rfl)) (x1E hl)))))
  refine⟨r5b.mk v0 v1 v2 v3,?_,?_⟩
  ·rw[List.drop_zero]at key
   first|exact key|(rw[r5b.r7V];exact key)|(simp only[p6w.r7V]at key;exact key)|(rw[r5b.r7V];simp only[p6w.r7V]at key;exact key)
  ·exact y0y x1 x2 x3
theorem x7S{H:Type}(enc:TypeId×Value→H)(w:World):∀n,Opens enc Tryz.prog w 49 r4V.cells (fun v=>SB v.from_) n:=by
 intro n
 induction n with
 |zero=>exact Opens.zero
 |succ n ih=>
  intro m hm cs x h hb
  have hl:=u8N Tryz.underlying49 h
  rw[w4z]at hl
  obtain⟨v0,r0,x0⟩:=r8P (n:=n) (e:=47) (o:=0) (z:=7) Tryz.underlying49 h hm hb 0 _ rfl ⟨rfl,rfl⟩ w5g (x8t enc w n)
  obtain⟨v1,r1,x1⟩:=r8P (n:=n) (e:=31) (o:=7) (z:=4) Tryz.underlying49 h hm hb 1 _ rfl ⟨rfl,rfl⟩ u8a (x3X enc w n)
  have key:Rd w (cs.drop 0) _:=(u4Z r0 (by first|rfl|(cases v0;rfl)) (u4Z r1 (by first|rfl|(cases v1;rfl)) (x1E hl)))
  refine⟨r4V.mk v0 v1,?_,?_⟩
  ·rw[List.drop_zero]at key
   first|exact key|(rw[r4V.r7V];exact key)|(simp only[r5b.r7V,p6w.r7V]at key;exact key)|(rw[r4V.r7V];simp only[r5b.r7V,p6w.r7V]at key;exact key)
  ·exact x0
end Go.Proofs.YtfacbpehlibilaaGreatDoor
