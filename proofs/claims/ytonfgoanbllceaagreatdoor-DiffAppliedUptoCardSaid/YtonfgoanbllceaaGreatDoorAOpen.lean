import Derived.KernelRfl
import Derived.Test.YtonfgoanbllceaaGreatDoorARead
import Derived.Test.YtonfgoanbllceaaGreatDoorALaw2
set_option linter.unusedVariables false
set_option linter.unusedSimpArgs false
namespace Go.Proofs.YtonfgoanbllceaaGreatDoor
open Go Go.Am
theorem Jw:Tryz.prog.cellsOf 32=5:=by kernel_rfl
theorem CP:Tryz.prog.cellsOf 25=2:=by kernel_rfl
theorem Jx:Tryz.prog.cellsOf 22=1:=by kernel_rfl
theorem zq:Tryz.prog.cellsOf 126=2:=by kernel_rfl
theorem qy:Tryz.prog.cellsOf 9=1:=by kernel_rfl
theorem Gx:Tryz.prog.cellsOf 101=1:=by kernel_rfl
theorem iY:Tryz.prog.cellsOf 3=1:=by kernel_rfl
theorem ND{H:Type}(enc:TypeId×Value→H)(w:World):∀n,Opens enc Tryz.prog w 126 w8.cells (fun _=>True) n:=by
 intro n
 induction n with
 |zero=>exact Opens.zero
 |succ n ih=>
  intro m hm cs x h hb
  have hl:=cT Tryz.underlying126 h
  rw[zq]at hl
  obtain⟨v0,r0,x0⟩:=D5 (n:=n) (e:=9) (o:=0) (z:=1) Tryz.underlying126 h hm hb 0 _ rfl ⟨rfl,rfl⟩ qy (nG Tryz.underlying9)
  obtain⟨v1,r1,x1⟩:=D5 (n:=n) (e:=101) (o:=1) (z:=1) Tryz.underlying126 h hm hb 1 _ rfl ⟨rfl,rfl⟩ Gx ((dL (b:=8) Tryz.underlying101 iY (by decide) (by decide) (by decide) (fun v=>by first|rfl|(cases v;rfl)) (fG Tryz.underlying3)).le (Nat.le_succ _))
  have key:Rd w (cs.drop 0) _:=(P9 r0 (by first|rfl|(cases v0;rfl)) (P9 r1 (by first|rfl|(cases v1;rfl)) (pU hl)))
  refine⟨w8.mk v0 v1,?_,?_⟩
  ·rw[List.drop_zero]at key
   first|exact key|(rw[w8.D8];exact key)
  ·trivial
theorem Jy:Tryz.prog.cellsOf 23=1:=by kernel_rfl
theorem zu:Tryz.prog.cellsOf 103=3:=by kernel_rfl
theorem NG{H:Type}(enc:TypeId×Value→H)(w:World):∀n,Opens enc Tryz.prog w 103 y3.cells (fun _=>True) n:=by
 intro n
 induction n with
 |zero=>exact Opens.zero
 |succ n ih=>
  intro m hm cs x h hb
  have hl:=cT Tryz.underlying103 h
  rw[zu]at hl
  obtain⟨v0,r0,x0⟩:=D5 (n:=n) (e:=9) (o:=0) (z:=1) Tryz.underlying103 h hm hb 0 _ rfl ⟨rfl,rfl⟩ qy (nG Tryz.underlying9)
  obtain⟨v1,r1,x1⟩:=D5 (n:=n) (e:=3) (o:=1) (z:=1) Tryz.underlying103 h hm hb 1 _ rfl ⟨rfl,rfl⟩ iY (fG Tryz.underlying3)
  obtain⟨v2,r2,x2⟩:=D5 (n:=n) (e:=3) (o:=2) (z:=1) Tryz.underlying103 h hm hb 2 _ rfl ⟨rfl,rfl⟩ iY (fG Tryz.underlying3)
  have key:Rd w (cs.drop 0) _:=(P9 r0 (by first|rfl|(cases v0;rfl)) (P9 r1 (by first|rfl|(cases v1;rfl)) (P9 r2 (by first|rfl|(cases v2;rfl)) (pU hl))))
  refine⟨y3.mk v0 v1 v2,?_,?_⟩
  ·rw[List.drop_zero]at key
   first|exact key|(rw[y3.D8];exact key)
  ·trivial
theorem QA{H:Type}(enc:TypeId×Value→H)(w:World):∀n,Opens enc Tryz.prog w 25 w5.cells (KV) n:=by
 intro n
 induction n with
 |zero=>exact Opens.zero
 |succ n ih=>
  intro m hm cs x h hb
  have hl:=cT Tryz.underlying25 h
  rw[CP]at hl
  obtain⟨v0,r0,x0⟩:=D5 (n:=n) (e:=22) (o:=0) (z:=1) Tryz.underlying25 h hm hb 0 _ rfl ⟨rfl,rfl⟩ Jx ((dL (b:=40) Tryz.underlying22 zq (by decide) (by decide) (by decide) (fun v=>by first|rfl|(cases v;rfl)) (ND enc w n)).le (Nat.le_succ _))
  obtain⟨v1,r1,x1⟩:=D5 (n:=n) (e:=23) (o:=1) (z:=1) Tryz.underlying25 h hm hb 1 _ rfl ⟨rfl,rfl⟩ Jy ((dL (b:=32) Tryz.underlying23 zu (by decide) (by decide) (by decide) (fun v=>by first|rfl|(cases v;rfl)) (NG enc w n)).le (Nat.le_succ _))
  have key:Rd w (cs.drop 0) _:=(P9 r0 (by first|rfl|(cases v0;rfl)) (P9 r1 (by first|rfl|(cases v1;rfl)) (pU hl)))
  refine⟨w5.mk v0 v1,?_,?_⟩
  ·rw[List.drop_zero]at key
   first|exact key|(rw[w5.D8];exact key)
  ·exact⟨x0.1⟩
theorem Jz:Tryz.prog.cellsOf 26=1:=by kernel_rfl
theorem CQ:Tryz.prog.cellsOf 68=10:=by kernel_rfl
theorem sV:Tryz.prog.cellsOf 30=1:=by kernel_rfl
theorem JA:Tryz.prog.cellsOf 28=1:=by kernel_rfl
theorem zw:Tryz.prog.cellsOf 135=2:=by kernel_rfl
theorem Gy:Tryz.prog.cellsOf 133=1:=by kernel_rfl
theorem zx:Tryz.prog.cellsOf 138=2:=by kernel_rfl
theorem NH{H:Type}(enc:TypeId×Value→H)(w:World):∀n,Opens enc Tryz.prog w 138 D3.cells (fun _=>True) n:=by
 intro n
 induction n with
 |zero=>exact Opens.zero
 |succ n ih=>
  intro m hm cs x h hb
  have hl:=cT Tryz.underlying138 h
  rw[zx]at hl
  obtain⟨v0,r0,x0⟩:=D5 (n:=n) (e:=3) (o:=0) (z:=1) Tryz.underlying138 h hm hb 0 _ rfl ⟨rfl,rfl⟩ iY (fG Tryz.underlying3)
  obtain⟨v1,r1,x1⟩:=D5 (n:=n) (e:=3) (o:=1) (z:=1) Tryz.underlying138 h hm hb 1 _ rfl ⟨rfl,rfl⟩ iY (fG Tryz.underlying3)
  have key:Rd w (cs.drop 0) _:=(P9 r0 (by first|rfl|(cases v0;rfl)) (P9 r1 (by first|rfl|(cases v1;rfl)) (pU hl)))
  refine⟨D3.mk v0 v1,?_,?_⟩
  ·rw[List.drop_zero]at key
   first|exact key|(rw[D3.D8];exact key)
  ·trivial
theorem NI{H:Type}(enc:TypeId×Value→H)(w:World):∀n,Opens enc Tryz.prog w 135 x5.cells (fun v=>v.links.length≤1048576) n:=by
 intro n
 induction n with
 |zero=>exact Opens.zero
 |succ n ih=>
  intro m hm cs x h hb
  have hl:=cT Tryz.underlying135 h
  rw[zw]at hl
  obtain⟨v0,r0,x0⟩:=D5 (n:=n) (e:=3) (o:=0) (z:=1) Tryz.underlying135 h hm hb 0 _ rfl ⟨rfl,rfl⟩ iY (fG Tryz.underlying3)
  obtain⟨v1,r1,x1⟩:=D5 (n:=n) (e:=133) (o:=1) (z:=1) Tryz.underlying135 h hm hb 1 _ rfl ⟨rfl,rfl⟩ Gy ((dL (b:=16) Tryz.underlying133 zx (by decide) (by decide) (by decide) (fun v=>by first|rfl|(cases v;rfl)) (NH enc w n)).le (Nat.le_succ _))
  have key:Rd w (cs.drop 0) _:=(P9 r0 (by first|rfl|(cases v0;rfl)) (P9 r1 (by first|rfl|(cases v1;rfl)) (pU hl)))
  refine⟨x5.mk v0 v1,?_,?_⟩
  ·rw[List.drop_zero]at key
   first|exact key|(rw[x5.D8];exact key)
  ·exact x1.1
theorem JB{H:Type}(enc:TypeId×Value→H)(w:World):∀n,Opens enc Tryz.prog w 30 y5.cells (xC) n:=by
 intro n
 induction n with
 |zero=>exact Opens.zero
 |succ n ih=>
  intro m hm cs x h hb
  have hl:=cT Tryz.underlying30 h
  rw[sV]at hl
  obtain⟨v0,r0,x0⟩:=D5 (n:=n) (e:=28) (o:=0) (z:=1) Tryz.underlying30 h hm hb 0 _ rfl ⟨rfl,rfl⟩ JA ((dL (b:=32) Tryz.underlying28 zw (by decide) (by decide) (by decide) (fun v=>by first|rfl|(cases v;rfl)) (NI enc w n)).le (Nat.le_succ _))
  have key:Rd w (cs.drop 0) _:=(P9 r0 (by first|rfl|(cases v0;rfl)) (pU hl))
  refine⟨y5.mk v0,?_,?_⟩
  ·rw[List.drop_zero]at key
   first|exact key|(rw[y5.D8];exact key)
  ·exact⟨x0.1,x0.2⟩
theorem sW:Tryz.prog.cellsOf 66=6:=by kernel_rfl
theorem xS:Tryz.prog.cellsOf 63=2:=by kernel_rfl
theorem JC:Tryz.prog.cellsOf 61=1:=by kernel_rfl
theorem QB{H:Type}(enc:TypeId×Value→H)(w:World):∀n,Opens enc Tryz.prog w 63 u0.cells (uh) n:=by
 intro n
 induction n with
 |zero=>exact Opens.zero
 |succ n ih=>
  intro m hm cs x h hb
  have hl:=cT Tryz.underlying63 h
  rw[xS]at hl
  obtain⟨v0,r0,x0⟩:=D5 (n:=n) (e:=9) (o:=0) (z:=1) Tryz.underlying63 h hm hb 0 _ rfl ⟨rfl,rfl⟩ qy (nG Tryz.underlying9)
  obtain⟨v1,r1,x1⟩:=D5 (n:=n) (e:=61) (o:=1) (z:=1) Tryz.underlying63 h hm hb 1 _ rfl ⟨rfl,rfl⟩ JC ((dL (b:=40) Tryz.underlying61 xS (by decide) (by decide) (by decide) (fun v=>by first|rfl|(cases v;rfl)) ih).le (Nat.le_succ _))
  have key:Rd w (cs.drop 0) _:=(P9 r0 (by first|rfl|(cases v0;rfl)) (P9 r1 (by first|rfl|(cases v1;rfl)) (pU hl)))
  refine⟨u0.mk v0 v1,?_,?_⟩
  ·rw[List.drop_zero]at key
   first|exact key|(rw[u0.D8];exact key)
  ·exact .mk _ x1.1 (fun k hk=>x1.2 _ (get_mem hk))
theorem JD:Tryz.prog.cellsOf 64=1:=by kernel_rfl
theorem LU{H:Type}(enc:TypeId×Value→H)(w:World):∀n,Opens enc Tryz.prog w 66 w6.cells (Eb) n:=by
 intro n
 induction n with
 |zero=>exact Opens.zero
 |succ n ih=>
  intro m hm cs x h hb
  have hl:=cT Tryz.underlying66 h
  rw[sW]at hl
  obtain⟨v0,r0,x0⟩:=D5 (n:=n) (e:=3) (o:=0) (z:=1) Tryz.underlying66 h hm hb 0 _ rfl ⟨rfl,rfl⟩ iY (fG Tryz.underlying3)
  obtain⟨v1,r1,x1⟩:=D5 (n:=n) (e:=9) (o:=1) (z:=1) Tryz.underlying66 h hm hb 1 _ rfl ⟨rfl,rfl⟩ qy (nG Tryz.underlying9)
  obtain⟨v2,r2,x2⟩:=D5 (n:=n) (e:=3) (o:=2) (z:=1) Tryz.underlying66 h hm hb 2 _ rfl ⟨rfl,rfl⟩ iY (fG Tryz.underlying3)
  obtain⟨v3,r3,x3⟩:=D5 (n:=n) (e:=63) (o:=3) (z:=2) Tryz.underlying66 h hm hb 3 _ rfl ⟨rfl,rfl⟩ xS (QB enc w n)
  obtain⟨v4,r4,x4⟩:=D5 (n:=n) (e:=64) (o:=5) (z:=1) Tryz.underlying66 h hm hb 4 _ rfl ⟨rfl,rfl⟩ JD ((dL (b:=96) Tryz.underlying64 sW (by decide) (by decide) (by decide) (fun v=>by first|rfl|(cases v;rfl)) ih).le (Nat.le_succ _))
  have key:Rd w (cs.drop 0) _:=(P9 r0 (by first|rfl|(cases v0;rfl)) (P9 r1 (by first|rfl|(cases v1;rfl)) (P9 r2 (by first|rfl|(cases v2;rfl)) (P9 r3 (by first|rfl|(cases v3;rfl)) (P9 r4 (by first|rfl|(cases v4;rfl)) (pU hl))))))
  refine⟨w6.mk v0 v1 v2 v3 v4,?_,?_⟩
  ·rw[List.drop_zero]at key
   first|exact key|(rw[w6.D8];exact key)|(simp only[u0.D8]at key;exact key)|(rw[w6.D8];simp only[u0.D8]at key;exact key)
  ·exact .mk _ x3 x4.1 (fun k hk=>x4.2 _ (get_mem hk))
theorem QC{H:Type}(enc:TypeId×Value→H)(w:World):∀n,Opens enc Tryz.prog w 68 w4.cells (Cd) n:=by
 intro n
 induction n with
 |zero=>exact Opens.zero
 |succ n ih=>
  intro m hm cs x h hb
  have hl:=cT Tryz.underlying68 h
  rw[CQ]at hl
  obtain⟨v0,r0,x0⟩:=D5 (n:=n) (e:=9) (o:=0) (z:=1) Tryz.underlying68 h hm hb 0 _ rfl ⟨rfl,rfl⟩ qy (nG Tryz.underlying9)
  obtain⟨v1,r1,x1⟩:=D5 (n:=n) (e:=30) (o:=1) (z:=1) Tryz.underlying68 h hm hb 1 _ rfl ⟨rfl,rfl⟩ sV (JB enc w n)
  obtain⟨v2,r2,x2⟩:=D5 (n:=n) (e:=3) (o:=2) (z:=1) Tryz.underlying68 h hm hb 2 _ rfl ⟨rfl,rfl⟩ iY (fG Tryz.underlying3)
  obtain⟨v3,r3,x3⟩:=D5 (n:=n) (e:=3) (o:=3) (z:=1) Tryz.underlying68 h hm hb 3 _ rfl ⟨rfl,rfl⟩ iY (fG Tryz.underlying3)
  obtain⟨v4,r4,x4⟩:=D5 (n:=n) (e:=66) (o:=4) (z:=6) Tryz.underlying68 h hm hb 4 _ rfl ⟨rfl,rfl⟩ sW (LU enc w n)
  have key:Rd w (cs.drop 0) _:=(P9 r0 (by first|rfl|(cases v0;rfl)) (P9 r1 (by first|rfl|(cases v1;rfl)) (P9 r2 (by first|rfl|(cases v2;rfl)) (P9 r3 (by first|rfl|(cases v3;rfl)) (P9 r4 (by first|rfl|(cases v4;rfl)) (pU hl))))))
  refine⟨w4.mk v0 v1 v2 v3 v4,?_,?_⟩
  ·rw[List.drop_zero]at key
   first|exact key|(rw[w4.D8];exact key)|(simp only[y5.D8,w6.D8]at key;exact key)|(rw[w4.D8];simp only[y5.D8,w6.D8]at key;exact key)
  ·exact⟨x1,x4⟩
theorem JE:Tryz.prog.cellsOf 27=1:=by kernel_rfl
theorem CS:Tryz.prog.cellsOf 78=9:=by kernel_rfl
theorem QD{H:Type}(enc:TypeId×Value→H)(w:World):∀n,Opens enc Tryz.prog w 78 x7.cells (LL) n:=by
 intro n
 induction n with
 |zero=>exact Opens.zero
 |succ n ih=>
  intro m hm cs x h hb
  have hl:=cT Tryz.underlying78 h
  rw[CS]at hl
  obtain⟨v0,r0,x0⟩:=D5 (n:=n) (e:=9) (o:=0) (z:=1) Tryz.underlying78 h hm hb 0 _ rfl ⟨rfl,rfl⟩ qy (nG Tryz.underlying9)
  obtain⟨v1,r1,x1⟩:=D5 (n:=n) (e:=30) (o:=1) (z:=1) Tryz.underlying78 h hm hb 1 _ rfl ⟨rfl,rfl⟩ sV (JB enc w n)
  obtain⟨v2,r2,x2⟩:=D5 (n:=n) (e:=3) (o:=2) (z:=1) Tryz.underlying78 h hm hb 2 _ rfl ⟨rfl,rfl⟩ iY (fG Tryz.underlying3)
  obtain⟨v3,r3,x3⟩:=D5 (n:=n) (e:=66) (o:=3) (z:=6) Tryz.underlying78 h hm hb 3 _ rfl ⟨rfl,rfl⟩ sW (LU enc w n)
  have key:Rd w (cs.drop 0) _:=(P9 r0 (by first|rfl|(cases v0;rfl)) (P9 r1 (by first|rfl|(cases v1;rfl)) (P9 r2 (by first|rfl|(cases v2;rfl)) (P9 r3 (by first|rfl|(cases v3;rfl)) (pU hl)))))
  refine⟨x7.mk v0 v1 v2 v3,?_,?_⟩
  ·rw[List.drop_zero]at key
   first|exact key|(rw[x7.D8];exact key)|(simp only[y5.D8,w6.D8]at key;exact key)|(rw[x7.D8];simp only[y5.D8,w6.D8]at key;exact key)
  ·exact⟨x0,x1,x3⟩
theorem Ly{H:Type}(enc:TypeId×Value→H)(w:World):∀n,Opens enc Tryz.prog w 32 x9.cells (uj) n:=by
 intro n
 induction n with
 |zero=>exact Opens.zero
 |succ n ih=>
  intro m hm cs x h hb
  have hl:=cT Tryz.underlying32 h
  rw[Jw]at hl
  obtain⟨v0,r0,x0⟩:=D5 (n:=n) (e:=25) (o:=0) (z:=2) Tryz.underlying32 h hm hb 0 _ rfl ⟨rfl,rfl⟩ CP (QA enc w n)
  obtain⟨v1,r1,x1⟩:=D5 (n:=n) (e:=26) (o:=2) (z:=1) Tryz.underlying32 h hm hb 1 _ rfl ⟨rfl,rfl⟩ Jz ((dL (b:=152) Tryz.underlying26 CQ (by decide) (by decide) (by decide) (fun v=>by first|rfl|(cases v;rfl)) (QC enc w n)).le (Nat.le_succ _))
  obtain⟨v2,r2,x2⟩:=D5 (n:=n) (e:=27) (o:=3) (z:=1) Tryz.underlying32 h hm hb 2 _ rfl ⟨rfl,rfl⟩ JE ((dL (b:=144) Tryz.underlying27 CS (by decide) (by decide) (by decide) (fun v=>by first|rfl|(cases v;rfl)) (QD enc w n)).le (Nat.le_succ _))
  obtain⟨v3,r3,x3⟩:=D5 (n:=n) (e:=30) (o:=4) (z:=1) Tryz.underlying32 h hm hb 3 _ rfl ⟨rfl,rfl⟩ sV (JB enc w n)
  have key:Rd w (cs.drop 0) _:=(P9 r0 (by first|rfl|(cases v0;rfl)) (P9 r1 (by first|rfl|(cases v1;rfl)) (P9 r2 (by first|rfl|(cases v2;rfl)) (P9 r3 (by first|rfl|(cases v3;rfl)) (pU hl)))))
  refine⟨x9.mk v0 v1 v2 v3,?_,?_⟩
  ·rw[List.drop_zero]at key
   first|exact key|(rw[x9.D8];exact key)|(simp only[w5.D8,y5.D8]at key;exact key)|(rw[x9.D8];simp only[w5.D8,y5.D8]at key;exact key)
  ·exact⟨x0,x1.1,x2.1,x1.2,x2.2,x3⟩
end Go.Proofs.YtonfgoanbllceaaGreatDoor
