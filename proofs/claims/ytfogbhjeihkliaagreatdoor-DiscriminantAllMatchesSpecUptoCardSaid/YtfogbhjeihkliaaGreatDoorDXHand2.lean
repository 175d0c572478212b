import Derived.Shelf.Strings.IndexAnyAll
import Derived.Test.YtfogbhjeihkliaaGreatDoorDXHand
set_option linter.unusedVariables false
set_option linter.unusedSimpArgs false
namespace Go.Proofs.YtfogbhjeihkliaaGreatDoor
open Go Go.Am Go.Shelf
theorem Oe:Lays.n153 Tryz.prog Pw where
 mixed:=follows
 f119:=Tryz.func152.trans (by kernel_rfl)
 f137:=Tryz.func151.trans (by kernel_rfl)
 f152:=Tryz.func146.trans (by kernel_rfl)
 f153:=Tryz.func140.trans (by kernel_rfl)
 f217:=Tryz.func155.trans (by kernel_rfl)
 f224:=Tryz.func153.trans (by kernel_rfl)
 f225:=Tryz.func154.trans (by kernel_rfl)
 f226:=Tryz.func147.trans (by kernel_rfl)
 f227:=Tryz.func148.trans (by kernel_rfl)
 f228:=Tryz.func149.trans (by kernel_rfl)
 f266:=Tryz.func156.trans (by kernel_rfl)
 t0:=Tryz.underlying0
 a0:=Tryz.isAgg0
 z0:=Tryz.sizeOf0
 v0:=Tryz.zeroValue0
 t3:=Tryz.underlying3
 a3:=Tryz.isAgg3
 z3:=Tryz.sizeOf3
 v3:=Tryz.zeroValue3
 t4:=Tryz.underlying4
 a4:=Tryz.isAgg4
 z4:=Tryz.sizeOf4
 v4:=Tryz.zeroValue4
 t5:=Tryz.underlying5
 a5:=Tryz.isAgg5
 z5:=Tryz.sizeOf5
 v5:=Tryz.zeroValue5
 t9:=Tryz.underlying9
 a9:=Tryz.isAgg9
 z9:=Tryz.sizeOf9
 v9:=Tryz.zeroValue9
 t21:=Tryz.underlying21
 a21:=Tryz.isAgg21
 z21:=Tryz.sizeOf21
 v21:=Tryz.zeroValue21
 t46:=Tryz.underlying144
 a46:=Tryz.isAgg144
 z46:=Tryz.sizeOf144
 v46:=Tryz.zeroValue144
 t116:=Tryz.underlying217
 a116:=Tryz.isAgg217
 z116:=Tryz.sizeOf217
 t117:=Tryz.underlying218
 a117:=Tryz.isAgg218
 z117:=Tryz.sizeOf218
 v117:=Tryz.zeroValue218
 t124:=Tryz.underlying225
 a124:=Tryz.isAgg225
 z124:=Tryz.sizeOf225
 v124:=Tryz.zeroValue225
theorem CO{w:World}{μ:Mu}{st:St}{x:Obj}(hs:Sim w μ st):Sim (w.alloc x) μ st∧Step w μ st (w.alloc x) μ st:=by
 have step:Step w μ st (w.alloc x) μ st:=
  ⟨by simp,rfl,rfl,⟨rfl,Nat.le_refl _⟩,fun blk hb _=>iS hb,fun blk h=>.inl h,Nat.le_refl _,fun o ob' _ h=>⟨ob',h,by
   cases ob' with
   |arr g n b es=>exact⟨Nat.le_refl _,fun _=>⟨rfl,rfl,rfl,rfl,fun blk base c ty _ hh=>⟨c,by
    refine⟨(iS ?_).trans hh,rfl⟩
    ·rcases Nat.lt_or_ge blk w.heap.size with h|h
     ·exact h
     ·rw[Array.getElem?_eq_none h]at hh;cases hh⟩⟩⟩
   |mps=>exact⟨rfl,rfl⟩
   |mpi=>exact⟨rfl,rfl,rfl⟩
   |sit=>exact rfl
   |resv=>exact trivial⟩⟩
 exact⟨⟨fun o ob h=>(hs.obj o ob h).step step (fun blk base e=>iS (xq hs ⟨o,ob,base,h,e⟩)),hs.inj⟩,step⟩
set_option maxRecDepth 100000 in
theorem hv180(w:World):(zeroValue (Pw.t 116)).run Tryz.prog w= .ok (.agg (Array.replicate 256 (.bool false))) w:=Tryz.zeroValue217 w
theorem jK(s:Bs):(bs s).size=s.length:=by simp[bs,ByteArray.size]
theorem TQ:(Tryz.prog.info? (Pw.t 116)).map (·.size)=some 256:=by kernel_rfl
theorem Bx(s c:Bs)(h2:2≤c.length)(h8:8<s.length)(hs:s.length<4294967281)(hc:c.length<4294967281)(ha:c.all (fun b=>decide (b.toNat<128))=true):
 Pure Tryz.prog gl 140 [.str s,.str c] (.int .i64 (Lib.indexAny s c)):=by
 intro st
 refine⟨trivial,fun w μ vs VT hg hn hv=>?_⟩
 have e0:=mI (hv 0 (by simp))
 have e1:=mI (hv 1 (by simp))
 have:vs= #[.string (bs s),.string (bs c)]:=by
  apply Array.ext
  ·simpa using hn
  ·intro i h1 h2
   have hi:i<2:=by simpa using h2
   match i,hi with
   |0,_=>simpa[Array.getD,h1]using e0
   |1,_=>simpa[Array.getD,h1]using e1
 subst this
 have key:=Any.strings_IndexAny_long Oe hv180 TQ (bs s) (bs c) w (by rw[jK];exact h2) (by rw[jK];exact h8) (by rw[jK];exact hs) (by rw[jK];exact hc) (fun j b hb=>by
  have hm:b∈c:=by
   have:=List.mem_of_getElem? hb
   simpa[bs]using this
  exact of_decide_eq_true (List.all_eq_true.1 ha b hm))
 refine .inl ⟨by unfold kE;rw[Tryz.func140];kernel_rfl,?_⟩
 refine key.mono fun e w' ⟨h1,h2⟩=>?_
 subst h2
 obtain⟨s1,t1⟩:=CO (x:=.cells (Lib.setCells (bs c).data.toList) (Pw.t 116)) VT
 obtain⟨s2,t2⟩:=CO (x:=.cells (Lib.setCells (bs c).data.toList) (Pw.t 116)) s1
 exact⟨_,_,st,μ,h1,⟨rfl,rfl⟩,s2,t1.trans t2,cV _ _ _ _ _⟩
end Go.Proofs.YtfogbhjeihkliaaGreatDoor
