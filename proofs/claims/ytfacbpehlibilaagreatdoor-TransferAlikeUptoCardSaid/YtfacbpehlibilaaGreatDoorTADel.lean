import Derived.Tactics2
import Derived.Shelf.Slices.Turned
import Derived.Test.YtfacbpehlibilaaGreatDoorTASort
set_option linter.unusedVariables false
set_option linter.unusedSimpArgs false
set_option maxHeartbeats 2000000
set_option maxRecDepth 100000
namespace Go.Proofs.YtfacbpehlibilaaGreatDoor
open Go Go.Am Go.Shelf Go.Sort
def r1j:Ren:=⟨fun x=>if x=6 then 108 else if x=10 then 85 else x,
 fun x=>if x=22 then 28 else if x=23 then 9 else if x=25 then 54 else x,fun x=>x⟩
theorem p4R:Go.Proofs.SlLaysH.n10 Tryz.prog r1j where
 mixed:=follows
 f6:=Zy Tryz.func108 (by kernel_rfl) (by kernel_rfl)
 f10:=Zy Tryz.func85 (by kernel_rfl) (by kernel_rfl)
 t0:=Tryz.underlying0
 a0:=Tryz.isAgg0
 z0:=Tryz.sizeOf0
 v0:=Tryz.zeroValue0
 t3:=Tryz.underlying3
 a3:=Tryz.isAgg3
 z3:=Tryz.sizeOf3
 v3:=Tryz.zeroValue3
 t4:=Tryz.underlying4
 a4:=Tryz.isAgg4
 z4:=Tryz.sizeOf4
 v4:=Tryz.zeroValue4
 t22:=Tryz.underlying28
 a22:=Tryz.isAgg28
 z22:=Tryz.sizeOf28
 v22:=Tryz.zeroValue28
 a23:=Tryz.isAgg9
 z23:=Tryz.sizeOf9
 t25:=Tryz.underlying54
 a25:=Tryz.isAgg54
 z25:=Tryz.sizeOf54
 v25:=Tryz.zeroValue54
def r2t:Ren:=⟨fun x=>if x=109 then 56 else if x=110 then 31 else x,
 fun x=>if x=31 then 28 else x,fun x=>x⟩
theorem p0i:Go.Proofs.Lays.n110 Tryz.prog r2t where
 mixed:=follows
 f109:=Tryz.func56.trans (by kernel_rfl)
 f110:=Tryz.func31.trans (by kernel_rfl)
 t0:=Tryz.underlying0
 a0:=Tryz.isAgg0
 z0:=Tryz.sizeOf0
 v0:=Tryz.zeroValue0
 t3:=Tryz.underlying3
 a3:=Tryz.isAgg3
 z3:=Tryz.sizeOf3
 v3:=Tryz.zeroValue3
 t4:=Tryz.underlying4
 a4:=Tryz.isAgg4
 z4:=Tryz.sizeOf4
 v4:=Tryz.zeroValue4
 t9:=Tryz.underlying9
 a9:=Tryz.isAgg9
 z9:=Tryz.sizeOf9
 v9:=Tryz.zeroValue9
 t31:=Tryz.underlying28
 a31:=Tryz.isAgg28
 z31:=Tryz.sizeOf28
 v31:=Tryz.zeroValue28
theorem i1I{W:World}{a:Addr}{sa:Option Addr}{cap:Nat}{ar:List Bs}(x:Bs)(ha:W.cell? a=some (.slice sa ar.length cap))(hl:ar.length≤9223372036854775807)
 (hc:ar=[]∨∃blk off,sa=some ⟨blk,off,none⟩∧∀i (h:i<ar.length),W.cell? ⟨blk,off+i,none⟩=some (.string (bs ar[i]))):
 Calls Tryz.prog 86 #[.string (bs x),.pointer (some a)] W fun e w'=>e= .returned (.bool (!decide (x∈ar)))∧w'=W:=by
 have hcall:Calls Tryz.prog 31 #[.slice sa ar.length cap,.string (bs x)] W fun e w'=>e= .returned (.bool (decide (x∈ar)))∧w'=W:=by
  rcases hc with rfl|⟨blk,off,rfl,hc⟩
  ·exact(Go.Proofs.Any.slices_Contains_string_empty p0i sa cap (bs x) W).mono fun e w' h=>⟨by rw[h.1];simp,h.2⟩
  ·refine(Go.Proofs.Any.slices_Contains_string p0i blk off ar.length cap (ar.map bs) (bs x) W (by simp) hl (fun j hj=>?_)).mono fun e w' h=>⟨?_,h.2⟩
   ·have hj':j<ar.length:=by simpa using hj
    rw[hc j hj',List.getD_eq_getElem?_getD,List.getElem?_map,List.getElem?_eq_getElem hj']
    rfl
   ·rw[h.1]
    have hb:∀ {p q:Bs},bs p=bs q→p=q:=fun {p q} e=>by
     have:=congrArg (fun z:ByteArray=>z.data.toList) e
     simpa[bs]using this
    have:Lib.containsS ((ar.map bs).take ar.length) (bs x)=decide (x∈ar):=by
     rw[Bool.eq_iff_iff,Lib.containsS_iff,decide_eq_true_eq,List.take_of_length_le (by simp),List.mem_map]
     exact⟨fun⟨y,hy,e⟩=>hb e▸hy,fun h=>⟨x,h,rfl⟩⟩
    rw[this]
 go_enter Tryz.func86,Tryz.ntmps86
 go_wp2_with (go_at_call 31;refine hcall.mono ?_;rintro e w' ⟨rfl,rfl⟩)
 go_ret
 exact⟨rfl,rfl⟩
theorem p0j{w:World}{μ:Mu}{st:St}{o oA gA b blk base:Nat}{es:List (List D)}{gen n2 b2:Nat}{ar:List Bs}{v:Value}(hs:Sim w μ st)(ho:Am.look st o=some (.arr gen n2 b2 es))(hm:μ o=some (blk,base))
 (hA:Am.look st oA=some (.arr gA 1 b [[.sl false 1 16 (rows Wt ar)]])) (hne:oA≠o) (hv:VR w μ st v (.ptr oA gA 0 0)):
 ∃a sa cap,v= .pointer (some a)∧ar.length≤9223372036854775807∧∀W:World,(∀j,j<w.heap.size→j≠blk→W.heap[j]? =w.heap[j]?)→W.cell? a=some (.slice sa ar.length cap)∧
  (ar=[]∨∃blk off,sa=some ⟨blk,off,none⟩∧∀i (h:i<ar.length),W.cell? ⟨blk,off+i,none⟩=some (.string (bs ar[i]))):=by
 have hoA:=WQ hA
 have ho':=WQ ho
 cases hv with
 |tr h=>cases h
 |ptr _ _ _ _ _ _ _ _ _ h=>
  obtain⟨p9c,r0j,mA,rfl⟩:=h 1 b _ hoA
  have hob:d6y w μ st (μ oA) 1 b [[.sl false 1 16 (rows Wt ar)]]:=hs.obj oA _ hoA
  obtain⟨d7R,base',c,ty,hm',d1X,hsz,hcell⟩:=hob.loc.resolve_left (fun h=>by rw[mA]at h;cases h.1)
  rw[mA]at hm'
  cases hm'
  obtain⟨v',e1,e2,_⟩:=hcell 0 0 (by simp) (by simp)
  have e2:VR w μ st v' (.sl false 1 16 (rows Wt ar)):=e2
  have hbA:p9c≠blk:=fun e=>by
   subst e
   exact hne (hs.inj _ _ _ _ p9c r0j base hoA ho' mA hm)
  have r2u:p9c<w.heap.size:=(Array.getElem?_eq_some_iff.1 d1X).1
  cases e2 with
  |tr h2=>
   cases h2 with
   |sl _ _ _ _ sa len cap cv hlen hcap d8M hb hb1 hn ha hc=>
    rw[d6S]at hlen
    subst hlen
    refine⟨_,sa,cap,rfl,?_,fun W hW=>⟨?_,?_⟩⟩
    ·rw[d6S]at hb
     simp only[top]at hb
     omega
    ·unfold World.cell?
     simp only[hW p9c r2u hbA,d1X]
     exact e1
    ·rcases ha with h0|⟨p6D,off,rfl,hlt2,hown,p7T⟩
     ·left
      have:=congrArg List.length h0
      rw[d6S]at this
      exact List.length_eq_zero_iff.1 this
     ·refine .inr ⟨p6D,off,rfl,fun i hi=>?_⟩
      have hb2:p6D≠blk:=fun e=>by
       subst e
       exact hown ⟨o,_,base,ho',hm⟩
      have hi2:i<(rows Wt ar).length:=by rw[d6S];exact hi
      have h3:=p7T i 0 hi2 (by decide)
      have er:(rows Wt ar)[i]=[D.str (ar[i])]:=by simp[rows,Wt]
      have h4:=hc i 0 hi2 (by rw[er];simp)
      have e5:((rows Wt ar)[i])[0]'(by rw[er];simp)=D.str (ar[i]):=by simp[er]
      rw[e5]at h4
      have h6:cv i 0= .string (bs ar[i]):=d3D (VR.tr h4)
      rw[Nat.mul_one,Nat.add_zero,h6]at h3
      unfold World.cell? at h3⊢
      simp only[hW p6D hlt2 hb2]
      exact h3
set_option maxRecDepth 100000 in
theorem i4a{o gen oA gA b:Nat}{full:Bool}{st:St}{l z ar:List Bs}(hlk:Am.look st o=some (.arr gen 1 16 (rows Wt (l++z))))(hA:Am.look st oA=some (.arr gA 1 b [[.sl false 1 16 (rows Wt ar)]]))(hne:oA≠o)(hl:l.length≤9223372036854775807):
 Am.Spec Tryz.prog gl 85 [.ref full o gen 0 l.length,.fn 86 [] [.ptr oA gA 0 0]] st (fun d st'=>d= .ref false o gen 0 (flt (fun x=> !decide (x∈ar)) l).length∧st'=WE st [(o,.arr gen 1 16 (rows Wt (i1j (fun x=> !decide (x∈ar)) l++z)))]):=by
 refine i0k p4R (by unfold d3p;rw[show r1j.f 10=85 from rfl,Tryz.func85];kernel_rfl) Tryz.zeroValue9 (Go.Proofs.enters_of Tryz.func86 (by kernel_rfl) rfl) hlk hl (fun w μ lb blk base hs hG hm hcc hn=>?_)
 obtain⟨v,rfl⟩:=i2z (show lb.size=1 by simpa using hn)
 have hv:VR w μ st v (.ptr oA gA 0 0):=hcc 0 (by simp)
 obtain⟨a,sa,cap,rfl,har,key⟩:=p0j hs hlk hm hA hne hv
 refine⟨fun W x hb=>?_,fun n os dk x hd=>?_⟩
 ·obtain⟨k1,k2⟩:=key W fun j hj _=>hb.block j hj
  exact(i1I x k1 har k2).mono fun e w' h=>⟨h.1,0,h.2⟩
 ·obtain⟨k1,k2⟩:=key (sortWorld Go.Proofs.encStr w blk base n dk os) fun j hj hne=>by
   show(grow (putRow Go.Proofs.encStr (Sort.ahead w n) blk base dk) os).heap[j]? =_
   rw[d4T,Array.getElem?_append_left (by simpa using hj),Array.getElem?_modify,if_neg (fun e=>hne e.symm)]
  exact(i1I x k1 har k2).mono fun e w' h=>⟨h.1,0,h.2⟩
end Go.Proofs.YtfacbpehlibilaaGreatDoor
