import Derived.Shelf.Slices.Turned
import Derived.Tactics2
import Derived.Test.YtfacbpehlibilaaGreatDoorTVSort
set_option linter.unusedVariables false
set_option linter.unusedSimpArgs false
set_option maxHeartbeats 2000000
set_option maxRecDepth 100000
namespace Go.Proofs.YtfacbpehlibilaaGreatDoor
open Go Go.Am Go.Shelf Go.Sort
def y1q:Ren:=⟨fun x=>if x=6 then 108 else if x=10 then 85 else x,
 fun x=>if x=22 then 28 else if x=23 then 9 else if x=25 then 54 else x,fun x=>x⟩
theorem x4U:Go.Proofs.SlLaysH.n10 Tryz.prog y1q where
 mixed:=follows
 f6:=r9b Tryz.func108 (by kernel_rfl) (by kernel_rfl)
 f10:=r9b Tryz.func85 (by kernel_rfl) (by kernel_rfl)
 t0:=Tryz.underlying0
 a0:=Tryz.isAgg0
 z0:=Tryz.sizeOf0
 v0:=Tryz.zeroValue0
 t3:=Tryz.underlying3
 a3:=Tryz.isAgg3
 z3:=Tryz.sizeOf3
 v3:=Tryz.zeroValue3
 t4:=Tryz.underlying4
 a4:=Tryz.isAgg4
 z4:=Tryz.sizeOf4
 v4:=Tryz.zeroValue4
 t22:=Tryz.underlying28
 a22:=Tryz.isAgg28
 z22:=Tryz.sizeOf28
 v22:=Tryz.zeroValue28
 a23:=Tryz.isAgg9
 z23:=Tryz.sizeOf9
 t25:=Tryz.underlying54
 a25:=Tryz.isAgg54
 z25:=Tryz.sizeOf54
 v25:=Tryz.zeroValue54
def y2w:Ren:=⟨fun x=>if x=109 then 56 else if x=110 then 31 else x,
 fun x=>if x=31 then 28 else x,fun x=>x⟩
theorem x0r:Go.Proofs.Lays.n110 Tryz.prog y2w where
 mixed:=follows
 f109:=Tryz.func56.trans (by kernel_rfl)
 f110:=Tryz.func31.trans (by kernel_rfl)
 t0:=Tryz.underlying0
 a0:=Tryz.isAgg0
 z0:=Tryz.sizeOf0
 v0:=Tryz.zeroValue0
 t3:=Tryz.underlying3
 a3:=Tryz.isAgg3
 z3:=Tryz.sizeOf3
 v3:=Tryz.zeroValue3
 t4:=Tryz.underlying4
 a4:=Tryz.isAgg4
 z4:=Tryz.sizeOf4
 v4:=Tryz.zeroValue4
 t9:=Tryz.underlying9
 a9:=Tryz.isAgg9
 z9:=Tryz.sizeOf9
 v9:=Tryz.zeroValue9
 t31:=Tryz.underlying28
 a31:=Tryz.isAgg28
 z31:=Tryz.sizeOf28
 v31:=Tryz.zeroValue28
theorem w2l{W:World}{a:Addr}{sa:Option Addr}{cap:Nat}{ar:List Bs}(x:Bs)(ha:W.cell? a=some (.slice sa ar.length cap))(hl:ar.length≤9223372036854775807)
 (hc:ar=[]∨∃blk off,sa=some ⟨blk,off,none⟩∧∀i (h:i<ar.length),W.cell? ⟨blk,off+i,none⟩=some (.string (bs ar[i]))):
 Calls Tryz.prog 86 #[.string (bs x),.pointer (some a)] W fun e w'=>e= .returned (.bool (!decide (x∈ar)))∧w'=W:=by
 have hcall:Calls Tryz.prog 31 #[.slice sa ar.length cap,.string (bs x)] W fun e w'=>e= .returned (.bool (decide (x∈ar)))∧w'=W:=by
  rcases hc with rfl|⟨blk,off,rfl,hc⟩
  ·exact(Go.Proofs.Any.slices_Contains_string_empty x0r sa cap (bs x) W).mono fun e w' h=>⟨by rw[h.1];simp,h.2⟩
  ·refine(Go.Proofs.Any.slices_Contains_string x0r blk off ar.length cap (ar.map bs) (bs x) W (by simp) hl (fun j hj=>?_)).mono fun e w' h=>⟨?_,h.2⟩
   ·have hj':j<ar.length:=by simpa using hj
    rw[hc j hj',List.getD_eq_getElem?_getD,List.getElem?_map,List.getElem?_eq_getElem hj']
    rfl
   ·rw[h.1]
    have hb:∀ {p q:Bs},bs p=bs q→p=q:=fun {p q} e=>by
     have:=congrArg (fun z:ByteArray=>z.data.toList) e
     simpa[bs]using this
    have:Lib.containsS ((ar.map bs).take ar.length) (bs x)=decide (x∈ar):=by
     rw[Bool.eq_iff_iff,Lib.containsS_iff,decide_eq_true_eq,List.take_of_length_le (by simp),List.mem_map]
     exact⟨fun⟨y,hy,e⟩=>hb e▸hy,fun h=>⟨x,h,rfl⟩⟩
    rw[this]
 go_enter Tryz.func86,Tryz.ntmps86
 go_wp2_with (go_at_call 31;refine hcall.mono ?_;rintro e w' ⟨rfl,rfl⟩)
 go_ret
 exact⟨rfl,rfl⟩
theorem x0s{w:World}{μ:Mu}{st:St}{o oA gA b blk base:Nat}{es:List (List D)}{gen n2 b2:Nat}{ar:List Bs}{v:Value}(hs:Sim w μ st)(ho:Am.look st o=some (.arr gen n2 b2 es))(hm:μ o=some (blk,base))
 (hA:Am.look st oA=some (.arr gA 1 b [[.sl false 1 16 (rows r4X ar)]])) (hne:oA≠o) (hv:VR w μ st v (.ptr oA gA 0 0)):
 ∃a sa cap,v= .pointer (some a)∧ar.length≤9223372036854775807∧∀W:World,(∀j,j<w.heap.size→j≠blk→W.heap[j]? =w.heap[j]?)→W.cell? a=some (.slice sa ar.length cap)∧
  (ar=[]∨∃blk off,sa=some ⟨blk,off,none⟩∧∀i (h:i<ar.length),W.cell? ⟨blk,off+i,none⟩=some (.string (bs ar[i]))):=by
 have hoA:=r5w hA
 have ho':=r5w ho
 cases hv with
 |tr h=>cases h
 |ptr _ _ _ _ _ _ _ _ _ h=>
  obtain⟨x9k,y0s,mA,rfl⟩:=h 1 b _ hoA
  have hob:u6V w μ st (μ oA) 1 b [[.sl false 1 16 (rows r4X ar)]]:=hs.obj oA _ hoA
  obtain⟨u8k,base',c,ty,hm',u1v,hsz,hcell⟩:=hob.loc.resolve_left (fun h=>by rw[mA]at h;cases h.1)
  rw[mA]at hm'
  cases hm'
  obtain⟨v',e1,e2,_⟩:=hcell 0 0 (by simp) (by simp)
  have e2:VR w μ st v' (.sl false 1 16 (rows r4X ar)):=e2
  have hbA:x9k≠blk:=fun e=>by
   subst e
   exact hne (hs.inj _ _ _ _ x9k y0s base hoA ho' mA hm)
  have y2x:x9k<w.heap.size:=(Array.getElem?_eq_some_iff.1 u1v).1
  cases e2 with
  |tr h2=>
   cases h2 with
   |sl _ _ _ _ sa len cap cv hlen hcap u9j hb hb1 hn ha hc=>
    rw[u6P]at hlen
    subst hlen
    refine⟨_,sa,cap,rfl,?_,fun W hW=>⟨?_,?_⟩⟩
    ·rw[u6P]at hb
     simp only[top]at hb
     omega
    ·unfold World.cell?
     simp only[hW x9k y2x hbA,u1v]
     exact e1
    ·rcases ha with h0|⟨x6E,off,rfl,hlt2,hown,x7W⟩
     ·left
      have:=congrArg List.length h0
      rw[u6P]at this
      exact List.length_eq_zero_iff.1 this
     ·refine .inr ⟨x6E,off,rfl,fun i hi=>?_⟩
      have hb2:x6E≠blk:=fun e=>by
       subst e
       exact hown ⟨o,_,base,ho',hm⟩
      have hi2:i<(rows r4X ar).length:=by rw[u6P];exact hi
      have h3:=x7W i 0 hi2 (by decide)
      have er:(rows r4X ar)[i]=[D.str (ar[i])]:=by simp[rows,r4X]
      have h4:=hc i 0 hi2 (by rw[er];simp)
      have e5:((rows r4X ar)[i])[0]'(by rw[er];simp)=D.str (ar[i]):=by simp[er]
      rw[e5]at h4
      have h6:cv i 0= .string (bs ar[i]):=u3J (VR.tr h4)
      rw[Nat.mul_one,Nat.add_zero,h6]at h3
      unfold World.cell? at h3⊢
      simp only[hW x6E hlt2 hb2]
      exact h3
set_option maxRecDepth 100000 in
theorem w4D{o gen oA gA b:Nat}{full:Bool}{st:St}{l z ar:List Bs}(hlk:Am.look st o=some (.arr gen 1 16 (rows r4X (l++z))))(hA:Am.look st oA=some (.arr gA 1 b [[.sl false 1 16 (rows r4X ar)]]))(hne:oA≠o)(hl:l.length≤9223372036854775807):
 Am.Spec Tryz.prog gl 85 [.ref full o gen 0 l.length,.fn 86 [] [.ptr oA gA 0 0]] st (fun d st'=>d= .ref false o gen 0 (flt (fun x=> !decide (x∈ar)) l).length∧st'=r5k st [(o,.arr gen 1 16 (rows r4X (w1L (fun x=> !decide (x∈ar)) l++z)))]):=by
 refine w0G x4U (by unfold u3o;rw[show y1q.f 10=85 from rfl,Tryz.func85];kernel_rfl) Tryz.zeroValue9 (Go.Proofs.enters_of Tryz.func86 (by kernel_rfl) rfl) hlk hl (fun w μ lb blk base hs hG hm hcc hn=>?_)
 obtain⟨v,rfl⟩:=w2Z (show lb.size=1 by simpa using hn)
 have hv:VR w μ st v (.ptr oA gA 0 0):=hcc 0 (by simp)
 obtain⟨a,sa,cap,rfl,har,key⟩:=x0s hs hlk hm hA hne hv
 refine⟨fun W x hb=>?_,fun n os dk x hd=>?_⟩
 ·obtain⟨k1,k2⟩:=key W fun j hj _=>hb.block j hj
  exact(w2l x k1 har k2).mono fun e w' h=>⟨h.1,0,h.2⟩
 ·obtain⟨k1,k2⟩:=key (sortWorld Go.Proofs.encStr w blk base n dk os) fun j hj hne=>by
   show(grow (putRow Go.Proofs.encStr (Sort.ahead w n) blk base dk) os).heap[j]? =_
   rw[u5m,Array.getElem?_append_left (by simpa using hj),Array.getElem?_modify,if_neg (fun e=>hne e.symm)]
  exact(w2l x k1 har k2).mono fun e w' h=>⟨h.1,0,h.2⟩
end Go.Proofs.YtfacbpehlibilaaGreatDoor
