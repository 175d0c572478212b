import Derived.Shelf.Strings.BuilderK
import Derived.WalkKit
import Derived.BigCall
import Derived.StillTailTactics
import Derived.Deep.QuietTactic
import Derived.BigQuiet
import Derived.RegionTactic
import Derived.BigRegion
import Derived.Deep.RegionHeld3
import Derived.Test.YtahjhbkhcaphgaaGreatDoorFTText
set_option linter.unusedVariables false
set_option linter.unusedSimpArgs false
namespace Go.Proofs.YtahjhbkhcaphgaaGreatDoor
open Go Go.Am Go.Shelf Go.RowKit
def FP(k:Int)(n:Bs)(ws:List Bs)(ts:List (Option Bs)):Option Bs:=
 if k=1 then some [116,114,117,101]
 else if k=2 then some (n++[40]++Lib.join ws [44]++[41])
 else if k=3 then ws[0]?.bind fun a=>ws[1]?.bind fun b=>some ([40]++a++[32,61,32]++b++[41])
 else if k=4 then(ts.getD 0 none).bind fun t=>some ([45]++t)
 else if k=8∨k=9 then(ts.getD 0 none).bind fun t=>some ((if k=8 then [97,108,108,32]else [115,111,109,101,32])++n++[32]++t)
 else if 5≤k∧k≤7 then(ts.getD 0 none).bind fun t=>(ts.getD 1 none).bind fun u=>some ([40]++t++(if k=5 then [32,38,32]else if k=6 then [32,124,32]else [32,62,32])++u++[41])
 else none
mutual
def L8:u6→Option Bs
 | .mk k n ws subs=>FP k n ws (Dg subs)
def Dg:List u6→List (Option Bs)
 | []=>[]
 |x::l=>L8 x::Dg l
end
theorem wI:∀l:List u6,Dg l=l.map L8
 | []=>rfl
 |x::l=>by rw[Dg,wI l];rfl
theorem aC(k:Int)(n:Bs)(ws:List Bs)(subs:List u6):L8 (.mk k n ws subs)=FP k n ws (subs.map L8):=by rw[L8,wI]
def gW(f:u6):Option Bs:=(L8 f).bind fun t=>chk (t.length≤top) (some t)
structure oY(w:World)(B:Nat)(v0 v1 v2 v3:Value)(f:u6):Prop where
 k:v0= .int .i64 f.kind
 n:v1= .string (bs f.name)
 ws:TR w (B≤ ·) v2 (.sl false 1 16 (rows w9 f.words))
 subs:TR w (B≤ ·) v3 (.sl false 4 72 (rows u6.cells f.subs))
theorem oY.below{w w':World}{B:Nat}{v0 v1 v2 v3:Value}{f:u6}(h:oY w B v0 v1 v2 v3 f)(hb:Below B w w'):oY w' B v0 v1 v2 v3 f:=
 ⟨h.k,h.n,h.ws.mono (fun blk _ ho=>⟨hb.block blk (by omega),ho⟩) hb.size,h.subs.mono (fun blk _ ho=>⟨hb.block blk (by omega),ho⟩) hb.size⟩
abbrev Bld(B b:Nat)(s:Bs)(w:World):Prop:=Lib.IsBuilderF 83 5 B b (Lib.byteCells s) w
def je(f:u6):Prop:=∀(t s:Bs) (B b:Nat) (w:World) (v0 v1 v2 v3:Value),L8 f=some t→s.length+t.length≤top→oY w B v0 v1 v2 v3 f→
 Bld B b s w→B≤w.heap.size→
 Calls Tryz.prog 41 #[.pointer (some ⟨b,0,none⟩),.agg #[v0,v1,v2,v3]] w fun e w'=>e= .returned (.tuple #[])∧Bld B b (s++t) w'∧Below B w w'∧Lib.OthersKept 5 (some b) w w'
theorem lA(x y:Bs):bs (x++y)=bs x++bs y:=by
 apply ByteArray.ext
 simp[bs]
theorem Jp(B b:Nat)(s x:Bs)(w:World)(h:Bld B b s w)(hl:s.length+x.length≤140737488355328)(hB:B≤w.heap.size):
 Calls Tryz.prog 39 #[.pointer (some ⟨b,0,none⟩),.string (bs x)] w fun e w'=>e= .returned (.tuple #[.int .i64 (bs x).size,.nilIface])∧Bld B b (s++x) w'∧Below B w w'∧Lib.OthersKept 5 (some b) w w':=by
 refine(Any.Builder_WriteString_k FK tK B b (Lib.byteCells s) (bs x) w h (by rw[Lib.byteCells_length,dI];exact hl) hB).mono fun e w' ⟨h1,h2,h3⟩=>⟨h1,.inr ?_,h3⟩
 rw[Lib.strCells_eq,fG]at h2
 unfold Lib.byteCells at*
 rw[List.map_append]
 exact h2
theorem FQ(B b:Nat)(s:Bs)(x:UInt8)(w:World)(h:Bld B b s w)(hl:s.length+1≤140737488355328)(hB:B≤w.heap.size):
 Calls Tryz.prog 62 #[.pointer (some ⟨b,0,none⟩),.int .u8 x.toNat] w fun e w'=>e= .returned .nilIface∧Bld B b (s++[x]) w'∧Below B w w'∧Lib.OthersKept 5 (some b) w w':=by
 refine(Any.Builder_WriteByte_k FL tK B b (Lib.byteCells s) x.toNat w h (by rw[Lib.byteCells_length];exact hl) hB).mono fun e w' ⟨h1,h2,h3⟩=>⟨h1,.inr ?_,h3⟩
 unfold Lib.byteCells at*
 rw[List.map_append]
 exact h2
theorem uY{w:World}{B:Nat}{v:Value}{l:List u6}(h:TR w (B≤ ·) v (.sl false 4 72 (rows u6.cells l)))(h0:0<l.length):
 ∃blk off cap,v= .slice (some ⟨blk,off,none⟩) l.length cap∧blk<B∧l.length≤cap∧∀i (hi:i<l.length),∃u0 u1 u2 u3,oY w B u0 u1 u2 u3 l[i]∧
  w.cell? ⟨blk,off+i*4,none⟩=some u0∧w.cell? ⟨blk,off+i*4+1,none⟩=some u1∧w.cell? ⟨blk,off+i*4+2,none⟩=some u2∧w.cell? ⟨blk,off+i*4+3,none⟩=some u3:=by
 cases h with
 |sl _ _ _ _ ad len cap cv hlen hcap hfull hb hb1 hn ha hc=>
  have Bl:len=l.length:=by rw[hlen];simp[Am.rows]
  subst Bl
  rcases ha with ha|⟨blk,off,rfl,hblk,ho,ha⟩
  ·obtain rfl:l=[]:=by simpa[Am.rows]using ha
   cases h0
  ·refine⟨blk,off,cap,rfl,Nat.lt_of_not_le ho,hcap,fun i hi=>?_⟩
   have hi':i<(rows u6.cells l).length:=by simpa[Am.rows]using hi
   have e:(rows u6.cells l)[i]=[.int .i64 l[i].kind,.str l[i].name,.sl false 1 16 (rows w9 l[i].words),.sl false 4 72 (rows u6.cells l[i].subs)]:=by
    rw[←u6.W6];simp[Am.rows]
   have g:∀j (hj:j<4),TR w (B≤ ·) (cv i j) ([D.int .i64 l[i].kind,.str l[i].name,.sl false 1 16 (rows w9 l[i].words),.sl false 4 72 (rows u6.cells l[i].subs)][j]'hj):=fun j hj=>by
    have:=hc i j hi' (by rw[e];exact hj)
    simpa only[e]using this
   have c:∀j (hj:j<4),w.cell? ⟨blk,off+(i*4+j),none⟩=some (cv i j):=fun j hj=>ha i j hi' hj
   have g0:=g 0 (by decide)
   have g1:=g 1 (by decide)
   refine⟨cv i 0,cv i 1,cv i 2,cv i 3,⟨?_,?_,g 2 (by decide),g 3 (by decide)⟩,c 0 (by decide),c 1 (by decide),c 2 (by decide),c 3 (by decide)⟩
   ·generalize cv i 0=u at g0⊢
    cases g0;rfl
   ·generalize cv i 1=u at g1⊢
    cases g1;rfl
theorem Dh{w:World}{B:Nat}{v:Value}{l:List Bs}(h:TR w (B≤ ·) v (.sl false 1 16 (rows w9 l)))(h0:0<l.length):
 ∃blk off cap,v= .slice (some ⟨blk,off,none⟩) l.length cap∧blk<B∧l.length≤cap∧∀i (hi:i<l.length),w.cell? ⟨blk,off+i,none⟩=some (.string (bs l[i])):=by
 cases h with
 |sl _ _ _ _ ad len cap cv hlen hcap hfull hb hb1 hn ha hc=>
  have Bl:len=l.length:=by rw[hlen];simp[Am.rows]
  subst Bl
  rcases ha with ha|⟨blk,off,rfl,hblk,ho,ha⟩
  ·obtain rfl:l=[]:=by simpa[Am.rows]using ha
   cases h0
  ·refine⟨blk,off,cap,rfl,Nat.lt_of_not_le ho,hcap,fun i hi=>?_⟩
   have hi':i<(rows w9 l).length:=by simpa[Am.rows]using hi
   have e:=ha i 0 hi' (by decide)
   have e2:=hc i 0 hi' (by simp[Am.rows,w9])
   have e3:(rows w9 l)[i][0]'(by simp[Am.rows,w9])= .str l[i]:=by simp[Am.rows,w9]
   rw[e3]at e2
   rw[Nat.mul_one,Nat.add_zero]at e
   rw[e]
   generalize cv i 0=u at e2⊢
   cases e2;rfl
theorem wJ{B b:Nat}{s:Bs}{w:World}(h:Bld B b s w):b<w.heap.size:=h.elim (·.lt) (·.lt)
theorem hJ{w w':World}{b:Nat}{c:Array Value}(hb:b<w.heap.size)(h:Lib.OthersKept 5 (some b) (w.alloc (.cells c 25)) w')(j:Nat):w'.cell? ⟨w.heap.size,j,none⟩=c[j]? :=by
 have e:=h w.heap.size (.cells c 25 (0,0)) (by simp only[World.alloc,Array.getElem?_push,if_true]) (fun e=>by have:=Option.some.inj e;omega) (fun c' fz e=>by cases e)
 simp[World.cell?, e]
theorem Di{B b:Nat}{s:Bs}{w w':World}(h:Bld B b s w)(hb:Below w.heap.size w w'):Bld B b s w':=by
 have key:∀p,Lib.BuilderAtF 83 5 B b p (Lib.byteCells s) w→Lib.BuilderAtF 83 5 B b p (Lib.byteCells s) w':=fun p ⟨hB,v,h1,h2,h3⟩=>by
  have up:∀k o,w.heap[k]? =some o→w'.heap[k]? =some o:=fun k o hk=>by
   rw[hb.block k (Array.getElem?_eq_some_iff.1 hk).1];exact hk
  refine⟨hB,v,up _ _ h1,⟨h2.1,?_⟩,h3⟩
  rcases h2.2 with hn|⟨g,cap,cur,fz,hv,hg,hh,r⟩
  ·exact .inl hn
  ·exact .inr ⟨g,cap,cur,fz,hv,hg,up _ _ hh,r⟩
 exact h.elim (fun x=>.inl (key _ x)) (fun x=>.inr (key _ x))
theorem Dj{e:TypeId}{b:Option Nat}{a w w':World}(h:Lib.OthersKept e b a w)(hb:Below w.heap.size w w'):Lib.OthersKept e b a w':=fun k o hk h1 h2=>by
 have:=h k o hk h1 h2
 rw[hb.block k (Array.getElem?_eq_some_iff.1 this).1]
 exact this
set_option maxRecDepth 100000 in
set_option maxHeartbeats 1000000 in
theorem OC(k:Int)(n:Bs)(ws:List Bs)(subs:List u6)(hk:k=2):je (.mk k n ws subs):=by
 intro t s B b w v0 v1 v2 v3 ht hl hf hb hB
 subst hk
 rw[aC]at ht
 obtain rfl:n++[40]++Lib.join ws [44]++[41]=t:=Option.some.inj ht
 obtain⟨rfl,rfl,h2,h3⟩:=hf
 simp only[u6.jR,u6.jS,u6.qX]at*
 have b0:Below B w (w.alloc (.cells #[.int .i64 2,.string (bs n),v2,v3] 25)):=(Below.refl B w).alloc hB _
 have o0:Lib.OthersKept 5 (some b) w (w.alloc (.cells #[.int .i64 2,.string (bs n),v2,v3] 25)):=(Lib.OthersKept.refl 5 (some b) w).alloc _
 have hbl:=wJ hb
 have h2':=h2.mono (Li:=(B≤ ·)) (w':=(w.alloc (.cells #[.int .i64 2,.string (bs n),v2,v3] 25)).drew) (fun blk _ ho=>⟨b0.block blk (by omega),ho⟩) b0.size
 have hj:=(qy [44] h2' (by simp[top]at hl ⊢; omega)).mono (R':=fun e w'=>e= .returned (.string (bs (Lib.join ws [44])))∧Below (w.heap.size+1) (w.alloc (.cells #[.int .i64 2,.string (bs n),v2,v3] 25)) w'∧
  w'.cell? ⟨w.heap.size,0,none⟩=some (.int .i64 2)∧w'.cell? ⟨w.heap.size,1,none⟩=some (.string (bs n))∧w'.cell? ⟨w.heap.size,2,none⟩=some v2∧
  Calls Tryz.prog 39 #[.pointer (some ⟨b,0,none⟩),.string (bs n++bs [40]++bs (Lib.join ws [44])++bs [41])] w' fun e w2=>e= .returned (.tuple #[.int .i64 (bs (n++[40]++Lib.join ws [44]++[41])).size,.nilIface])∧Bld B b (s++(n++[40]++Lib.join ws [44]++[41])) w2∧Below B w w2∧Lib.OthersKept 5 (some b) w w2) (fun e w' ⟨he,hw⟩=>by
  have hw':Below (w.heap.size+1) (w.alloc (.cells #[.int .i64 2,.string (bs n),v2,v3] 25)) w':=by
   have hz:(w.alloc (.cells #[.int .i64 2,.string (bs n),v2,v3] 25)).drew.heap.size=w.heap.size+1:=by simp only[World.drew,World.alloc,Array.size_push]
   exact⟨hw.os,hw.tape,hw.output,hw.size,fun k hk=>hw.block k (by rw[hz];exact hk)⟩
  refine⟨he,hw',?_,?_,?_,?_⟩
  ·exact(hw'.cell (p:=⟨w.heap.size,0,none⟩) (by simp)).trans (by simp)
  ·exact(hw'.cell (p:=⟨w.heap.size,1,none⟩) (by simp)).trans (by simp)
  ·exact(hw'.cell (p:=⟨w.heap.size,2,none⟩) (by simp)).trans (by simp)
  ·have hbw:Bld B b s w':=Di (show Bld B b s (w.alloc (.cells #[.int .i64 2,.string (bs n),v2,v3] 25)).drew from hb.alloc _) hw
   have bb:Below B w w':=b0.trans (hw'.mono (by omega))
   have:=Jp B b s (n++[40]++Lib.join ws [44]++[41]) w' hbw hl (Nat.le_trans hB bb.size)
   rw[←lA, ←lA, ←lA]
   exact this.mono fun e w2 ⟨g0,g1,g2,g3⟩=>⟨g0,g1,bb.trans g2,(Dj o0 ⟨hw.os,hw.tape,hw.output,hw.size,hw.block⟩).trans g3⟩)
 have q0:(bs n).size≤140737488355328:=by simp[top]at hl;rw[dI];omega
 have q1:(bs (Lib.join ws [44])).size≤140737488355328:=by simp[top]at hl;rw[dI];omega
 have f1:¬9223372036854775807<(bs n).size+1:=by omega
 have f2:¬9223372036854775807<(bs n).size+1+(bs (Lib.join ws [44])).size:=by omega
 have f3:¬9223372036854775807<(bs n).size+1+(bs (Lib.join ws [44])).size+1:=by omega
 clear ht h2 h3 h2' hl hb hB b0 o0
 go_enter Tryz.func41,Tryz.ntmps41
 go_wp2
 go_region_with (first|(go_at_call 16;refine hj.mono ?_;rintro e W1 ⟨rfl,j1,j2,j3,j4,j5⟩)|(go_at_call 39;refine(‹Calls Tryz.prog 39 _ _ _›).mono ?_;rintro e W2 ⟨rfl,j1,j2,j3⟩))
 all_goals
  go_wp2
  refine bodyPost_end (results_none rfl _ _ _) rfl ?_
  exact⟨rfl,by assumption,by assumption,by assumption⟩
set_option maxHeartbeats 1000000 in
theorem OD(k:Int)(n:Bs)(ws:List Bs)(subs:List u6)(hk:k=1):je (.mk k n ws subs):=by
 intro t s B b w v0 v1 v2 v3 ht hl hf hb hB
 subst hk
 rw[aC]at ht
 obtain rfl: [116,114,117,101]=t:=Option.some.inj ht
 obtain⟨rfl,rfl,h2,h3⟩:=hf
 simp only[u6.jR,u6.jS]at*
 clear ht h2 h3
 have hc:=Jp B b s [116,114,117,101] _ (hb.alloc (.cells #[.int .i64 1,.string (bs n),v2,v3] 25)) hl (by simp;omega)
 have b0:Below B w (w.alloc (.cells #[.int .i64 1,.string (bs n),v2,v3] 25)):=(Below.refl B w).alloc hB _
 have o0:Lib.OthersKept 5 (some b) w (w.alloc (.cells #[.int .i64 1,.string (bs n),v2,v3] 25)):=(Lib.OthersKept.refl 5 (some b) w).alloc _
 go_enter Tryz.func41,Tryz.ntmps41
 go_wp2_with (go_at_call 39;refine hc.mono ?_)
 first|rintro e W1 rfl g1 g2 g3|rintro e W1 ⟨rfl,g1,g2,g3⟩
 go_wp2
 refine bodyPost_end (results_none rfl _ _ _) rfl ?_
 exact⟨rfl,g1,b0.trans g2,o0.trans g3⟩
set_option maxHeartbeats 1000000 in
theorem OE(k:Int)(n:Bs)(ws:List Bs)(subs:List u6)(hk:k=4)(ih:∀x∈subs,je x):je (.mk k n ws subs):=by
 intro t s B b w v0 v1 v2 v3 ht hl hf hb hB
 subst hk
 rw[aC]at ht
 obtain⟨tx,hx,ht'⟩:=Option.bind_eq_some_iff.1 (show((subs.map L8).getD 0 none).bind (fun t=>some ([45]++t))=some t from ht)
 obtain rfl:=Option.some.inj ht'
 have h0:0<subs.length:=by
  cases subs with
  |nil=>cases hx
  |cons=>simp
 have hx':L8 subs[0]=some tx:=by simpa[List.getD_eq_getElem?_getD,h0]using hx
 obtain⟨rfl,rfl,h2,h3⟩:=hf
 obtain⟨blk,off,cap,rfl,hblk,hcap,hsub⟩:=uY h3 h0
 obtain⟨u0,u1,u2,u3,hf0,c0,c1,c2,c3⟩:=hsub 0 h0
 simp only[u6.jR,u6.jS,u6.qY,Nat.zero_mul,Nat.add_zero]at*
 have b0:Below B w (w.alloc (.cells #[.int .i64 4,.string (bs n),v2,.slice (some ⟨blk,off,none⟩) subs.length cap] 25)):=(Below.refl B w).alloc hB _
 have o0:Lib.OthersKept 5 (some b) w (w.alloc (.cells #[.int .i64 4,.string (bs n),v2,.slice (some ⟨blk,off,none⟩) subs.length cap] 25)):=(Lib.OthersKept.refl 5 (some b) w).alloc _
 have hc:=FQ B b s 45 _ (hb.alloc (.cells #[.int .i64 4,.string (bs n),v2,.slice (some ⟨blk,off,none⟩) subs.length cap] 25)) (by simp[top]at hl;omega) (by simp;omega)
 have hbl:=wJ hb
 clear ht ht' hx h2 h3 hsub
 go_enter Tryz.func41,Tryz.ntmps41
 go_wp2_with (go_at_call 62;refine hc.mono ?_)
 first|rintro e W1 rfl g1 g2 g3|rintro e W1 ⟨rfl,g1,g2,g3⟩
 have bx:=hJ hbl g3 3
 replace bx:W1.cell? ⟨w.heap.size,3,none⟩=some (.slice (some ⟨blk,off,none⟩) subs.length cap):=bx
 have gb:=b0.trans g2
 have hw:=ih _ (List.getElem_mem h0) tx (s++[45]) B b W1 u0 u1 u2 u3 hx' (by simp[top]at hl ⊢; omega) (hf0.below gb) g1 (Nat.le_trans hB gb.size)
 have e0:=(gb.cell (p:=⟨blk,off,none⟩) hblk).trans c0
 have e1:=(gb.cell (p:=⟨blk,off+1,none⟩) hblk).trans c1
 have e2:=(gb.cell (p:=⟨blk,off+2,none⟩) hblk).trans c2
 have e3:=(gb.cell (p:=⟨blk,off+3,none⟩) hblk).trans c3
 clear c0 c1 c2 c3
 go_wp2_with (go_at_call 41;refine hw.mono ?_)
 first|rintro e W2 rfl k1 k2 k3|rintro e W2 ⟨rfl,k1,k2,k3⟩
 go_wp2
 refine bodyPost_end (results_none rfl _ _ _) rfl ?_
 exact⟨rfl,by simpa using k1,gb.trans k2,(o0.trans g3).trans k3⟩
set_option maxRecDepth 100000 in
set_option maxHeartbeats 1000000 in
theorem OG(k:Int)(n:Bs)(ws:List Bs)(subs:List u6)(hk:k=3):je (.mk k n ws subs):=by
 intro t s B b w v0 v1 v2 v3 ht hl hf hb hB
 subst hk
 rw[aC]at ht
 obtain⟨x,hx,ht'⟩:=Option.bind_eq_some_iff.1 (show(ws[0]?.bind fun a=>ws[1]?.bind fun b=>some ([40]++a++[32,61,32]++b++[41]))=some t from ht)
 obtain⟨y,hy,ht''⟩:=Option.bind_eq_some_iff.1 ht'
 obtain rfl:=Option.some.inj ht''
 obtain⟨h0,hx'⟩:=List.getElem?_eq_some_iff.1 hx
 obtain⟨h1,hy'⟩:=List.getElem?_eq_some_iff.1 hy
 obtain⟨rfl,rfl,h2,h3⟩:=hf
 obtain⟨blk,off,cap,rfl,hblk,hcap,hw⟩:=Dh h2 h0
 have c0:=hw 0 h0
 have c1:=hw 1 h1
 simp only[u6.jR,u6.jS,u6.qX,Nat.add_zero]at*
 rw[hx']at c0
 rw[hy']at c1
 have b0:Below B w (w.alloc (.cells #[.int .i64 3,.string (bs n),.slice (some ⟨blk,off,none⟩) ws.length cap,v3] 25)):=(Below.refl B w).alloc hB _
 have o0:Lib.OthersKept 5 (some b) w (w.alloc (.cells #[.int .i64 3,.string (bs n),.slice (some ⟨blk,off,none⟩) ws.length cap,v3] 25)):=(Lib.OthersKept.refl 5 (some b) w).alloc _
 have hc:=Jp B b s ([40]++x++[32,61,32]++y++[41]) _ (show Bld B b s (w.alloc (.cells #[.int .i64 3,.string (bs n),.slice (some ⟨blk,off,none⟩) ws.length cap,v3] 25)).drew from hb.alloc _) hl (by simp;omega)
 have e0:=(b0.cell (p:=⟨blk,off,none⟩) hblk).trans c0
 have e1:=(b0.cell (p:=⟨blk,off+1,none⟩) hblk).trans c1
 have q0:(bs x).size≤140737488355328:=by simp[top]at hl;rw[dI];omega
 have q1:(bs y).size≤140737488355328:=by simp[top]at hl;rw[dI];omega
 have k0:0<ws.length:=h0
 have k1:1<ws.length:=h1
 clear ht ht' ht'' h2 h3 hw c0 c1 hx hy hx' hy' hl hb hB h0 h1
 have f1:¬9223372036854775807<1+(bs x).size:=by omega
 have f2:¬9223372036854775807<1+(bs x).size+3:=by omega
 have f3:¬9223372036854775807<1+(bs x).size+3+(bs y).size:=by omega
 have f4:¬9223372036854775807<1+(bs x).size+3+(bs y).size+1:=by omega
 have h1i:(1:Int)<(ws.length:Int):=by omega
 rw[lA,lA,lA,lA]at hc
 go_enter Tryz.func41,Tryz.ntmps41
 go_wp2
 refine wp_region_still_tail 13 (by kernel_rfl) (by kernel_rfl) ?_
 change wpStill _ _ (World.drew _) _ _ _
 simp only[List.take_succ_cons,List.take_zero,List.drop_succ_cons,List.drop_zero]
 repeat still_step
 refine wpStill_nil ?_
 go_wp2_with (go_at_call 39;refine hc.mono ?_)
 first|rintro e W1 rfl g1 g2 g3|rintro e W1 ⟨rfl,g1,g2,g3⟩
 go_wp2
 refine bodyPost_end (results_none rfl _ _ _) rfl ?_
 exact⟨rfl,g1,b0.trans (Below.trans (show Below B _ _ from(Below.refl B _).drew) g2),o0.trans g3⟩
set_option maxRecDepth 100000 in
set_option maxHeartbeats 4000000 in
theorem OH(k:Int)(n:Bs)(ws:List Bs)(subs:List u6)(hk:k=8∨k=9)(ih:∀x∈subs,je x):je (.mk k n ws subs):=by
 intro t s B b w v0 v1 v2 v3 ht hl hf hb hB
 obtain⟨wd,hwd,hw5⟩:∃wd:Bs,wd=(if k=8 then [97,108,108,32]else [115,111,109,101,32])∧wd.length≤5:=⟨_,rfl,by split<;>decide⟩
 rw[aC]at ht
 obtain⟨tx,hx,ht'⟩:=Option.bind_eq_some_iff.1 (show((subs.map L8).getD 0 none).bind (fun t=>some (wd++n++[32]++t))=some t by
  rw[←ht,hwd]
  rcases hk with rfl|rfl<;>rfl)
 obtain rfl:=Option.some.inj ht'
 have h0:0<subs.length:=by
  cases subs with
  |nil=>cases hx
  |cons=>simp
 have hx':L8 subs[0]=some tx:=by simpa[List.getD_eq_getElem?_getD,h0]using hx
 obtain⟨rfl,rfl,h2,h3⟩:=hf
 obtain⟨blk,off,cap,rfl,hblk,hcap,hsub⟩:=uY h3 h0
 obtain⟨u0,u1,u2,u3,hf0,c0,c1,c2,c3⟩:=hsub 0 h0
 simp only[u6.jR,u6.jS,u6.qY,Nat.zero_mul,Nat.add_zero]at*
 have b0:Below B w (w.alloc (.cells #[.int .i64 k,.string (bs n),v2,.slice (some ⟨blk,off,none⟩) subs.length cap] 25)):=(Below.refl B w).alloc hB _
 have o0:Lib.OthersKept 5 (some b) w (w.alloc (.cells #[.int .i64 k,.string (bs n),v2,.slice (some ⟨blk,off,none⟩) subs.length cap] 25)):=(Lib.OthersKept.refl 5 (some b) w).alloc _
 have hc:=Jp B b s (wd++n++[32]) _ (hb.alloc (.cells #[.int .i64 k,.string (bs n),v2,.slice (some ⟨blk,off,none⟩) subs.length cap] 25)) (by simp[top]at hl ⊢; omega) (by simp;omega)
 have hbl:=wJ hb
 have q0:(bs n).size≤140737488355328:=by simp[top]at hl;rw[dI];omega
 have f1:¬9223372036854775807<4+(bs n).size:=by omega
 have f2:¬9223372036854775807<5+(bs n).size:=by omega
 have f3:¬9223372036854775807<4+(bs n).size+1:=by omega
 have f4:¬9223372036854775807<5+(bs n).size+1:=by omega
 rw[lA,lA]at hc
 clear ht ht' hx h2 h3 hsub
 rcases hk with rfl|rfl
 all_goals
  subst hwd
  have hc':=hc
  simp only[show((8:Int)=8)=True by simp,show((9:Int)=8)=False by decide,if_true,if_false]at hc'
  clear hc
  go_enter Tryz.func41,Tryz.ntmps41
  go_wp2_with (go_at_call 39;refine hc'.mono ?_)
  first|rintro e W1 rfl g1 g2 g3|rintro e W1 ⟨rfl,g1,g2,g3⟩
  have bx:=hJ hbl g3 3
  replace bx:W1.cell? ⟨w.heap.size,3,none⟩=some (.slice (some ⟨blk,off,none⟩) subs.length cap):=bx
  have gb:=b0.trans g2
  have hw:=ih _ (List.getElem_mem h0) tx _ B b W1 u0 u1 u2 u3 hx' (by simp[top]at hl ⊢; omega) (hf0.below gb) g1 (Nat.le_trans hB gb.size)
  have e0:=(gb.cell (p:=⟨blk,off,none⟩) hblk).trans c0
  have e1:=(gb.cell (p:=⟨blk,off+1,none⟩) hblk).trans c1
  have e2:=(gb.cell (p:=⟨blk,off+2,none⟩) hblk).trans c2
  have e3:=(gb.cell (p:=⟨blk,off+3,none⟩) hblk).trans c3
  clear c0 c1 c2 c3
  go_wp2_with (go_at_call 41;refine hw.mono ?_)
  first|rintro e W2 rfl k1 k2 k3|rintro e W2 ⟨rfl,k1,k2,k3⟩
  go_wp2
  refine bodyPost_end (results_none rfl _ _ _) rfl ?_
  exact⟨rfl,by simpa using k1,gb.trans k2,(o0.trans g3).trans k3⟩
set_option maxRecDepth 100000 in
set_option maxHeartbeats 4000000 in
theorem OI(k:Int)(n:Bs)(ws:List Bs)(subs:List u6)(hk:k=5∨k=6∨k=7)(ih:∀x∈subs,je x):je (.mk k n ws subs):=by
 intro t s B b w v0 v1 v2 v3 ht hl hf hb hB
 obtain⟨wd,hwd,hw5⟩:∃wd:Bs,wd=(if k=5 then [32,38,32]else if k=6 then [32,124,32]else [32,62,32])∧wd.length=3:=⟨_,rfl,by by_cases h5:k=5<;>by_cases h6:k=6<;>simp[h5,h6]⟩
 rw[aC]at ht
 obtain⟨tx,hx,ht'⟩:=Option.bind_eq_some_iff.1 (show((subs.map L8).getD 0 none).bind (fun t=>((subs.map L8).getD 1 none).bind fun u=>some ([40]++t++wd++u++[41]))=some t by
  rw[←ht,hwd]
  rcases hk with rfl|rfl|rfl<;>rfl)
 obtain⟨ty,hy,ht''⟩:=Option.bind_eq_some_iff.1 ht'
 obtain rfl:=Option.some.inj ht''
 have h1:1<subs.length:=by
  match subs,hy with
  | _::_::_,_=>simp
 have h0:0<subs.length:=by omega
 have hx':L8 subs[0]=some tx:=by simpa[List.getD_eq_getElem?_getD,h0]using hx
 have hy':L8 subs[1]=some ty:=by simpa[List.getD_eq_getElem?_getD,h1]using hy
 obtain⟨rfl,rfl,h2,h3⟩:=hf
 obtain⟨blk,off,cap,rfl,hblk,hcap,hsub⟩:=uY h3 h0
 obtain⟨u0,u1,u2,u3,hf0,c0,c1,c2,c3⟩:=hsub 0 h0
 obtain⟨z0,z1,z2,z3,hf1,d0,d1,d2,d3⟩:=hsub 1 h1
 simp only[u6.jR,u6.jS,u6.qY,Nat.zero_mul,Nat.add_zero,Nat.one_mul]at*
 have b0:Below B w (w.alloc (.cells #[.int .i64 k,.string (bs n),v2,.slice (some ⟨blk,off,none⟩) subs.length cap] 25)):=(Below.refl B w).alloc hB _
 have o0:Lib.OthersKept 5 (some b) w (w.alloc (.cells #[.int .i64 k,.string (bs n),v2,.slice (some ⟨blk,off,none⟩) subs.length cap] 25)):=(Lib.OthersKept.refl 5 (some b) w).alloc _
 have hc:=FQ B b s 40 _ (hb.alloc (.cells #[.int .i64 k,.string (bs n),v2,.slice (some ⟨blk,off,none⟩) subs.length cap] 25)) (by simp[top]at hl;omega) (by simp;omega)
 have hbl:=wJ hb
 have k0:0<subs.length:=h0
 have k1:1<subs.length:=h1
 have k1i:(1:Int)<(subs.length:Int):=by omega
 clear ht ht' ht'' hx hy h2 h3 hsub
 have wq0:wr .i64 0=0:=rfl
 have wq1:wr .i64 1=1:=rfl
 have wq2:wr .i64 2=2:=rfl
 rcases hk with rfl|rfl|rfl
 all_goals
  simp at hwd
  go_enter Tryz.func41,Tryz.ntmps41
  go_wp2_with (go_at_call 62;refine hc.mono ?_)
  first|rintro e W1 rfl g1 g2 g3|rintro e W1 ⟨rfl,g1,g2,g3⟩
  have bx0:=hJ hbl g3 0
  have bx:=hJ hbl g3 3
  replace bx:W1.cell? ⟨w.heap.size,3,none⟩=some (.slice (some ⟨blk,off,none⟩) subs.length cap):=bx
  have gb:=b0.trans g2
  have hw:=ih _ (List.getElem_mem h0) tx _ B b W1 u0 u1 u2 u3 hx' (by simp[top]at hl ⊢; omega) (hf0.below gb) g1 (Nat.le_trans hB gb.size)
  have e0:=(gb.cell (p:=⟨blk,off,none⟩) hblk).trans c0
  have e1:=(gb.cell (p:=⟨blk,off+1,none⟩) hblk).trans c1
  have e2:=(gb.cell (p:=⟨blk,off+2,none⟩) hblk).trans c2
  have e3:=(gb.cell (p:=⟨blk,off+3,none⟩) hblk).trans c3
  go_wp2_with (go_at_call 41;refine hw.mono ?_)
  first|rintro e W2 rfl m1 m2 m3|rintro e W2 ⟨rfl,m1,m2,m3⟩
  have gb2:=gb.trans m2
  have hB2:=Nat.le_trans hB gb2.size
  have by0:=hJ hbl (g3.trans m3) 0
  simp only[List.getElem?_toArray,List.getElem?_cons_zero]at by0
  have by3:=hJ hbl (g3.trans m3) 3
  replace by3:W2.cell? ⟨w.heap.size,3,none⟩=some (.slice (some ⟨blk,off,none⟩) subs.length cap):=by3
  have hlt:w.heap.size<W2.heap.size:=World.block_lt_of_cell? _ _ by3
  have hs:=Jp B b _ wd (W2.alloc (.cells #[.string ⟨#[32,38,32]⟩,.string ⟨#[32,124,32]⟩,.string ⟨#[32,62,32]⟩] 9)) (m1.alloc _) (by simp[top]at hl ⊢; omega) (by have:=gb2.size;simp;omega)
  subst hwd
  go_wp2_with (go_at_call 39;refine hs.mono ?_)
  first|rintro e W3 rfl l1 l2 l3|rintro e W3 ⟨rfl,l1,l2,l3⟩
  have gb3:=(gb2.alloc hB2 (.cells #[.string ⟨#[32,38,32]⟩,.string ⟨#[32,124,32]⟩,.string ⟨#[32,62,32]⟩] 9)).trans l2
  have ok3:=((o0.trans g3).trans m3).alloc (.cells #[.string ⟨#[32,38,32]⟩,.string ⟨#[32,124,32]⟩,.string ⟨#[32,62,32]⟩] 9) |>.trans l3
  have bz3:=hJ hbl (((g3.trans m3).alloc (.cells #[.string ⟨#[32,38,32]⟩,.string ⟨#[32,124,32]⟩,.string ⟨#[32,62,32]⟩] 9)).trans l3) 3
  replace bz3:W3.cell? ⟨w.heap.size,3,none⟩=some (.slice (some ⟨blk,off,none⟩) subs.length cap):=bz3
  have hw2:=ih _ (List.getElem_mem h1) ty _ B b W3 z0 z1 z2 z3 hy' (by simp[top]at hl ⊢; omega) (hf1.below gb3) l1 (Nat.le_trans hB gb3.size)
  have e0:=(gb3.cell (p:=⟨blk,off+4,none⟩) hblk).trans d0
  have e1:=(gb3.cell (p:=⟨blk,off+4+1,none⟩) hblk).trans d1
  have e2:=(gb3.cell (p:=⟨blk,off+4+2,none⟩) hblk).trans d2
  have e3:=(gb3.cell (p:=⟨blk,off+4+3,none⟩) hblk).trans d3
  go_wp2_with (go_at_call 41;refine hw2.mono ?_)
  first|rintro e W4 rfl p1 p2 p3|rintro e W4 ⟨rfl,p1,p2,p3⟩
  have gb4:=gb3.trans p2
  have hf:=FQ B b _ 41 W4 p1 (by simp[top]at hl ⊢; omega) (Nat.le_trans hB gb4.size)
  go_wp2_with (go_at_call 62;refine hf.mono ?_)
  first|rintro e W5 rfl r1 r2 r3|rintro e W5 ⟨rfl,r1,r2,r3⟩
  go_wp2
  refine bodyPost_end (results_none rfl _ _ _) rfl ?_
  exact⟨rfl,by simpa using r1,gb4.trans r2,(ok3.trans p3).trans r3⟩
theorem DU:∀f:u6,je f
 | .mk k n ws subs=>by
   have ih:∀x∈subs,je x:=fun x hx=>DU x
   by_cases h1:k=1
   ·exact OD k n ws subs h1
   by_cases h2:k=2
   ·exact OC k n ws subs h2
   by_cases h3:k=3
   ·exact OG k n ws subs h3
   by_cases h4:k=4
   ·exact OE k n ws subs h4 ih
   by_cases h8:k=8∨k=9
   ·exact OH k n ws subs h8 ih
   by_cases h5:5≤k∧k≤7
   ·exact OI k n ws subs (by omega) ih
   intro t s B b w v0 v1 v2 v3 ht
   rw[aC,FP,if_neg h1,if_neg h2,if_neg h3,if_neg h4,if_neg h8,if_neg h5]at ht
   cases ht
termination_by f=>SizeOf.sizeOf f
 decreasing_by
  have:=List.sizeOf_lt_of_mem hx
  simp
  omega
set_option maxRecDepth 100000 in
set_option maxHeartbeats 1000000 in
theorem xQ(f:u6)(t:Bs)(w:World)(v0 v1 v2 v3:Value)(ht:L8 f=some t)(hl:t.length≤top)(hf:oY w w.heap.size v0 v1 v2 v3 f):
 Calls Tryz.prog 17 #[.agg #[v0,v1,v2,v3]] w fun e w'=>e= .returned (.string (bs t))∧Below w.heap.size w w':=by
 have b1:Below w.heap.size w ((w.alloc (.cells #[v0,v1,v2,v3] 25)).alloc (.cells #[.pointer none,.slice none 0 0] 83)):=((Below.refl _ w).alloc (Nat.le_refl _) _).alloc (by simp) _
 have hb:Bld w.heap.size (w.heap.size+1) [] ((w.alloc (.cells #[v0,v1,v2,v3] 25)).alloc (.cells #[.pointer none,.slice none 0 0] 83)):=
  .inl ⟨Nat.le_succ _,.slice none 0 0,by simp only[World.alloc,Array.getElem?_push,Array.size_push,if_true],World.ownsRowF_nil _ _ _ _,by simp[Value.ownBlock]⟩
 have hw:=DU f t [] w.heap.size (w.heap.size+1) _ v0 v1 v2 v3 ht (by simpa using hl) (hf.below b1) hb b1.size
 clear hf hb
 go_enter Tryz.func17,Tryz.ntmps17
 go_wp2_with (go_at_call 41;refine hw.mono ?_)
 first|rintro e W1 rfl g1 g2 g3|rintro e W1 ⟨rfl,g1,g2,g3⟩
 have hs:=Any.Builder_String_any_k FM tK w.heap.size (w.heap.size+1) ([]++t) W1 g1 (Nat.le_trans b1.size g2.size)
 replace hs:Calls Tryz.prog 40 #[.pointer (some ⟨w.heap.size+1,0,none⟩)] W1 fun e w'=>e= .returned (.string (bs t))∧Below w.heap.size w w':=hs.mono fun e w' ⟨a,_,b,_⟩=>⟨a,(b1.trans g2).trans b⟩
 go_wp2_with (go_at_call 40;refine hs.mono ?_)
 first|rintro e W2 rfl k1|rintro e W2 ⟨rfl,k1⟩
 go_wp2
 go_ret
 exact⟨rfl,k1⟩
theorem pK(f:u6)(r:Bs)(h:gW f=some r):Pure Tryz.prog gl 17 [.agg [.int .i64 f.kind,.str f.name,.sl false 1 16 (rows w9 f.words),.sl false 4 72 (rows u6.cells f.subs)]] (.str r):=by
 intro st
 obtain⟨t,ht,h⟩:=Option.bind_eq_some_iff.1 h
 obtain⟨hl,h⟩:=Br h
 obtain rfl:=Option.some.inj h
 refine⟨trivial,fun w μ vs hs hg hn hv=>?_⟩
 have e0:=hv 0 (by simp)
 obtain⟨a,rfl⟩:=qU (show vs.size=1 by simpa using hn)
 obtain⟨us,rfl,hu,hc⟩:=pR (show VR w μ st a (.agg [.int .i64 f.kind,.str f.name,.sl false 1 16 (rows w9 f.words),.sl false 4 72 (rows u6.cells f.subs)])from e0)
 obtain⟨v0,v1,v2,v3,rfl⟩:∃v0 v1 v2 v3,us= #[v0,v1,v2,v3]:=by
  obtain⟨l⟩:=us
  match l,hu with
  | [a,b,c,d],_=>exact⟨a,b,c,d,rfl⟩
 have c0:VR w μ st v0 (.int .i64 f.kind):=hc 0 (by simp)
 have c1:VR w μ st v1 (.str f.name):=hc 1 (by simp)
 have c2:VR w μ st v2 (.sl false 1 16 (rows w9 f.words)):=hc 2 (by simp)
 have c3:VR w μ st v3 (.sl false 4 72 (rows u6.cells f.subs)):=hc 3 (by simp)
 have out:∀ {v:Value} {n b:Nat} {es:List (List D)},VR w μ st v (.sl false n b es)→TR w (w.heap.size≤ ·) v (.sl false n b es):=fun h=>by
  cases h with
  |tr h=>exact h.mono (fun blk h1 _=>⟨rfl,by omega⟩) (Nat.le_refl _)
 have hf:oY w w.heap.size v0 v1 v2 v3 f:=⟨aN c0,aS c1,out c2,out c3⟩
 refine .inl ⟨by unfold fB;rw[Tryz.func17];kernel_rfl,?_⟩
 refine(xQ f t w v0 v1 v2 v3 ht hl hf).mono fun e w' ⟨h1,h2⟩=>?_
 have g:=jh (w':=w') hs h2.size h2.os h2.output ⟨h2.tape,trivial⟩ (fun j hj=>h2.block j hj)
 exact⟨_,_,st,μ,h1,⟨rfl,rfl⟩,g.1,g.2,iF _ _ _ _⟩
end Go.Proofs.YtahjhbkhcaphgaaGreatDoor
