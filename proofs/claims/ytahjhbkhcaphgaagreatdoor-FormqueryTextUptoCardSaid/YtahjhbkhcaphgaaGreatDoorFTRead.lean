import Derived.Test.YtahjhbkhcaphgaaGreatDoorRows
import Derived.ChangeArms
import Derived.ChangeOld
import Derived.DataReads
import Derived.Test.YtahjhbkhcaphgaaGreatDoorFTData
set_option linter.unusedVariables false
set_option linter.unusedSimpArgs false
namespace Go.Proofs.YtahjhbkhcaphgaaGreatDoor
open Go Go.Am
theorem wF{a:Addr}(hs:a.spot=none)(x y:Nat):(a.add x).add y=⟨a.block,a.off+(x+y),none⟩:=by
 obtain⟨b,o,s⟩:=a
 simp only at hs
 subst hs
 unfold Addr.add
 by_cases hx:x=0
 ·subst hx
  by_cases hy:y=0
  ·subst hy;simp
  ·simp[hy]
 ·by_cases hy:y=0
  ·subst hy;simp[hx]
  ·simp[hx,hy,Nat.add_assoc]
def zF:Nat→Prop:=own (fun _=>none) ([]:St)
theorem kR{b:Nat}:¬zF b:=fun⟨_,_,_,h,_⟩=>by simp at h
def Rd(w:World)(cs:List Value)(ds:List D):Prop:=cs.length=ds.length∧∀j (h:j<ds.length),TR w zF (cs.getD j undef) (ds[j])
theorem Jd{w:World}:Rd w [] []:=⟨rfl,fun j h=>absurd h (Nat.not_lt_zero _)⟩
theorem wG{w:World}{v:Value}{d:D}(h:TR w zF v d):Rd w [v] [d]:=⟨rfl,fun j hj=>by
 have:j=0:=by simpa using hj
 subst this
 exact h⟩
theorem iY{w:World}{cs:List Value}{o z:Nat}{d1 d2:List D}(h1:Rd w ((cs.drop o).take z) d1)(hz:d1.length=z)(h2:Rd w (cs.drop (o+z)) d2):Rd w (cs.drop o) (d1++d2):=by
 have e:cs.drop o=(cs.drop o).take z++cs.drop (o+z):=by
  rw[←List.drop_drop];exact(List.take_append_drop z (cs.drop o)).symm
 rw[e]
 generalize (cs.drop o).take z=a at h1
 generalize cs.drop (o+z)=b at h2
 obtain⟨l1,h1⟩:=h1
 obtain⟨l2,h2⟩:=h2
 refine⟨by simp[l1,l2],fun j hj=>?_⟩
 by_cases hja:j<d1.length
 ·rw[List.getElem_append_left hja]
  have:(a++b).getD j undef=a.getD j undef:=by
   rw[List.getD_eq_getElem?_getD,List.getD_eq_getElem?_getD,List.getElem?_append_left (by omega)]
  rw[this]
  exact h1 j hja
 ·rw[List.getElem_append_right (by omega)]
  have:(a++b).getD j undef=b.getD (j-d1.length) undef:=by
   rw[List.getD_eq_getElem?_getD,List.getD_eq_getElem?_getD,List.getElem?_append_right (by omega),l1]
  rw[this]
  simp only[List.length_append]at hj
  exact h2 _ (by omega)
theorem DN{w:World}{cs:List Value}{o:Nat}(h:cs.length=o):Rd w (cs.drop o) []:=by
 rw[List.drop_eq_nil_of_le (by omega)];exact Jd
section
variable {H:Type} (enc:TypeId×Value→H) (P:Program) (w:World)
def Opens(t:TypeId){α:Type}(E:α→List D)(X:α→Prop)(n:Nat):Prop:=
 ∀m,m≤n→∀cs x,DataW.trod enc P w 0 (fun _=>true) true m t cs=some x→Rows.uptoBulk x.1≤1048576→∃v:α,Rd w cs (E v)∧X v
end
section
variable {H:Type} {enc:TypeId×Value→H} {P:Program} {w:World} {t:TypeId} {n:Nat}
theorem Opens.le{α:Type}{E:α→List D}{X:α→Prop}{m:Nat}(h:Opens enc P w t E X n)(hm:m≤n):Opens enc P w t E X m:=fun k hk=>h k (by omega)
theorem Opens.zero{α:Type}{E:α→List D}{X:α→Prop}:Opens enc P w t E X 0:=fun m hm cs x h=>by
 obtain rfl:m=0:=by omega
 simp[DataW.trod]at h
theorem Opens.mono{α:Type}{E:α→List D}{X Y:α→Prop}(h:Opens enc P w t E X n)(hX:∀v,X v→Y v):Opens enc P w t E Y n:=fun m hm cs x hx hb=>by
 obtain⟨v,h1,h2⟩:=h m hm cs x hx hb
 exact⟨v,h1,hX v h2⟩
theorem Bh{k:IntKind}(ht:P.underlying t=some (.int k)):Opens enc P w t (fun z:Int=>[.int k z]) (fun _=>True) n:=fun m _ cs x h _=>by
 obtain⟨z,rfl,rfl,_⟩:=DataW.trod_int ht h
 exact⟨z,wG (.int k z),trivial⟩
theorem gu(ht:P.underlying t=some .string):Opens enc P w t (fun s:Bs=>[.str s]) (fun s=>s.length≤1048576) n:=fun m _ cs x h hb=>by
 obtain⟨s,rfl,rfl,_⟩:=DataW.trod_string ht h
 simp only[Rows.uptoBulk]at hb
 have e:bs s.data.toList=s:=by simp[bs]
 refine⟨s.data.toList,wG ?_,by omega⟩
 have:=TR.str (w:=w) (own:=zF) s.data.toList
 rwa[e]at this
theorem kQ{d:DataW H}{l:List (DataW H)}(h:d∈l):Rows.uptoBulk d≤Rows.uptoBulkAll l:=by
 induction l with
 |nil=>cases h
 |cons x r ih=>
  simp only[Rows.uptoBulkAll]
  cases List.mem_cons.1 h with
  |inl e=>subst e;omega
  |inr e=>have:=ih e;omega
theorem Dd(d:DataW H):1≤Rows.uptoBulk d:=by
 cases d with
 |lit l=>cases l<;>simp[Rows.uptoBulk]
 |nil=>simp[Rows.uptoBulk]
 |ptr d=>simp[Rows.uptoBulk]
 |slice elems spare=>simp[Rows.uptoBulk]
 |agg parts=>simp[Rows.uptoBulk]
 |iface t d=>simp[Rows.uptoBulk]
 |map entries=>simp[Rows.uptoBulk]
 |held h=>simp[Rows.uptoBulk]
theorem Df(l:List (DataW H)):l.length≤Rows.uptoBulkAll l:=by
 induction l with
 |nil=>simp[Rows.uptoBulkAll]
 |cons x r ih=>
  simp only[Rows.uptoBulkAll,List.length_cons]
  have:=Dd x
  omega
theorem eV{e:TypeId}{z b:Nat}{α:Type}{E:α→List D}{X:α→Prop}(ht:P.underlying t=some (.slice e))(hz:P.cellsOf e=z)(hz0:0<z)(hb1:1≤b)(hb2:b≤100000000)(hE:∀v,(E v).length=z)
 (he:Opens enc P w e E X n):Opens enc P w t (fun l:List α=>[.sl false z b (rows E l)]) (fun l=>l.length≤1048576∧∀y∈l,X y) (n+1):=fun m hm cs x h hb=>by
 rcases DataW.trod_slice ht h with⟨rfl,rfl⟩|⟨a,len,cap,elems,rest,n',hn',rfl,rfl,_,hlc,_,hlen,hel,_,_⟩
 ·exact⟨[],wG (.sl false z b [] none 0 0 (fun _ _=>undef) rfl (Nat.le_refl _) (fun h=>by cases h) (by simp) hb1 (fun _ h=>by cases h) (.inl rfl) (fun i j hi=>absurd hi (Nat.not_lt_zero _))),by simp,fun y hy=>by cases hy⟩
 ·rw[hz]at hel
  have hbe:∀y∈elems,Rows.uptoBulk y.1≤1048576:=fun y hy=>by
   have h1:=kQ (l:=elems.map (·.1)) (List.mem_map_of_mem hy)
   simp only[Rows.uptoBulk]at hb
   omega
  have hlb:len≤1048576:=by
   have h1:=Df (elems.map (·.1))
   simp only[Rows.uptoBulk]at hb
   rw[List.length_map,hlen]at h1
   omega
  have key:∀i:Fin len,∃v:α,(∃ci,w.cells? 0 (a.add (i.1*z)) z=some ci∧Rd w ci (E v))∧X v:=fun i=>by
   have h1:=hel i.1 i.2
   rw[List.getElem?_eq_getElem (by omega)]at h1
   obtain⟨ci,hci,hx⟩:=Option.bind_eq_some_iff.1 h1
   obtain⟨v,hv,hX⟩:=he n' (by omega) ci _ hx (hbe _ (List.getElem_mem _))
   exact⟨v,⟨ci,hci,hv⟩,hX⟩
  let v:Fin len→α:=fun i=>Classical.choose (key i)
  have hv:∀i,(∃ci,w.cells? 0 (a.add (i.1*z)) z=some ci∧Rd w ci (E (v i)))∧X (v i):=fun i=>Classical.choose_spec (key i)
  have hrl:(rows E (List.ofFn v)).length=len:=by simp[rows]
  have hrow:∀i (hi:i<(rows E (List.ofFn v)).length),(rows E (List.ofFn v))[i]=E (v ⟨i,by omega⟩):=fun i hi=>by simp[rows]
  refine⟨List.ofFn v,wG (.sl false z b _ (some a) len cap (fun i j=>(w.cell? ⟨a.block,a.off+(i*z+j),none⟩).getD undef) (by rw[hrl]) hlc (fun h=>by cases h) ?_ hb1 (fun r hr=>?_) ?_ (fun i j hi hj=>?_)),by simp;exact hlb,fun y hy=>?_⟩
  ·rw[hrl]
   have:len*b≤1048576*100000000:=Nat.mul_le_mul hlb hb2
   simp only[top];omega
  ·simp only[rows,List.mem_map]at hr
   obtain⟨u,_,rfl⟩:=hr
   exact hE u
  ·by_cases h0:len=0
   ·left
    have:(rows E (List.ofFn v)).length=0:=by omega
    exact List.length_eq_zero_iff.1 this
   ·right
    obtain⟨⟨c0,hc0,hr0⟩,_⟩:=hv ⟨0,by omega⟩
    obtain⟨_,hcl,hcc⟩:=World.cells?_some hc0
    have h00:=hcc 0 hz0
    have ea:(a.add (0*z)).add 0=a:=by simp[Addr.add]
    rw[ea,List.getElem?_eq_getElem (by omega)]at h00
    have hspot:a.spot=none:=by
     unfold World.cell? at h00
     split at h00
     ·split at h00
      ·cases h00
      ·rename_i hs;simpa using hs
     ·cases h00
    have ha:a=⟨a.block,a.off,none⟩:=by
     cases a
     simp only at hspot
     rw[hspot]
    refine⟨a.block,a.off,congrArg some ha,World.cells?_block (a:=a) (by simpa[Addr.add]using hc0) hz0,kR,fun i j hi hj=>?_⟩
    obtain⟨⟨ci,hci,hri⟩,_⟩:=hv ⟨i,by omega⟩
    obtain⟨_,hcl,hcc⟩:=World.cells?_some hci
    have h1:=hcc j hj
    have e2:(a.add (i*z)).add j=⟨a.block,a.off+(i*z+j),none⟩:=wF hspot _ _
    rw[e2,List.getElem?_eq_getElem (by omega)]at h1
    rw[h1];rfl
  ·obtain⟨⟨ci,hci,hri⟩,_⟩:=hv ⟨i,by omega⟩
   obtain⟨_,hcl,hcc⟩:=World.cells?_some hci
   have e1:=hrow i hi
   have hjz:j<z:=by
    have:j<(E (v ⟨i,by omega⟩)).length:=by rw[←e1];exact hj
    rwa[hE]at this
   have h1:=hcc j hjz
   have hspot:a.spot=none:=by
    obtain⟨⟨c0,hc0,hr0⟩,_⟩:=hv ⟨0,by omega⟩
    obtain⟨_,OT,Nn⟩:=World.cells?_some hc0
    have h00:=Nn 0 hz0
    have ea:(a.add (0*z)).add 0=a:=by simp[Addr.add]
    rw[ea,List.getElem?_eq_getElem (by omega)]at h00
    unfold World.cell? at h00
    split at h00
    ·split at h00
     ·cases h00
     ·rename_i hs;simpa using hs
    ·cases h00
   have e2:(a.add (i*z)).add j=⟨a.block,a.off+(i*z+j),none⟩:=wF hspot _ _
   rw[e2,List.getElem?_eq_getElem (by omega)]at h1
   have h2:=hri.2 j (by rw[hE];exact hjz)
   rw[List.getD_eq_getElem?_getD,List.getElem?_eq_getElem (by omega)]at h2
   simp only[h1,Option.getD_some,e1]
   exact h2
  ·rw[List.mem_ofFn]at hy
   obtain⟨i,rfl⟩:=hy
   exact(hv i).2
theorem qx{fs:Array Field}{m:Nat}{cs:List Value}{x:DataW H×List MemPlace}(ht:P.underlying t=some (.struct fs))(h:DataW.trod enc P w 0 (fun _=>true) true m t cs=some x):cs.length=P.cellsOf t:=by
 obtain⟨_,_,_,_,hl,_⟩:=DataW.trod_struct ht h
 exact hl
theorem Y1{fs:Array Field}{m:Nat}{cs:List Value}{x:DataW H×List MemPlace}(ht:P.underlying t=some (.struct fs))(h:DataW.trod enc P w 0 (fun _=>true) true m t cs=some x)(hm:m≤n+1)
 (hb:Rows.uptoBulk x.1≤1048576) (j:Nat) (f:Field) (hj:fs[j]? =some f) {e:TypeId} {o z:Nat} (hf:f.type=e∧f.offset=o) (hz:P.cellsOf e=z) {α:Type} {E:α→List D} {X:α→Prop} (he:Opens enc P w e E X n):
 ∃v:α,Rd w ((cs.drop o).take z) (E v)∧X v:=by
 obtain⟨xs,n',rfl,rfl,hl,hlen,hfl⟩:=DataW.trod_struct ht h
 have h1:=hfl j f hj
 have hjs:j<fs.size:=by
  rcases Nat.lt_or_ge j fs.size with h|h
  ·exact h
  ·rw[Array.getElem?_eq_none h]at hj;cases hj
 rw[List.getElem?_eq_getElem (by omega),hf.1,hf.2,hz]at h1
 have hbe:=kQ (l:=xs.map (·.1)) (List.mem_map_of_mem (List.getElem_mem (show j<xs.length by omega)))
 simp only[Rows.uptoBulk]at hb
 exact he n' (by omega) _ _ h1 (by omega)
end
end Go.Proofs.YtahjhbkhcaphgaaGreatDoor
