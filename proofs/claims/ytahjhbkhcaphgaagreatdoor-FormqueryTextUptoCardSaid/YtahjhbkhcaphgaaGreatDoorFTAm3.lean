/-
 AM, part 34: calls with less told of the arguments; a place for a slice that is still nil.
-/
import Derived.Scope
import Derived.Sort.Statements
import Derived.Shelf.Sort.Plain
import Derived.Shelf.Slices.CompactS
import Derived.Shelf.Slices.In.SortNone
import Derived.Lib.RowBridge
import Derived.Shelf.Spec.SlicesGrow
import Derived.Test.YtahjhbkhcaphgaaGreatDoorFTAm2
import Derived.Test.YtahjhbkhcaphgaaGreatDoorFTLcs
set_option linter.unusedVariables false
set_option linter.unusedSimpArgs false
namespace Go.Am
open Go
section
variable {P:Program} {gl:Gl} {N n0:Nat} {keep:List Nat} {Q:AQ} {fr:Fr} {st:St} {c:Code} {w:World} {μ:Mu} {T:St}
theorem zk.refl(st:St):zk st st:=⟨Nat.le_refl _,fun o ob h=>⟨ob,h,by cases ob<;>simp[Hq]⟩⟩
theorem Spec.up{f:FuncId}{args args':List D}{R:D→St→Prop}(h:Spec P gl f args' st R)(hu:Ups st st args args')(hsc:D.scs st.length args'):Spec P gl f args st R:=
 ⟨h.1,fun w μ vs h1 h2 h3 h4=>h.2 w μ vs h1 h2 (h3.trans hu.len.symm) fun j hj=>VR.up h1 (zk.refl st) (hu.get j (by rw[←hu.len];exact hj) hj) (h4 j (by rw[←hu.len];exact hj)) (aP hsc j hj)⟩
theorem Pure.up{f:FuncId}{args args':List D}{r:D}(h:Pure P gl f args' r)(hu:∀st,Ups st st args args')(hi:args'.all D.imm=true∨∀n,D.scs n args'):Pure P gl f args r:=fun st=>
 (h st).up (hu st) (hi.elim (fun hi=>kF fun j _=>zm (List.all_eq_true.1 hi _ (List.getElem_mem _)) _) (fun h=>h _))
theorem Hv(hs:Sim w μ st)(n b:Nat):
 Sim w (upd μ st.length none) (st++[some (.arr 0 n b [])])∧Step w μ st w (upd μ st.length none) (st++[some (.arr 0 n b [])]):=by
 have look:∀o ob,(st++[some (Ob.arr 0 n b [])])[o]? =some (some ob)→(o<st.length∧st[o]? =some (some ob))∨(o=st.length∧ob= .arr 0 n b []):=by
  intro o ob h
  rcases Nat.lt_or_ge o st.length with hl|hl
  ·rw[List.getElem?_append_left hl]at h;exact .inl ⟨hl,h⟩
  ·rw[List.getElem?_append_right hl]at h
   have:o-st.length=0:=by
    rcases Nat.eq_zero_or_pos (o-st.length)with h0|h0
    ·exact h0
    ·rw[List.getElem?_eq_none (by simp;omega)]at h;cases h
   rw[this]at h
   simp at h
   exact .inr ⟨by omega,h.symm⟩
 have step:Step w μ st w (upd μ st.length none) (st++[some (.arr 0 n b [])]):=by
  refine⟨Nat.le_refl _,rfl,rfl,⟨rfl,Dr.le (Nat.le_refl _)⟩,fun _ _ _=>rfl,fun blk hw=>?_,by simp,fun o ob hl h=>?_⟩
  ·obtain⟨o,ob,base,h,hm⟩:=hw
   rcases look o ob h with⟨hl,h⟩|⟨e,_⟩
   ·rw[S5 μ _ _ (by omega)]at hm;exact .inl ⟨o,ob,base,h,hm⟩
   ·subst e;rw[D5]at hm;cases hm
  ·rw[List.getElem?_append_left hl]at h
   refine⟨ob,h,?_⟩
   rw[S5 μ _ _ (by omega)]
   exact aM.refl _ _ _
 refine⟨⟨fun o ob h=>?_,fun o1 o2 ob1 ob2 blk b1 b2 h1 h2 m1 m2=>?_⟩,step⟩
 ·rcases look o ob h with⟨hl,h⟩|⟨e,e2⟩
  ·rw[S5 μ _ _ (by omega)]
   exact(hs.obj o ob h).step step (fun _ _ _=>rfl)
  ·subst e;subst e2
   exact(⟨by simp[top],fun e he=>(by cases he),.inl ⟨D5 _ _ _,rfl⟩⟩:kj w _ _ _ n b [])
 ·rcases look o1 ob1 h1 with⟨l1,h1⟩|⟨e,_⟩
  ·rcases look o2 ob2 h2 with⟨l2,h2⟩|⟨e,_⟩
   ·rw[S5 μ _ _ (by omega)]at m1 m2
    exact hs.inj _ _ _ _ _ _ _ h1 h2 m1 m2
   ·subst e;rw[D5]at m2;cases m2
  ·subst e;rw[D5]at m1;cases m1
theorem eJ(n b:Nat)(h:AWp P gl N n0 keep c Q fr (st++[some (.arr 0 n b [])])):AWp P gl N n0 keep c Q fr st:=
 fun w0 μ0 st0 hl0 a w ⟨_,hc⟩=>h w0 μ0 st0 hl0 a w (let ⟨k1,k2⟩:=Hv hc.sim n b;⟨_,k1,hc.glob.step k2,hc.fr.step k2,hc.size,hc.defers,hc.step.trans k2⟩)
theorem qS{s l:St}{d d':D}{R:D→St→Prop}(hsc:iw s.length s)(hu:Up (s++l) s d d')(hd:D.sc s.length d')(h:R d' s):fin s.length R d (s++l):=
 ⟨s,d',Nat.le_refl _,mA hsc,hu,hd,h⟩
end
theorem qd{s t:St}{k:Nat}:(s++t)[s.length+k]? =t[k]? :=by
 rw[List.getElem?_append_right (by omega)];congr 1;omega
theorem Bq{s:St}{k:Nat}:look s (s.length+k)=none:=by
 unfold look;rw[List.getElem?_eq_none (by omega)];rfl
attribute [go_sem] JC
section
variable {P:Program} {gl:Gl} {N n0:Nat} {keep:List Nat} {Q:AQ} {fr:Fr} {st:St}
theorem zn{w:World}{t e:TypeId}(hu:P.underlying t=some (.slice e))(a:Option Addr)(l c:Nat)(ox oy:Operand):
 (do eqGuard .eql t ox oy (.slice a l c) (.slice none 0 0);binOp .eql t (.slice a l c) (.slice none 0 0):Sem Value).run P w= .ok (.bool a.isNone) w:=by
 have h1:(eqGuard .eql t ox oy (.slice a l c) (.slice none 0 0)).run P w= .ok () w:=by unfold eqGuard;simp
 have h2':∀d,(Op.equalIn (d+1) t (.slice a l c) (.slice none 0 0)).run P w= .ok a.isNone w:=fun d=>by
  cases a<;>simp[Op.equalIn,run_underlying hu]
 have h2:(Op.equalIn 10000 t (.slice a l c) (.slice none 0 0)).run P w= .ok a.isNone w:=h2' 9999
 simp only[Sem.run_bind,h1,Result.andThen_ok,binOp,Op.equal,Op.maxDepth,h2]
 rfl
theorem sH{id:Nat}{x a b:Nat}{t:TypeId}{ty1 ty2 ty3:TypeId}{p1 p2:String}{e1 e2:Array Edge}{f:Bool}{n bb:Nat}{es:List (List D)}
 (hx:fr.get x= .sl f n bb es) (hk:∃e,(x5 P t).k= .slice e) (ha:a<N) (hb:b<N)
 (h:∀c:Bool,(c=true→es=[])→Q .normal (Fr.only keep ((fr.put a (.sl f n bb es)).put b (.bool c))) st):
 AWp P gl N n0 keep (.region id #[⟨some a,.move (.tmp x),ty1,p1,e1,none⟩,⟨some b,.binOp .eql t (.tmp a) (.const (.slice none 0 0)) ty3,ty2,p2,e2,none⟩] false) Q fr st:=by
 intro w0 μ0 st0 hl act w ⟨μ,hc⟩
 obtain⟨e,hk⟩:=hk
 have hu:=au hk
 refine wp_region ?_
 have hr:List.range 2=[0,1]:=rfl
 show wpOps P _ _ (List.range 2) act w
 rw[hr,wpOps_cons]
 obtain⟨nx,v,w',μ',h1,h2,h3⟩:=vD (P:=P) (q:=0) (o:=⟨some a,.move (.tmp x),ty1,p1,e1,none⟩) hc (by simp only[aop,eok,ev,hx,qJ]) ha (fun h=>by cases h)
 have hd:(aop P gl true (.move (.tmp x)) fr (look st) 0).d= .sl f n bb es:=by simp only[aop,ev1,ev,hx,strip]
 have hst:(aop P gl true (.move (.tmp x)) fr (look st) 0).app 0 st=st:=rfl
 simp only[hst,hd]at h3
 have second:wpOps P #[⟨some a,.move (.tmp x),ty1,p1,e1,none⟩,⟨some b,.binOp .eql t (.tmp a) (.const (.slice none 0 0)) ty3,ty2,p2,e2,none⟩] (cq gl N w0 μ0 st0 Q) [1] (act.put (some a) v) w':=by
  rw[wpOps_cons]
  have hva:=h3.fr a
  simp only[Fr.fU,Fr.nW,if_pos]at hva
  have hv:∃ad l c,(act.put (some a) v).tmps.getD a undef= .slice ad l c∧(ad=none→es=[]):=by
   generalize (act.put (some a) v).tmps.getD a undef=u at hva
   cases hva with
   |tr h=>cases h with
    |sl _ _ _ _ ad len cap cv _ _ _ _ _ _ ha' _=>
     refine⟨ad,len,cap,rfl,fun e=>?_⟩
     rcases ha' with h|⟨_,_,h,_⟩
     ·exact h
     ·rw[e]at h;cases h
  obtain⟨ad,l,c,hv1,hv2⟩:=hv
  have hrun:=zn (w:=w') hu ad l c (.tmp a) (.const (.slice none 0 0))
  have hex:(execOp (act.put (some a) v).eval ⟨some b,.binOp .eql t (.tmp a) (.const (.slice none 0 0)) ty3,ty2,p2,e2,none⟩).run P w'= .ok (.value (.bool ad.isNone)) w':=by
   have e1:(act.put (some a) v).eval (.tmp a)= .slice ad l c:=hv1
   have:execOp (act.put (some a) v).eval ⟨some b,.binOp .eql t (.tmp a) (.const (.slice none 0 0)) ty3,ty2,p2,e2,none⟩=
    (do pure (.value (←(do eqGuard .eql t (.tmp a) (.const (.slice none 0 0)) ((act.put (some a) v).eval (.tmp a)) (.slice none 0 0);binOp .eql t ((act.put (some a) v).eval (.tmp a)) (.slice none 0 0):Sem Value)))):=rfl
   rw[this,e1,Sem.run_bind,hrun];rfl
  have xr:ke gl N w0 μ0 st0 ((fr.put a (.sl f n bb es)).fU (some b) (.bool ad.isNone)) st ((act.put (some a) v).put (some b) (.bool ad.isNone)) w' μ':=
   ⟨h3.sim,h3.glob,h3.fr.put (O4 _ _ _ _) (by rw[h3.size];exact hb),by simp[Act.put,h3.size];exact hc.size,by simpa[Act.put]using h3.defers,h3.step⟩
  simp only[wpOp,List.getElem?_toArray,List.getElem?_cons_succ,List.getElem?_cons_zero,Region.wanted,if_true]
  left
  unfold Oper.wp
  rw[hex]
  exact⟨_,_,h ad.isNone (fun e=>hv2 (by simpa using e)),μ',xr.sim,xr.glob,xr.fr.only keep,xr.size,xr.defers,xr.step⟩
 simp only[wpOp,List.getElem?_toArray,List.getElem?_cons_succ,List.getElem?_cons_zero,Region.wanted,if_true]
 left
 unfold Oper.wp
 rw[h1]
 rcases h2 with rfl|⟨rfl,rfl⟩<;>exact second
end
def wr(k:IntKind)(n:Int):Int:=k.wrap n
def get{α:Type}[Inhabited α](l:List α)(k:Nat):α:=l.getD k default
def chk{α:Type}(p:Prop)[Decidable p](x:Option α):Option α:=if p then x else none
def aB{α β:Type}(a:α)(f:α→Option β):Option β:=f a
def gd{α:Type}(G:Bool)(x:Option α)(d:α):Option α:=bif G then x else some d
inductive Ctl(ρ σ τ:Type) where
 |nxt (s:σ)
 |brk (t:τ)
 |ret (x:ρ)
inductive Ex(ρ τ:Type) where
 |nxt (t:τ)
 |ret (x:ρ)
def B2{ρ τ:Type}(x:Option (Ex ρ τ))(k:τ→Option ρ):Option ρ:=
 match x with
 |none=>none
 |some (.nxt t)=>k t
 |some (.ret r)=>some r
def G7{ρ σ τ:Type}(body:σ→Option (Ctl ρ σ τ)):Nat→σ→Option (Ex ρ τ)
 |0,_=>none
 |n+1,s=>match body s with
  |none=>none
  |some (.nxt s')=>G7 body n s'
  |some (.brk t)=>some (.nxt t)
  |some (.ret x)=>some (.ret x)
def Y3{ρ σ:Type}(body:Nat→σ→Option (Ctl ρ σ σ)):Nat→Nat→σ→Option (Ex ρ σ)
 |0,_,s=>some (.nxt s)
 |m+1,k,s=>match body k s with
  |none=>none
  |some (.nxt s')=>Y3 body m (k+1) s'
  |some (.brk s')=>some (.nxt s')
  |some (.ret x)=>some (.ret x)
def G2{ρ σ:Type}(body:Nat→σ→Option (Ctl ρ σ σ))(n:Nat)(s:σ):Option (Ex ρ σ):=Y3 body n 0 s
section
variable {α β ρ σ τ:Type}
theorem Br{p:Prop}[Decidable p]{x:Option α}{e:α}(h:chk p x=some e):p∧x=some e:=by
 unfold chk at h
 split at h
 ·rename_i hp;exact⟨hp,h⟩
 ·cases h
theorem gG{a:α}{f:α→Option β}{e:β}(h:aB a f=some e):∃y,y=a∧f y=some e:=⟨a,rfl,h⟩
theorem M1{x:Option α}{f:α→Option β}{e:β}(h:x.bind f=some e):∃v,x=some v∧f v=some e:=Option.bind_eq_some_iff.1 h
theorem Hw{c:Bool}{a b:Option α}{e:α}(h:(bif c then a else b)=some e)(hc:c=true):a=some e:=by subst hc;exact h
theorem Hx{c:Bool}{a b:Option α}{e:α}(h:(bif c then a else b)=some e)(hc:c=false):b=some e:=by subst hc;exact h
theorem pE{G:Bool}{x:Option α}{d v:α}(h:gd G x d=some v)(hG:G=true):x=some v:=by subst hG;exact h
theorem LK{G:Bool}{x:Option α}{d v:α}(h:gd G x d=some v)(hG:G=false):v=d:=by subst hG;cases h;rfl
end
def rows{α:Type}(E:α→List D)(l:List α):List (List D):=l.map E
class gk{α:Type}(E:α→List D)(n:outParam Nat):Prop where
 len:∀x,(E x).length=n
 one:∀x,(E x).all D.one=true
 imm:∀x,(E x).all D.imm=true
def bytesOf(s:Bs):List Int:=s.map fun c=>(c.toNat:Int)
def mZ(x:Int):List D:=[.int .i64 x]
def JD(x:Int):List D:=[.int .u64 x]
def JE(x:Int):List D:=[.int .i32 x]
def u8c(x:Int):List D:=[.int .u8 x]
def bR(x:Bool):List D:=[.bool x]
def w9(x:Bs):List D:=[.str x]
def slc{α:Type}(n b:Nat)(E:α→List D)(x:List α):List D:=[.sl false n b (rows E x)]
instance:gk mZ 1:=⟨fun _=>rfl,fun _=>rfl,fun _=>rfl⟩
instance:gk JD 1:=⟨fun _=>rfl,fun _=>rfl,fun _=>rfl⟩
instance:gk JE 1:=⟨fun _=>rfl,fun _=>rfl,fun _=>rfl⟩
instance:gk u8c 1:=⟨fun _=>rfl,fun _=>rfl,fun _=>rfl⟩
instance:gk bR 1:=⟨fun _=>rfl,fun _=>rfl,fun _=>rfl⟩
instance:gk w9 1:=⟨fun _=>rfl,fun _=>rfl,fun _=>rfl⟩
instance{α:Type}{n b:Nat}{E:α→List D}:gk (slc n b E) 1:=⟨fun _=>rfl,fun _=>rfl,fun _=>rfl⟩
section
variable {α:Type} {E:α→List D} {n:Nat}
theorem sI(l:List α):(rows E l).length=l.length:=by simp[rows]
theorem EB(x:α)(l:List α):rows E (x::l)=E x::rows E l:=rfl
theorem F1(l m:List α):rows E l++rows E m=rows E (l++m):=by simp[rows]
theorem Hy(l:List α)(k:Nat):(rows E l).take k=rows E (l.take k):=by simp[rows,List.map_take]
theorem Hz(l:List α)(k:Nat):(rows E l).drop k=rows E (l.drop k):=by simp[rows,List.map_drop]
theorem LL(l:List α)(k:Nat)(x:α):(rows E l).set k (E x)=rows E (l.set k x):=by simp[rows]
theorem HD(l:List α):l.take l.length=l:=List.take_length
theorem P3[Inhabited α](l:List α)(k:Nat):(rows E l).getD k (E default)=E (get l k):=by
 simp only[rows,List.getD_eq_getElem?_getD,get,List.getElem?_map]
 cases l[k]? <;>rfl
theorem Bt[Inhabited α]{l:List α}{k:Nat}{d:List D}(h:k<l.length):(rows E l).getD k d=E (get l k):=by
 simp[rows,get,h]
theorem ng[h:gk E n](l:List α):Imm (rows E l):=by
 intro e he
 obtain⟨s,_,rfl⟩:=List.mem_map.1 he
 exact h.imm s
theorem JF[h:gk E n](l:List α)(m:Nat):(∀e∈rows E l,D.scs m e)=True:=eq_true (Imm.sc (ng l) m)
theorem Kq(x:Int):mZ x=[.int .i64 x]:=rfl
theorem Kr(x:Int):JD x=[.int .u64 x]:=rfl
theorem Ks(x:Int):JE x=[.int .i32 x]:=rfl
theorem LM(x:Int):u8c x=[.int .u8 x]:=rfl
theorem JG(x:Bool):bR x=[.bool x]:=rfl
theorem Kt(x:Bs):w9 x=[.str x]:=rfl
theorem LN{a b:Nat}(x:List α):slc a b E x=[.sl false a b (rows E x)]:=rfl
theorem EC(l:List Int)(k:Nat):(rows mZ l).getD k [.int .i64 0]=[.int .i64 (get l k)]:=P3 (E:=mZ) l k
theorem Ku(l:List Int)(k:Nat):(rows JD l).getD k [.int .u64 0]=[.int .u64 (get l k)]:=P3 (E:=JD) l k
theorem Kv(l:List Int)(k:Nat):(rows JE l).getD k [.int .i32 0]=[.int .i32 (get l k)]:=P3 (E:=JE) l k
theorem LO(l:List Int)(k:Nat):(rows u8c l).getD k [.int .u8 0]=[.int .u8 (get l k)]:=P3 (E:=u8c) l k
theorem JH(l:List Bool)(k:Nat):(rows bR l).getD k [.bool false]=[.bool (get l k)]:=P3 (E:=bR) l k
theorem Kw(l:List Bs)(k:Nat):(rows w9 l).getD k [.str []]=[.str (get l k)]:=P3 (E:=w9) l k
theorem LP{a b:Nat}(l:List (List α))(k:Nat):(rows (slc a b E) l).getD k [.sl false a b []]=[.sl false a b (rows E (get l k))]:=P3 (E:=slc a b E) l k
end
theorem DB(s:Bs):bO s=rows u8c (bytesOf s):=by simp[bO,rows,bytesOf,u8c]
def mrw{κ α:Type}(E:α→List D)(m:List (κ×α)):List (κ×List D):=m.map fun p=>(p.1,E p.2)
theorem Kx{κ α:Type}{E:α→List D}(m:List (κ×α)):(mrw E m).length=m.length:=by simp[mrw]
theorem HE{κ α:Type}[DecidableEq κ]{E:α→List D}(k:κ)(m:List (κ×α)):assoc k (mrw E m)=(assoc k m).map E:=by
 induction m with
 |nil=>rfl
 |cons p m ih=>
  obtain⟨a,v⟩:=p
  simp only[mrw,List.map_cons,assoc]at ih⊢
  split
  ·rfl
  ·exact ih
theorem gS{κ α:Type}[DecidableEq κ]{E:α→List D}(k:κ)(v:α)(m:List (κ×α)):y6 k (E v) (mrw E m)=mrw E (y6 k v m):=by
 induction m with
 |nil=>rfl
 |cons p m ih=>
  obtain⟨a,u⟩:=p
  simp only[mrw,List.map_cons,y6]at ih⊢
  split
  ·rfl
  ·simp only[List.map_cons];rw[ih]
theorem ED{a b:Nat}{z dd:List D}{o:Option Int}:gJ ⟨a,b,z,dd,some (.int .i64 0),.int .i64⟩ (o.map mZ)= .int .i64 (o.getD default):=by cases o<;>rfl
theorem DC{a b:Nat}{z dd:List D}{o:Option Bool}:gJ ⟨a,b,z,dd,some (.bool false),.bool⟩ (o.map bR)= .bool (o.getD default):=by cases o<;>rfl
theorem EF{a b:Nat}{z dd:List D}{o:Option Bs}:gJ ⟨a,b,z,dd,some (.str []),.str⟩ (o.map w9)= .str (o.getD default):=by cases o<;>rfl
theorem Ky{κ α:Type}{E:α→List D}{n:Nat}[h:gk E n](l:List (κ×α))(m:Nat):(∀(a:κ) (b:List D),(a,b)∈mrw E l→D.scs m b)=True:=by
 refine eq_true fun a b hb=>?_
 obtain⟨⟨x,y⟩,h1,h2⟩:=List.mem_map.1 hb
 cases h2
 exact kF fun j hj=>zm (List.all_eq_true.1 (h.imm y) _ (List.getElem_mem _)) m
section
variable {P:Program} {gl:Gl} {N n0:Nat} {keep:List Nat} {Q:AQ} {fr:Fr} {st:St}
theorem cW{c:Code}(h:AWp P gl N n0 keep c Q fr st):AWp P gl N n0 keep (.scope c) Q fr st:=
 fun w0 μ0 st0 hl a w hc=>wp_scope_straight (wp_mono (h w0 μ0 st0 hl a w hc) fun e a' w' hq=>by
  cases e<;>exact hq)
theorem cX{l:Nat}(h:Q .normal fr st):AWp P gl N n0 keep (.label l) Q fr st:=
 fun w0 μ0 st0 hl a w hc=>wp_label ⟨fr,st,h,hc⟩
end
theorem Cl{α:Type}(l:List α)(k:Nat):(l.drop k).take (l.length-k)=l.drop k:=List.take_of_length_le (by rw[List.length_drop];exact Nat.le_refl _)
theorem HF{st:St}(a b:Nat):st.length+a+b=st.length+(a+b):=Nat.add_assoc _ _ _
theorem HG{G:Bool}:cg G True=True:=by simp[cg]
theorem JI{G:Bool}{p q:Prop}:cg G (p∧q)=(cg G p∧cg G q):=by unfold cg;exact propext ⟨fun h=>⟨fun e=>(h e).1,fun e=>(h e).2⟩,fun h e=>⟨h.1 e,h.2 e⟩⟩
instance{G:Bool}{p:Prop}[Decidable p]:Decidable (cg G p):=by unfold cg;exact inferInstance
instance{k:IntKind}{n:Int}:Decidable (InK k n):=by unfold InK;exact inferInstance
theorem JJ(k:IntKind)(n:Int):arith k n=⟨.int k (wr k n),True,[],none,none⟩:=rfl
theorem Kz(k:IntKind)(n:Int):k.wrap n=wr k n:=rfl
theorem Z4{n:Int}(h1: -9223372036854775808≤n)(h2:n≤9223372036854775807):wr .i64 n=n:=by
 unfold wr
 exact tX (k:=.i64) ⟨h1,h2⟩
theorem EG{k n:Nat}(hk:k<n)(h:n≤9223372036854775807):wr .i64 ((k:Int)+1)=((k+1:Nat):Int):=by
 rw[Z4 (by omega) (by omega)];omega
section
variable {P:Program} {gl:Gl} {N n0:Nat} {keep:List Nat} {Q:AQ} {fr:Fr} {st:St} {c x:Code} {id:Nat}
inductive BkS(n0:Nat)(F:Fr)(T:St):Fr→St→Prop
 |nil:BkS n0 F T F T
 |cons {F' fr:Fr} {T' st:St} (h:Bk n0 F' T' fr st) (ht:BkS n0 F T F' T'):BkS n0 F T fr st
theorem BkS.one{F:Fr}{T:St}(h:Bk n0 F T fr st):BkS n0 F T fr st:=.cons h .nil
theorem BkS.trans{F F':Fr}{T T':St}(h:BkS n0 F' T' fr st)(h2:BkS n0 F T F' T'):BkS n0 F T fr st:=by
 induction h with
 |nil=>exact h2
 |cons h _ ih=>exact .cons h ih
theorem R6{F:Fr}{T:St}(hb:BkS n0 F T fr st)(h:AWp P gl N n0 keep c Q F T):AWp P gl N n0 keep c Q fr st:=by
 induction hb with
 |nil=>exact h
 |cons hb _ ih=>exact Ht hb ih
theorem xU{s l l':St}{F:Fr}(hsc:iw s.length s)(hu:UpL (s++l) (s++l') l l')(hl:ScL (s++l').length l')(hf:tM (s++l) (s++l') fr F)(hs:Fr.sc (s++l').length F):
 BkS s.length F (s++l') fr (s++l):=.one ⟨by simp,Ck hsc hu hl,hf,hs⟩
theorem EH{s l:St}{F:Fr}(hsc:iw s.length s)(hf:tM (s++l) s fr F)(hs:Fr.sc s.length F):BkS s.length F s fr (s++l):=.one ⟨Nat.le_refl _,mA hsc,hf,hs⟩
theorem Cm{s:St}{F:Fr}(hsc:iw s.length s)(hf:tM s s fr F)(hs:Fr.sc s.length F):BkS s.length F s fr s:=.one ⟨Nat.le_refl _,qR hsc,hf,hs⟩
theorem vO{s t:St}:(s++t)[s.length]? =t[0]? :=qd (k:=0)
theorem zo{s:St}:look s s.length=none:=Bq (k:=0)
theorem oz{s t:St}{k:Nat}(h:t.length≤k):look (s++t) (s.length+k)=none:=by
 unfold look;rw[List.getElem?_eq_none (by simp;omega)];rfl
theorem kN{s:St}{d d':D}{R:D→St→Prop}(hsc:iw s.length s)(hu:Up s s d d')(hd:D.sc s.length d')(h:R d' s):fin s.length R d s:=
 ⟨s,d',Nat.le_refl _,qR hsc,hu,hd,h⟩
def Gg(P:Program)(rs:List ResultVar)(n0:Nat)(R:D→St→Prop):AQ
 | .exit _,_,_=>False
 | _,fr,st=>∃F T,BkS n0 F T fr st∧FY P F T rs∧fin n0 R (rsD P F T rs) T
theorem Gh{rs:List ResultVar}{R:D→St→Prop}(h:JC P rs n0 R .ret fr st):Gg P rs n0 R .ret fr st:=⟨fr,st,.nil,h.1,h.2⟩
theorem vP{rs:List ResultVar}{R:D→St→Prop}(h:JC P rs n0 R .ret fr st):Gg P rs n0 R .normal fr st:=⟨fr,st,.nil,h.1,h.2⟩
theorem vQ{rs:List ResultVar}{R:D→St→Prop}{F:Fr}{T:St}(hb:BkS n0 F T fr st)(h:Gg P rs n0 R .normal F T):Gg P rs n0 R .normal fr st:=by
 obtain⟨F',T',h1,h2⟩:=h
 exact⟨F',T',hb.trans h1,h2⟩
theorem sq.bks{w0:World}{μ0:Mu}{st0:St}{a:Act}{w:World}{F:Fr}{T:St}(hl0:st0.length=n0)(hb:BkS n0 F T fr st)(h:sq gl N w0 μ0 st0 fr st a w):sq gl N w0 μ0 st0 F T a w:=by
 induction hb with
 |nil=>exact h
 |cons hb _ ih=>
  obtain⟨μ,hc⟩:=h
  exact ih ⟨μ,hc.sim.wk hb.wk,ux hc.glob (fun _ h=>hb.wk.kill.own h),
   fun t=>VR.up hc.sim hb.wk.kill (hb.up.get t) (hc.fr t) (Fr.yH _ hb.sc t),hc.size,hc.defers,Step.wk (by rw[hl0];exact hb.len) hb.wk hc.step⟩
theorem KA{f:FuncId}{fn:Func}{c:Code}{args:List D}{R:D→St→Prop}{rs:List ResultVar}(keep:List Nat)(hf:P.funcs[f]? =some fn)(hb:fn.body=some c)(hN:fn.ntmps=N)(hr:fn.results.toList=rs)
 (hname:(fn.name != "runtime.NumGoroutine")=true) (hlen:Nat.ble args.length N=true)
 (h:iw st.length st→AWp P gl N st.length keep c (Gg P rs st.length R) (qK 0 args) st):Spec P gl f args st R:=by
 refine EA keep hf hb hN hr hname hlen fun hsc=>?_
 intro w0 μ0 st0 hl a w hc
 refine wp_mono (h hsc w0 μ0 st0 hl a w hc) fun e a' w' hq=>?_
 cases e with
 |normal=>
  obtain⟨fr',st',⟨F,T,h1,h2,h3⟩,h4⟩:=hq
  exact⟨F,T,⟨h2,h3⟩,h4.bks hl h1⟩
 |ret=>
  obtain⟨fr',st',⟨F,T,h1,h2,h3⟩,h4⟩:=hq
  exact⟨F,T,⟨h2,h3⟩,h4.bks hl h1⟩
 |exit id=>obtain⟨fr',st',h1,h2⟩:=hq;exact h1.elim
 |goto=>exact hq.elim
 |panic=>exact hq.elim
 |outgrown=>exact hq.elim
theorem aF{σ Γ ρ:Type}(K:σ→Option ρ)(e:ρ)(F:Γ→σ→Fr)(T:Γ→σ→St)(hk:∀γ s fr st,K s=some e→BkS n0 (F γ s) (T γ s) fr st→Q .normal fr st)
 (hx:(∀γ s fr st,K s=some e→BkS n0 (F γ s) (T γ s) fr st→Q .normal fr st)→AWp P gl N n0 keep x Q fr st):AWp P gl N n0 keep x Q fr st:=hx hk
def PBr{Γ ρ σ:Type}(n0 id:Nat)(F:Γ→Nat→σ→Fr)(T:Γ→Nat→σ→St)(Fb:Γ→σ→Fr)(Tb:Γ→σ→St)(Q:AQ)(k:Nat):Ctl ρ σ σ→AQ
 | .nxt s=>fun ex fr st=>ex= .normal∧∃γ,BkS n0 (F γ (k+1) s) (T γ (k+1) s) fr st
 | .brk s=>fun ex fr st=>ex= .exit id∧∃γ,BkS n0 (Fb γ s) (Tb γ s) fr st
 | .ret _=>fun ex fr st=>ex≠ .normal∧AQ.block id Q ex fr st
theorem arg_{Γ ρ σ:Type}{body:Nat→σ→Option (Ctl ρ σ σ)}{n:Nat}{s0:σ}{kk:σ→Option ρ}{e:ρ}(F:Γ→Nat→σ→Fr)(T:Γ→Nat→σ→St)(Fb:Γ→σ→Fr)(Tb:Γ→σ→St)(γ0:Γ)
 (h:B2 (G2 body n s0) kk=some e)
 (h0:BkS n0 (F γ0 0 s0) (T γ0 0 s0) fr st)
 (hs:∀γ k s b,k<n→body k s=some b→(∀x,b= .ret x→x=e)→AWp P gl N n0 keep c (PBr n0 id F T Fb Tb Q k b) (F γ k s) (T γ k s))
 (he:∀γ s,AWp P gl N n0 keep c (fun ex fr st=>ex= .exit id∧∃γ',BkS n0 (Fb γ' s) (Tb γ' s) fr st) (F γ n s) (T γ n s))
 (hk:∀γ s fr st,kk s=some e→BkS n0 (Fb γ s) (Tb γ s) fr st→Q .normal fr st):
 AWp P gl N n0 keep (.block id (.loop c)) Q fr st:=by
 refine Dt (R6 h0 ?_)
 unfold G2 at h
 have key:∀m k s γ,k+m=n→B2 (Y3 body m k s) kk=some e→AWp P gl N n0 keep (.loop c) (AQ.block id Q) (F γ k s) (T γ k s):=by
  intro m
  induction m with
  |zero=>
   intro k s γ hk' h1
   have:k=n:=by omega
   subst this
   refine kG (kH (he γ s) fun ex fr st hq=>?_)
   obtain⟨rfl,γ',hb⟩:=hq
   show AQ.block id Q (.exit id) fr st
   simp only[AQ.block,if_true]
   exact hk γ' s fr st h1 hb
  |succ m ih=>
   intro k s γ hk' h
   simp only[Y3]at h
   cases hb:body k s with
   |none=>rw[hb]at h;cases h
   |some b=>
    rw[hb]at h
    refine kG (kH (hs γ k s b (by omega) hb ?_) fun ex fr st hq=>?_)
    ·intro x hx
     subst hx
     cases h;rfl
    ·cases b with
     |nxt s'=>
      obtain⟨rfl,γ',hb'⟩:=hq
      exact R6 hb' (ih (k+1) s' γ' (by omega) h)
     |brk s'=>
      obtain⟨rfl,γ',hb'⟩:=hq
      show AQ.block id Q (.exit id) fr st
      simp only[AQ.block,if_true]
      exact hk γ' s' fr st h hb'
     |ret x=>
      obtain⟨h1,h2⟩:=hq
      cases ex with
      |normal=>exact absurd rfl h1
      | _=>exact h2
 exact key n 0 s0 γ0 (by omega) h
def PBw{Γ Δ ρ σ τ:Type}(n0 id:Nat)(F:Γ→σ→Fr)(T:Γ→σ→St)(Fb:Δ→τ→Fr)(Tb:Δ→τ→St)(Q:AQ):Ctl ρ σ τ→AQ
 | .nxt s=>fun ex fr st=>ex= .normal∧∃γ,BkS n0 (F γ s) (T γ s) fr st
 | .brk s=>fun ex fr st=>ex= .exit id∧∃γ,BkS n0 (Fb γ s) (Tb γ s) fr st
 | .ret _=>fun ex fr st=>ex≠ .normal∧AQ.block id Q ex fr st
theorem D6{Γ Δ ρ σ τ:Type}{body:σ→Option (Ctl ρ σ τ)}{n:Nat}{s0:σ}{kk:τ→Option ρ}{e:ρ}(F:Γ→σ→Fr)(T:Γ→σ→St)(Fb:Δ→τ→Fr)(Tb:Δ→τ→St)(γ0:Γ)
 (h:B2 (G7 body n s0) kk=some e)
 (h0:BkS n0 (F γ0 s0) (T γ0 s0) fr st)
 (hs:∀γ s b,body s=some b→(∀x,b= .ret x→x=e)→AWp P gl N n0 keep c (PBw n0 id F T Fb Tb Q b) (F γ s) (T γ s))
 (hk:∀γ s fr st,kk s=some e→BkS n0 (Fb γ s) (Tb γ s) fr st→Q .normal fr st):
 AWp P gl N n0 keep (.block id (.loop c)) Q fr st:=by
 refine Dt (R6 h0 ?_)
 have key:∀m s γ,B2 (G7 body m s) kk=some e→AWp P gl N n0 keep (.loop c) (AQ.block id Q) (F γ s) (T γ s):=by
  intro m
  induction m with
  |zero=>intro s γ h;cases h
  |succ m ih=>
   intro s γ h
   simp only[G7]at h
   cases hb:body s with
   |none=>rw[hb]at h;cases h
   |some b=>
    rw[hb]at h
    refine kG (kH (hs γ s b hb ?_) fun ex fr st hq=>?_)
    ·intro x hx
     subst hx
     cases h;rfl
    ·cases b with
     |nxt s'=>
      obtain⟨rfl,γ',hb'⟩:=hq
      exact R6 hb' (ih s' γ' h)
     |brk s'=>
      obtain⟨rfl,γ',hb'⟩:=hq
      show AQ.block id Q (.exit id) fr st
      simp only[AQ.block,if_true]
      exact hk γ' s' fr st h hb'
     |ret x=>
      obtain⟨h1,h2⟩:=hq
      cases ex with
      |normal=>exact absurd rfl h1
      | _=>exact h2
 exact key n s0 γ0 h
section
variable {Γ Δ ρ σ τ:Type} {F:Γ→σ→Fr} {T:Γ→σ→St} {Fb:Δ→τ→Fr} {Tb:Δ→τ→St} {Fk:Γ→Nat→σ→Fr} {Tk:Γ→Nat→σ→St} {Fc:Γ→σ→Fr} {Tc:Γ→σ→St} {k:Nat} {ex:BL}
theorem ig{s:σ}(γ:Γ)(h:BkS n0 (Fk γ (k+1) s) (Tk γ (k+1) s) fr st):PBr (ρ:=ρ) n0 id Fk Tk Fc Tc Q k (.nxt s) .normal fr st:=⟨rfl,γ,h⟩
theorem X8{x:ρ}(h:AQ.block id Q .ret fr st):PBr n0 id Fk Tk Fc Tc Q k (.ret x) .ret fr st:=⟨BL.noConfusion,h⟩
theorem I6{s:σ}(γ:Γ)(h:BkS n0 (F γ s) (T γ s) fr st):PBw (ρ:=ρ) n0 id F T Fb Tb Q (.nxt s) .normal fr st:=⟨rfl,γ,h⟩
theorem J9{s:τ}(γ:Δ)(h:BkS n0 (Fb γ s) (Tb γ s) fr st):PBw (ρ:=ρ) n0 id F T Fb Tb Q (.brk s) (.exit id) fr st:=⟨rfl,γ,h⟩
theorem bS{x:ρ}(h:AQ.block id Q .ret fr st):PBw n0 id F T Fb Tb Q (.ret x) .ret fr st:=⟨BL.noConfusion,h⟩
end
end
attribute [simp] Ky ScL Ob.sc D.sc D.scs Fr.sc JF
attribute [go_sem] DB or_true Int.cast_ofNat_Int Kq Kr Ks LM JG Kt LN Int.reduceEq Int.reduceNe Nat.zero_le true_or List.length_replicate Option.mem_def Option.map_some Option.map_none false_implies forall_eq' Option.isSome_none Option.some.injEq HF Int.le_refl decide_true decide_false Kx HE ED DC EF Hy Hz Cl Kz IntKind.bits Option.isSome_map List.drop_zero Int.toNat_zero Int.reduceToNat Int.reduceNeg Int.reduceLT Int.reduceLE Nat.reducePow JJ HG JI Option.isSome_some sI HD EC Ku Kv LO JH Kw LP Int.toNat_natCast Nat.zero_add Nat.sub_zero Nat.le_refl Int.natCast_nonneg Int.ofNat_lt reduceCtorEq
 Nat.reduceAdd Nat.reduceEqDiff Nat.reduceLT Nat.reduceLeDiff Nat.reduceMul Nat.reduceSub Nat.reduceBEq Nat.reduceBNe reduceIte
def E8(st:St):List (Nat×Ob)→St
 | []=>st
 |(o,x)::m=>(E8 st m).set o (some x)
def uJ:List (Nat×Ob)→Nat→Option Ob→Option Ob
 | [],_,d=>d
 |(a,x)::m,o,d=>if o=a then some x else uJ m o d
def EI:List (Nat×Ob)→Nat→Ob→List (Nat×Ob)
 | [],o,x=>[(o,x)]
 |(a,y)::m,o,x=>if o=a then(a,x)::m else(a,y)::EI m o x
theorem cQ(st:St):∀m:List (Nat×Ob),(E8 st m).length=st.length
 | []=>rfl
 |(o,x)::m=>by simp[E8,cQ st m]
theorem KB{st l:St}{o:Nat}(ho:o<st.length):∀m:List (Nat×Ob),look (E8 st m++l) o=uJ m o (look st o)
 | []=>by
  simp only[E8,uJ]
  unfold look
  rw[List.getElem?_append_left ho]
 |(a,x)::m=>by
  have ih:=KB (l:=l) ho m
  have hl:=cQ st m
  simp only[E8,uJ]
  unfold look at ih⊢
  rw[List.getElem?_append_left (by simp[hl];exact ho)]
  rw[List.getElem?_append_left (by rw[hl];exact ho)]at ih
  rw[List.getElem?_set]
  by_cases e:o=a
  ·subst e;rw[if_pos rfl,if_pos (by rw[hl];exact ho),if_pos rfl];rfl
  ·rw[if_neg (fun h=>e h.symm),if_neg e];exact ih
theorem KC{st:St}{o:Nat}(ho:o<st.length)(m:List (Nat×Ob)):look (E8 st m) o=uJ m o (look st o):=by
 have:=KB (l:=[]) ho m
 rwa[List.append_nil]at this
theorem aG{st l:St}{m:List (Nat×Ob)}{k:Nat}:look (E8 st m++l) (st.length+k)=look l k:=by
 rw[←cQ st m];exact lC
theorem EJ{st l:St}{m:List (Nat×Ob)}:look (E8 st m++l) st.length=look l 0:=aG (k:=0)
theorem KD{st l:St}{o:Nat}{x:Ob}(ho:o<st.length):∀m:List (Nat×Ob),(E8 st m++l).set o (some x)=E8 st (EI m o x)++l
 | []=>by simp only[EI,E8];rw[List.set_append_left _ _ ho]
 |(a,y)::m=>by
  have ih:=KD (l:=l) (x:=x) ho m
  have hl:=cQ st m
  simp only[E8,EI]
  rw[List.set_append_left _ _ (by simp[hl];exact ho)]
  rw[List.set_append_left _ _ (by rw[hl];exact ho)]at ih
  have ih':=List.append_cancel_right ih
  split
  ·rename_i e;subst e
   simp[E8,List.set_set]
  ·rename_i e
   simp only[E8]
   rw[List.set_comm _ _ (fun h=>e h.symm),ih']
theorem KE{st:St}{o:Nat}{x:Ob}(ho:o<st.length)(m:List (Nat×Ob)):(E8 st m).set o (some x)=E8 st (EI m o x):=by
 have:=KD (l:=[]) (x:=x) ho m
 rwa[List.append_nil,List.append_nil]at this
theorem zp{st l:St}{m:List (Nat×Ob)}{k:Nat}{x:Option Ob}:(E8 st m++l).set (st.length+k) x=E8 st m++l.set k x:=by
 rw[←cQ st m];exact yN
theorem Gi{st l:St}{m:List (Nat×Ob)}{x:Option Ob}:(E8 st m++l).set st.length x=E8 st m++l.set 0 x:=zp (k:=0)
theorem L4{st l:St}{m:List (Nat×Ob)}{k:Nat}:(E8 st m++l)[st.length+k]? =l[k]? :=by
 rw[←cQ st m];exact qd
theorem qe{st l:St}{m:List (Nat×Ob)}:(E8 st m++l)[st.length]? =l[0]? :=L4 (k:=0)
theorem HI{st l:St}{m:List (Nat×Ob)}:(E8 st m++l).length=st.length+l.length:=by rw[List.length_append,cQ]
theorem C5{st:St}:∀ {m:List (Nat×Ob)},(∀p∈m,look st p.1=some p.2)→E8 st m=st
 | [],_=>rfl
 |(o,x)::m,h=>by
  simp only[E8]
  rw[C5 (fun p hp=>h p (List.mem_cons_of_mem _ hp))]
  have:=F0 (h (o,x) (List.mem_cons_self ..))
  apply List.ext_getElem?
  intro i
  rw[List.getElem?_set]
  split
  ·rename_i e;subst e
   have hl:=(List.getElem?_eq_some_iff.1 this).1
   rw[if_pos hl,this]
  ·rfl
theorem F2{st:St}{o:Nat}{x:Ob}(h:look st o=some x):o<st.length:=(List.getElem?_eq_some_iff.1 (F0 h)).1
def scM(n:Nat):List (Nat×Ob)→Prop
 | []=>True
 |(_,x)::m=>x.sc n∧scM n m
theorem aQ{st:St}(h:iw st.length st):∀ {m:List (Nat×Ob)},scM st.length m→iw (E8 st m).length (E8 st m)
 | [],_=>h
 |(o,x)::m,hm=>by
  have ih:=aQ h hm.2
  intro o' ob e
  simp only[E8]at e⊢
  rw[List.length_set]
  rw[List.getElem?_set]at e
  split at e
  ·split at e
   ·cases e;rw[cQ];exact hm.1
   ·cases e
  ·exact ih o' ob e
section
variable {P:Program} {gl:Gl} {N n0:Nat} {keep:List Nat} {Q:AQ} {fr:Fr} {st:St} {c:Code}
theorem aO{s s':St}(e:s'=s)(h:AWp P gl N n0 keep c Q fr s'):AWp P gl N n0 keep c Q fr s:=e▸h
theorem jF{s l l':St}{F:Fr}(hn:n0≤s.length)(hsc:iw s.length s)(hu:UpL (s++l) (s++l') l l')(hl:ScL (s++l').length l')(hf:tM (s++l) (s++l') fr F)(hs:Fr.sc (s++l').length F):
 BkS n0 F (s++l') fr (s++l):=.one ⟨by simp;omega,Ck hsc hu hl,hf,hs⟩
theorem EK{s l:St}{F:Fr}(hn:n0≤s.length)(hsc:iw s.length s)(hf:tM (s++l) s fr F)(hs:Fr.sc s.length F):BkS n0 F s fr (s++l):=.one ⟨hn,mA hsc,hf,hs⟩
theorem Cn{s:St}{F:Fr}(hn:n0≤s.length)(hsc:iw s.length s)(hf:tM s s fr F)(hs:Fr.sc s.length F):BkS n0 F s fr s:=.one ⟨hn,qR hsc,hf,hs⟩
theorem Co{s l:St}{d d':D}{R:D→St→Prop}(hn:n0≤s.length)(hsc:iw s.length s)(hu:Up (s++l) s d d')(hd:D.sc s.length d')(h:R d' s):fin n0 R d (s++l):=
 ⟨s,d',hn,mA hsc,hu,hd,h⟩
theorem zq{s:St}{d d':D}{R:D→St→Prop}(hn:n0≤s.length)(hsc:iw s.length s)(hu:Up s s d d')(hd:D.sc s.length d')(h:R d' s):fin n0 R d s:=
 ⟨s,d',hn,qR hsc,hu,hd,h⟩
mutual
def D.flat:D→Bool
 | .bool _=>true
 | .int _ _=>true
 | .str _=>true
 | .agg cs=>D.xt cs
 | .tup cs=>D.xt cs
 | _=>false
def D.xt:List D→Bool
 | []=>true
 |d::l=>d.flat&&D.xt l
end
theorem oA:∀ {l:List D},D.xt l=true→∀j (h:j<l.length),(l[j]).flat=true
 |d::l,h,0,_=>by simp only[D.xt,Bool.and_eq_true]at h;exact h.1
 |d::l,h,j+1,hj=>by
  simp only[D.xt,Bool.and_eq_true]at h
  exact oA (l:=l) h.2 j (by simpa using hj)
theorem VR.flat{w w':World}{μ μ':Mu}{s s':St}{v:Value}{d:D}(h:VR w μ s v d)(hf:d.flat=true):VR w' μ' s' v d:=by
 induction h with
 |any=>cases hf
 |tr h=>
  cases h with
  |bool b=>exact .tr (.bool b)
  |int k n=>exact .tr (.int k n)
  |str x=>exact .tr (.str x)
  | _=>cases hf
 |agg vs cs hs hc ih=>exact .agg vs cs hs fun j hj=>ih j hj (oA hf j hj)
 |tup vs cs hs hc ih=>exact .tup vs cs hs fun j hj=>ih j hj (oA hf j hj)
 |fn=>cases hf
 |ref=>cases hf
 |ptr=>cases hf
 |mp=>cases hf
 |it=>cases hf
 |cond=>cases hf
def dead(st:St):St:=List.replicate st.length none
end
section
variable {P:Program} {gl:Gl} {st:St}
theorem Pure.freeze{f:FuncId}{args args':List D}{r:D}{T:St}(h:Pure P gl f args' r)(hw:xT st T)(hl:st.length≤T.length)(hu:Ups st T args args')(hsc:D.scs T.length args'){R:D→St→Prop}(hR:R r T):Spec P gl f args st R:=by
 refine⟨(h T).1,fun w μ vs hs hg hsz hvs=>?_⟩
 have hv0:∀j (hj:j<args'.length),VR w μ T (vs.getD j undef) (args'[j]):=fun j hj=>by
  have hj':j<args.length:=by rw[←hu.len];exact hj
  exact VR.up hs hw.kill (hu.get j hj' hj) (hvs j hj') (aP hsc j hj)
 refine((h T).2 w μ vs (hs.wk hw) (ux hg (fun _ h=>hw.kill.own h)) (by rw[hsz,hu.len]) hv0).mono fun e w' ⟨v,d,st',μ',he,⟨hd,hst⟩,hs',hstep,hv⟩=>?_
 subst hd;subst hst
 exact⟨v,d,st',μ',he,hR,hs',(Step.wk hl hw (Step.refl w μ st)).trans hstep,hv⟩
end
attribute [simp] scM cQ
attribute [go_sem] uJ EI aG EJ zp Gi HI cQ
theorem eK{st:St}{m:List (Nat×Ob)}{k:Nat}:look (E8 st m) (st.length+k)=none:=by rw[←cQ st m];exact Bq
theorem xu{st:St}{m:List (Nat×Ob)}:look (E8 st m) st.length=none:=eK (k:=0)
theorem eA{st t:St}{m:List (Nat×Ob)}{k:Nat}(h:t.length≤k):look (E8 st m++t) (st.length+k)=none:=by rw[←cQ st m];exact oz h
attribute [go_sem] Jq Gv
section
variable {P:Program} {gl:Gl} {N b:Nat} {fr:Fr} {st:St} {dst:Option Nat} {f:FuncId} {args:List D} {r:D} {lg:Log} {tr G:Bool} {kk:Log→Fr→St→Prop} {k:Fr→St→Prop}
theorem gn(rd:List Nat){ups:List (Nat×Ob)}(h:∀st2,(∀o∈rd,look st2 o=look st o)→Spec P gl f args st2 fun d st'=>d=r∧st'=puts st2 ups)(hu:∀p∈ups,p.1∈rd)
 (hrd:∀o∈rd,o<b∧∃ob,look st o=some ob∧ob≠ .resv) (ht:tr=false→rd=[]) (hk:kk (iQ tr lg ⟨r,True,rd,none,none⟩ ups) (fr.fU dst r) (puts st ups)):
 wY P gl b tr dst lg fr st kk f args:=
 ⟨r,rd,ups,h,hu,fun o ho=>⟨.inl (hrd o ho).1,(hrd o ho).2⟩,ht,hk⟩
theorem DE{ups:List (Nat×Ob)}(h:G=true→Spec P gl f args st fun d st'=>d=r∧st'=puts st ups)(hf:G=false→puts st ups=st)(hk:k (fr.fU dst (.cond G r)) (puts st ups)):
 wU P gl G dst fr st k f args:=⟨r,ups,h,hf,hk⟩
end
section
variable {P:Program} {gl:Gl} {N:Nat} {w0:World} {μ0:Mu} {st0:St}
theorem Cp{o:Oper}{a:Act}{w:World}{K K':Act→World→Prop}{Q Q':Exit→Act→World→Prop}(h:∀a w,K a w→K' a w)(hp:∀c a w,Q (.panic c) a w→Q' (.panic c) a w)(hl:LetsOut Q→LetsOut Q')
 (hh:o.wp P a w K Q):o.wp P a w K' Q':=by
 unfold Oper.wp at*
 generalize (execOp a.eval o).run P w=r at*
 cases r with
 |ok n w'=>
  cases n<;>simp only[Oper.upon]at hh⊢ <;>
   first
    |exact h _ _ hh
    |exact Calls.mono hh (fun e w'' he=>by cases e<;>first|exact h _ _ he|exact hp _ _ _ he|exact hl he)
    |exact Rows.mono hh (fun _ _ he=>h _ _ he)
 |halt x w'=>cases x<;>simp only[Oper.upon]at hh⊢ <;>first|exact hp _ _ _ hh|exact hh
def zu(P:Program)(ops:Array Oper)(n:Nat)(Q:Exit→Act→World→Prop):Exit→Act→World→Prop
 | .normal,a,w=>wpOp P ops Q n (Q .normal) a w
 |e,a,w=>Q e a w
theorem Cq{l:List Oper}{oL:Oper}{Q:Exit→Act→World→Prop}(KF:∀i o,l[i]? =some o→∀e∈o.after,Region.binds .any e=true→e.on<i)(hg:∀o∈l,o.guard=none)
 (hlt:∀e∈oL.after,Region.binds .any e=true→e.on<l.length) (KG:∀i,i<l.length→Ord (l++[oL]).toArray i l.length):
 ∀(fuel:Nat) (L:Array Bool) (a:Act) (w:World),L.size=l.length→(∀k o,lst L k=true→l[k]? =some o→∀e∈o.after,Region.binds .any e=true→lst L e.on=true)→
  wpAny P .any l.toArray (zu P (l++[oL]).toArray l.length Q) fuel L a w→wpAny P .any (l++[oL]).toArray Q (fuel+1) (L.push false) a w:=by
 have hop:∀i,i<l.length→(l++[oL]).toArray[i]? =l[i]? :=fun i h=>by simp[List.getElem?_append_left h]
 have KH:(l++[oL]).toArray[l.length]? =some oL:=by simp
 have hpu:∀(L:Array Bool) (k:Nat),L.size=l.length→lst (L.push false) k=lst L k:=fun L k h=>by
  unfold lst
  rw[Array.getD_eq_getD_getElem?, Array.getD_eq_getD_getElem?, Array.getElem?_push]
  split
  ·rename_i e
   rw[Array.getElem?_eq_none (by omega)];rfl
  ·rfl
 have kL:∀(L:Array Bool) (i:Nat),L.size=l.length→(i∈Region.ready .any l.toArray L↔i<l.length∧lst L i=false∧∀o,l[i]? =some o→∀e∈o.after,Region.binds .any e=true→lst L e.on=true):=by
  intro L i hls
  unfold Region.ready
  simp only[List.mem_filter,List.mem_range,List.size_toArray,List.getElem?_toArray]
  constructor
  ·rintro⟨h1,h2⟩
   rw[List.getElem?_eq_getElem h1]at h2⊢
   simp only[Option.map_some,Option.getD_some,Bool.and_eq_true,Bool.not_eq_true',Array.all_eq_true_iff_forall_mem]at h2
   refine⟨h1,?_,fun o ho e he hb=>?_⟩
   ·have:=h2.1
    unfold lst
    simp[Array.getD_eq_getD_getElem?, hls,h1]at this⊢
    exact this
   ·cases ho
    have:=h2.2 e he
    simp only[Bool.or_eq_true,Bool.not_eq_true',hb,Bool.true_eq_false,false_or]at this
    exact this
  ·rintro⟨h1,h2,h3⟩
   refine⟨h1,?_⟩
   rw[List.getElem?_eq_getElem h1]at h3⊢
   simp only[Option.map_some,Option.getD_some,Bool.and_eq_true,Bool.not_eq_true',Array.all_eq_true_iff_forall_mem]
   refine⟨?_,fun e he=>?_⟩
   ·unfold lst at h2
    simp[Array.getD_eq_getD_getElem?, hls,h1]at h2⊢
    exact h2
   ·cases hb:Region.binds .any e with
    |false=>simp
    |true=>
     have:=h3 _ rfl e he hb
     unfold lst at this
     rw[this];rfl
 have zw:∀(L:Array Bool) (i:Nat),L.size=l.length→i∈Region.ready .any (l++[oL]).toArray (L.push false)→(i<l.length∧i∈Region.ready .any l.toArray L)∨(i=l.length∧∀e∈oL.after,Region.binds .any e=true→lst L e.on=true):=by
  intro L i hls hi
  have hsz:(l++[oL]).toArray.size=l.length+1:=by simp
  unfold Region.ready at hi
  rw[List.mem_filter,List.mem_range,hsz]at hi
  obtain⟨h1,h2⟩:=hi
  rw[Bool.and_eq_true]at h2
  have h4:∀o,(l++[oL]).toArray[i]? =some o→∀e∈o.after,Region.binds .any e=true→lst L e.on=true:=fun o ho e he hb=>by
   have:=h2.2
   rw[ho]at this
   simp only[Option.map_some,Option.getD_some,Array.all_eq_true_iff_forall_mem]at this
   have:=this e he
   simp only[hb,Bool.not_true,Bool.false_or]at this
   have h5:=hpu L e.on hls
   unfold lst at h5⊢
   rw[←h5];exact this
  by_cases hl:i<l.length
  ·refine .inl ⟨hl,(kL L i hls).2 ⟨hl,?_,fun o ho=>h4 o (by rw[hop i hl];exact ho)⟩⟩
   have h3:=h2.1
   have h5:=hpu L i hls
   unfold lst at h5⊢
   rw[←h5]
   have:(L.push false).getD i true=(L.push false).getD i false:=by
    rw[Array.getD_eq_getD_getElem?, Array.getD_eq_getD_getElem?, Array.getElem?_eq_getElem (show i<(L.push false).size by simp;omega)];rfl
   rw[←this]
   simpa using h3
  ·have e:i=l.length:=by omega
   subst e
   exact .inr ⟨rfl,h4 oL KH⟩
 have hnone:∀(L:Array Bool),L.size=l.length→Region.ready .any l.toArray L=[]→∀k,k<l.length→lst L k=true:=by
  intro L hls hr k
  induction k using Nat.strongRecOn with
  | _ k ih=>
   intro hk
   cases hL:lst L k with
   |true=>rfl
   |false=>
    exfalso
    have:k∈Region.ready .any l.toArray L:=(kL L k hls).2 ⟨hk,hL,fun o ho e he hb=>by
     have:=KF k o ho e he hb
     exact ih e.on this (by omega)⟩
    rw[hr]at this;cases this
 have HJ:∀(L:Array Bool),L.size=l.length→(∀k,k<l.length→lst L k=true)→Region.ready .any l.toArray L=[]:=fun L hls h=>by
  rw[List.eq_nil_iff_forall_not_mem]
  intro i hi
  obtain⟨h1,h2,_⟩:=(kL L i hls).1 hi
  rw[h i h1]at h2;cases h2
 have KI:∀(L:Array Bool),L.size=l.length→(∀k o,lst L k=true→l[k]? =some o→∀e∈o.after,Region.binds .any e=true→lst L e.on=true)→(∀e∈oL.after,Region.binds .any e=true→lst L e.on=true)→∀k,k<l.length→lst L k=true:=fun L hls hcl h k hk=>by
  refine KG k hk (lst L) (fun j o hj ho=>?_) (fun o ho=>by rw[KH]at ho;cases ho;exact h)
  have hjl:j<l.length:=by
   rcases Nat.lt_or_ge j l.length with h'|h'
   ·exact h'
   ·unfold lst at hj
    rw[Array.getD_eq_getD_getElem?, Array.getElem?_eq_none (by omega)]at hj;cases hj
  rw[hop j hjl]at ho
  exact hcl j o hj ho
 have hend:∀(fuel:Nat) (L:Array Bool) (a:Act) (w:World),L.size=l.length→Q .normal a w→(∀k,k<l.length→lst L k=true)→wpAny P .any (l++[oL]).toArray Q fuel ((L.push false).setIfInBounds l.length true) a w:=fun fuel L a w hls hq hall=>by
  have hr:Region.ready .any (l++[oL]).toArray ((L.push false).setIfInBounds l.length true)=[]:=by
   rw[List.eq_nil_iff_forall_not_mem]
   intro i hi
   unfold Region.ready at hi
   rw[List.mem_filter,List.mem_range,Bool.and_eq_true]at hi
   obtain⟨h1,h2,_⟩:=hi
   have hsz:(l++[oL]).toArray.size=l.length+1:=by simp
   rw[hsz]at h1
   have:((L.push false).setIfInBounds l.length true).getD i true=true:=by
    rw[Array.getD_eq_getD_getElem?, Array.getElem?_setIfInBounds]
    split
    ·simp[hls]
    ·rename_i hne
     have:=hpu L i hls
     have h5:=hall i (by omega)
     rw[←this]at h5
     unfold lst at h5
     rw[Array.getD_eq_getD_getElem?]at h5
     cases hx:(L.push false)[i]? with
     |none=>rfl
     |some b=>rw[hx]at h5;exact h5
   rw[this]at h2
   cases h2
  cases fuel with
  |zero=>exact⟨hr,hq⟩
  |succ fuel=>exact⟨fun _=>hq,fun i hi=>by rw[hr]at hi;cases hi⟩
 have hlo:LetsOut (zu P (l++[oL]).toArray l.length Q)→LetsOut Q:=id
 have fin:∀(fuel:Nat) (L:Array Bool) (a:Act) (w:World),L.size=l.length→(∀k o,lst L k=true→l[k]? =some o→∀e∈o.after,Region.binds .any e=true→lst L e.on=true)→(∀k,k<l.length→lst L k=true)→zu P (l++[oL]).toArray l.length Q .normal a w→
  wpAny P .any (l++[oL]).toArray Q (fuel+1) (L.push false) a w:=fun fuel L a w hls hcl hall hq=>by
  refine⟨fun hr=>?_,fun i hi=>?_⟩
  ·exfalso
   have:l.length∈Region.ready .any (l++[oL]).toArray (L.push false):=by
    unfold Region.ready
    rw[List.mem_filter,List.mem_range,KH]
    refine⟨by simp,?_⟩
    rw[Bool.and_eq_true]
    refine⟨by simp[Array.getD_eq_getD_getElem?, ←hls],?_⟩
    simp only[Option.map_some,Option.getD_some,Array.all_eq_true_iff_forall_mem]
    intro e he
    cases hb:Region.binds .any e with
    |false=>rfl
    |true=>
     have h5:=hall e.on (hlt e he hb)
     rw[←hpu L e.on hls]at h5
     unfold lst at h5
     rw[h5];rfl
   rw[hr]at this;cases this
  ·rcases zw L i hls hi with⟨h1,h2⟩|⟨rfl,_⟩
   ·rw[HJ L hls hall]at h2;cases h2
   ·exact wpOp_mono (fun a w hq=>hend fuel L a w hls hq hall) hq
 intro fuel
 induction fuel with
 |zero=>
  intro L a w hls hcl h
  exact fin 0 L a w hls hcl (hnone L hls h.1) h.2
 |succ fuel ih=>
  intro L a w hls hcl h
  by_cases hall:∀k,k<l.length→lst L k=true
  ·exact fin _ L a w hls hcl hall (h.1 (HJ L hls hall))
  refine⟨fun hr=>?_,fun i hi=>?_⟩
  ·exfalso
   refine hall (hnone L hls ?_)
   rw[List.eq_nil_iff_forall_not_mem]
   intro i hi
   obtain⟨h1,h2,h3⟩:=(kL L i hls).1 hi
   have:i∈Region.ready .any (l++[oL]).toArray (L.push false):=by
    unfold Region.ready
    rw[List.mem_filter,List.mem_range,hop i h1]
    refine⟨by simp;omega,?_⟩
    rw[List.getElem?_eq_getElem h1]at h3⊢
    rw[Bool.and_eq_true]
    have e1:=hpu L i hls
    refine⟨?_,?_⟩
    ·rw[h2]at e1
     unfold lst at e1
     have:(L.push false).getD i true=(L.push false).getD i false:=by
      rw[Array.getD_eq_getD_getElem?, Array.getD_eq_getD_getElem?, Array.getElem?_eq_getElem (show i<(L.push false).size by simp;omega)];rfl
     rw[this,e1];rfl
    ·simp only[Option.map_some,Option.getD_some,Array.all_eq_true_iff_forall_mem]
     intro e he
     cases hb:Region.binds .any e with
     |false=>rfl
     |true=>
      have h5:=h3 _ rfl e he hb
      rw[←hpu L e.on hls]at h5
      unfold lst at h5
      rw[h5];rfl
   rw[hr]at this;cases this
  ·rcases zw L i hls hi with⟨h1,h2⟩|⟨rfl,h2⟩
   ·have h3:=h.2 i h2
    have MN:∀k o,lst (L.setIfInBounds i true) k=true→l[k]? =some o→∀e∈o.after,Region.binds .any e=true→lst (L.setIfInBounds i true) e.on=true:=fun k o hk ho e he hb=>by
     have hL':∀k,lst (L.setIfInBounds i true) k=if k=i then true else lst L k:=fun k=>by
      unfold lst
      by_cases e:k=i
      ·subst e;rw[if_pos rfl];simp[Array.getD_eq_getD_getElem?, hls,h1]
      ·rw[if_neg e];simp[Array.getD_eq_getD_getElem?, Array.getElem?_setIfInBounds_ne (Ne.symm e)]
     rw[hL']at hk⊢
     split
     ·rfl
     ·by_cases hki:k=i
      ·subst hki;exact((kL L k hls).1 h2).2.2 o ho e he hb
      ·rw[if_neg hki]at hk;exact hcl k o hk ho e he hb
    have rP:(L.push false).setIfInBounds i true=(L.setIfInBounds i true).push false:=by
     apply Array.ext_getElem?
     intro k
     by_cases hk:i=k
     ·subst hk
      have q1:i<L.size:=by omega
      have q2:i≠L.size:=by omega
      have q3:i<L.size+1:=by omega
      rw[Array.getElem?_setIfInBounds,if_pos rfl,Array.size_push,if_pos q3,Array.getElem?_push,Array.size_setIfInBounds,if_neg q2,Array.getElem?_setIfInBounds,if_pos rfl,if_pos q1]
     ·rw[Array.getElem?_setIfInBounds,if_neg hk,Array.getElem?_push,Array.getElem?_push,Array.size_setIfInBounds,Array.getElem?_setIfInBounds,if_neg hk]
    have next:∀a w,wpAny P .any l.toArray (zu P (l++[oL]).toArray l.length Q) fuel (L.setIfInBounds i true) a w→wpAny P .any (l++[oL]).toArray Q (fuel+1) ((L.push false).setIfInBounds i true) a w:=fun a w hh=>by
     rw[rP]
     exact ih (L.setIfInBounds i true) a w (by simpa using hls) MN hh
    unfold wpOp at h3⊢
    rw[hop i h1]
    rw[List.getElem?_toArray,List.getElem?_eq_getElem h1]at h3
    rw[List.getElem?_eq_getElem h1]
    have hgd:(l[i]).guard=none:=hg _ (List.getElem_mem h1)
    have hw:∀f,Region.wanted (l[i]) f=true:=fun f=>by unfold Region.wanted;rw[hgd]
    simp only[hw,if_true]at h3⊢
    exact h3.imp (Cp next (fun c a w h=>h) hlo) (fun h=>⟨h.1,hlo h.2⟩)
   ·exact absurd (KI L hls hcl h2) hall
def zx(l:List Oper)(oL:Oper):Bool:=
 l.all (fun o=>o.guard.isNone)&&(oL.after.toList.all fun e=> !Region.binds .any e||Nat.blt e.on l.length)&&(List.range l.length).all fun i=>Nat.testBit ((masks (l++[oL]) []).getD l.length 0) i
variable {n0:Nat} {keep:List Nat} {AQ':AQ} {fr:Fr} {st:St}
theorem sJ{id:Nat}{ops l:List Oper}{oL:Oper}(trk:List Nat)(n:Nat)(MO:ops=l++[oL])(hm:P.follows .mixedOrders=true)(ho:iR l.toArray trk=true)(hn:dK l=n)(hk:zx l oL=true)
 (h:EvD P gl N l.toArray st.length trk (fun fr st=>Ev P gl N (l++[oL]).toArray (fun fr st=>AQ' .normal (Fr.only keep fr) st) [oL] fr st) l 0 0 [] fr (st++List.replicate n (some .resv))):
 AWp P gl N n0 keep (.region id ops.toArray true) AQ' fr st:=by
 subst MO
 intro w0 μ0 st0 hl a w ⟨μ,hc⟩
 refine wp_region_any hm ?_
 unfold zx at hk
 simp only[Bool.and_eq_true,List.all_eq_true,List.mem_range,Option.isNone_iff_eq_none]at hk
 obtain⟨⟨k1,k2⟩,k3⟩:=hk
 have KF:∀i o,l[i]? =some o→∀e∈o.after,Region.binds .any e=true→e.on<i:=fun i o hio e he hb=>by
  have hil:i<l.length:=(List.getElem?_eq_some_iff.1 hio).1
  have Dz:=ho
  unfold iR at Dz
  simp only[List.all_eq_true,List.mem_range,Bool.and_eq_true]at Dz
  have:=(Dz i (by simpa using hil)).1
  rw[List.getElem?_toArray,hio]at this
  simp only[List.all_eq_true]at this
  have:=this e (by simpa using he)
  rw[hb]at this
  simp only[Bool.not_true,Bool.false_or]at this
  exact Nat.lt_of_lt_of_le (Nat.lt_succ_self _) (Nat.le_of_ble_eq_true this)
 have hlt:∀e∈oL.after,Region.binds .any e=true→e.on<l.length:=fun e he hb=>by
  have:=k2 e (by simpa using he)
  rw[hb]at this
  simp only[Bool.not_true,Bool.false_or]at this
  exact Nat.lt_of_lt_of_le (Nat.lt_succ_self _) (Nat.le_of_ble_eq_true this)
 have KG:∀i,i<l.length→Ord (l++[oL]).toArray i l.length:=fun i hi=>
  ou (ops:=(l++[oL]).toArray) (l++[oL]) [] rfl (fun j hj=>absurd hj (Nat.not_lt_zero _)) l.length i (k3 i hi)
 have key:=sF (w0:=w0) (μ0:=μ0) (st0:=st0) (Q:=zu P (l++[oL]).toArray l.length (cq gl N w0 μ0 st0 AQ')) trk n ho hn h hc fun fr st a w μ hk hc=>by
  have:=eG (P:=P) (gl:=gl) (N:=N) (ops:=(l++[oL]).toArray) (w0:=w0) (μ0:=μ0) (st0:=st0) (Q:=cq gl N w0 μ0 st0 AQ') (fun fr st a w μ hk hc=>⟨_,_,hk,μ,hc.sim,hc.glob,hc.fr.only keep,hc.size,hc.defers,hc.step⟩) [oL] l.length (by simp) ⟨fr,st,True⟩ a w μ hc (oq _ _ _ _ trivial hk)
  simp only[List.length_cons,List.length_nil,Nat.zero_add,List.range'_one]at this
  rw[wpOps_cons]at this
  exact wpOp_mono (fun a w h=>h) this
 have:=Cq KF k1 hlt KG _ (Array.replicate l.toArray.size false) a _ (by simp) (fun k o hk=>by
  unfold lst at hk
  rw[Array.getD_eq_getD_getElem?]at hk
  by_cases hi:k<l.length
  ·simp[hi]at hk
  ·simp[hi]at hk) key
 have e1:(l++[oL]).toArray.size=l.toArray.size+1:=by simp
 have e2:Array.replicate (l.toArray.size+1) false=(Array.replicate l.toArray.size false).push false:=by
  apply Array.ext_getElem?
  intro i
  rw[Array.getElem?_push,Array.getElem?_replicate,Array.getElem?_replicate,Array.size_replicate]
  by_cases h1:i<l.toArray.size
  ·rw[if_pos (by omega),if_pos h1,if_neg (by omega)]
  ·by_cases h2:i=l.toArray.size
   ·rw[if_pos (by omega),if_pos h2]
   ·rw[if_neg (by omega),if_neg h1,if_neg h2]
 rw[e1,e2]
 exact this
end
section
variable {P:Program} {gl:Gl} {N n0:Nat} {keep:List Nat} {Q:AQ} {fr:Fr} {st:St} {x y:Code} {o:Operand} {i:Nat}
theorem iS(h:AWp P gl N n0 keep (.seq x y) (AQ.block i Q) fr st):AWp P gl N n0 keep (.block i (.seq x y)) Q fr st:=Dt h
theorem fC(h:AWp P gl N n0 keep (.cond o x y) (AQ.block i Q) fr st):AWp P gl N n0 keep (.block i (.cond o x y)) Q fr st:=Dt h
theorem iT{k:Nat}{l:Array Oper}{b:Bool}(h:AWp P gl N n0 keep (.region k l b) (AQ.block i Q) fr st):AWp P gl N n0 keep (.block i (.region k l b)) Q fr st:=Dt h
theorem iU{k:Nat}(h:AWp P gl N n0 keep (.block k x) (AQ.block i Q) fr st):AWp P gl N n0 keep (.block i (.block k x)) Q fr st:=Dt h
theorem cY(h:AWp P gl N n0 keep (.scope x) (AQ.block i Q) fr st):AWp P gl N n0 keep (.block i (.scope x)) Q fr st:=Dt h
theorem rn{A B:Prop}(b:B)(e:B→A:=by
 intro hb;(try simp only[go_sem,fx]);(repeat (first|apply sq_|(apply er_;simp only[go_sem,fx])|(apply Bn;(try simp only[go_sem,fx]))|(apply gO;(try simp only[go_sem,fx]))|apply iS|apply fC|apply iT|apply iU|apply cY|apply cW|(apply cX;(try simp only[go_sem,fx]))));exact hb):A:=e b
theorem r0{A B:Prop}(b:B)(e:B→A:=by
 intro hb;(try simp only[go_sem,fx]);(repeat apply sq_);(first|(apply er_;simp only[go_sem,fx])|(apply Bn;(try simp only[go_sem,fx]))|(apply gO;(try simp only[go_sem,fx]))|apply iS|apply fC|apply iT|apply iU|apply cY|apply cW|(apply cX;(try simp only[go_sem,fx])));exact hb):A:=e b
theorem r1{A B:Prop}(b:B)(e:B→A:=by
 intro hb;(try simp only[go_sem,fx]);(repeat apply sq_);apply er_;simp only[go_sem,fx,fy];exact hb):A:=e b
theorem rs{A B:Prop}(b:B)(e:B→A:=by
 intro hb;(try simp only[go_sem,fx]);(repeat apply sq_);exact hb):A:=e b
theorem cd{α:Type}{c t:Bool}{a b:Option α}{r:α}{W:Prop}(h:(bif c then a else b)=some r)
 (k1:c=true→a=some r→AWp P gl N n0 keep x Q fr st) (k0:c=false→b=some r→AWp P gl N n0 keep y Q fr st)
 (e:AWp P gl N n0 keep (.cond o x y) Q fr st→W:=by
  intro hb;(try simp only[go_sem,fx]);(repeat (first|apply sq_|(apply er_;simp only[go_sem,fx])|(apply Bn;(try simp only[go_sem,fx]))|(apply gO;(try simp only[go_sem,fx]))|apply iS|apply fC|apply iT|apply iU|apply cY|apply cW|(apply cX;(try simp only[go_sem,fx]))));exact hb)
 (ho:ev gl fr o= .bool t:=by rfl) (hc:t=c:=by first|rfl|simp):W:=
 e (GI ho (fun ht=>k1 (hc▸ht) (Hw h (hc▸ht))) fun ht=>k0 (hc▸ht) (Hx h (hc▸ht)))
theorem ct{t:Bool}{W:Prop}(k:AWp P gl N n0 keep x Q fr st)
 (e:AWp P gl N n0 keep (.cond o x y) Q fr st→W:=by
  intro hb;(try simp only[go_sem,fx]);(repeat (first|apply sq_|(apply er_;simp only[go_sem,fx])));exact hb)
 (ho:ev gl fr o= .bool t:=by rfl) (ht:t=true:=by first|rfl|exact decide_eq_true (by omega)|(simp;done)|(simp;omega)):W:=
 e (GI ho (fun _=>k) fun h=>by rw[ht]at h;cases h)
theorem cf{t:Bool}{W:Prop}(k:AWp P gl N n0 keep y Q fr st)
 (e:AWp P gl N n0 keep (.cond o x y) Q fr st→W:=by
  intro hb;(try simp only[go_sem,fx]);(repeat (first|apply sq_|(apply er_;simp only[go_sem,fx])));exact hb)
 (ho:ev gl fr o= .bool t:=by rfl) (ht:t=false:=by first|rfl|exact decide_eq_false (by omega)|(simp;done)|(simp;omega)):W:=
 e (GI ho (fun h=>by rw[ht]at h;cases h) fun _=>k)
theorem ck{φ p:Prop}[Decidable p]{β:Type}{x:Option β}{e:β}(f:φ)(h:chk p x=some e):(φ∧p)∧x=some e:=
 let ⟨a,b⟩:=Br h;⟨⟨f,a⟩,b⟩
theorem cl{α β:Type}{x:Option α}{k:α→Option β}{r:β}{d:α→D}{f:FuncId}{args:List D}{R:D→St→Prop}{W:Prop}
 (h:x.bind k=some r) (p:∀v,x=some v→Pure P gl f args (d v)) (b:∀v,k v=some r→R (d v) st)
 (e:Spec P gl f args st R→W:=by
  intro hb;(try simp only[go_sem,fx]);(repeat (first|apply sq_|(apply er_;simp only[go_sem,fx])|(apply Bn;(try simp only[go_sem,fx]))|(apply gO;(try simp only[go_sem,fx]))|apply iS|apply fC|apply iT|apply iU|apply cY|apply cW|(apply cX;(try simp only[go_sem,fx]))));exact hb):W:=by
 obtain⟨v,hv,h⟩:=M1 h
 exact e ((p v hv).to (b v h))
theorem up{α:Type}{x:Option α}{f:FuncId}{args args':List D}{d:α→D}(p:∀v,x=some v→Pure P gl f args' (d v))(u:∀st,Ups st st args args')(s:∀n,D.scs n args':=by intro n;simp):∀v,x=some v→Pure P gl f args (d v):=
 fun v hv=>(p v hv).up u (.inr s)
theorem c0{α β:Type}{x:Option α}{k:α→Option β}{r:β}{W:Prop}(h:x.bind k=some r)(b:∀v,x=some v→k v=some r→W):W:=by
 obtain⟨v,hv,h⟩:=M1 h
 exact b v hv h
theorem l0{α β:Type}{a:α}{f:α→Option β}{e:β}{W:Prop}(h:aB a f=some e)(b:∀y,y=a→f y=some e→W):W:=b a rfl h
theorem fa{p q:Prop}(a:p)(b:q):p∧q:=⟨a,b⟩
theorem rt{W:Prop}(e:W:=by
 (try simp only[go_sem,fx]);(repeat (first|apply sq_|(apply er_;simp only[go_sem,fx])|(apply Bn;(try simp only[go_sem,fx]))|(apply gO;(try simp only[go_sem,fx]))|apply iS|apply fC|apply iT|apply iU|apply cY|apply cW|(apply cX;(try simp only[go_sem,fx]))));(try (apply Ef;(try simp only[go_sem,fx])));(first|apply Gh|apply vP);simp only[go_sem,fx];
 first|exact kN hsc (.same _) (by simp) ⟨by cases h;rfl,rfl⟩|exact qS hsc (.same _) (by simp) ⟨by cases h;rfl,rfl⟩):W:=e
theorem rr{A B:Prop}(b:B)(e:B→A:=by
 intro hb;(try simp only[go_sem,fx]);(repeat (first|apply sq_|(apply er_;simp only[go_sem,fx])|(apply Bn;(try simp only[go_sem,fx]))|(apply gO;(try simp only[go_sem,fx]))|apply iS|apply fC|apply iT|apply iU|apply cY|apply cW|(apply cX;(try simp only[go_sem,fx]))));(try (apply Ef;(try simp only[go_sem,fx])));(first|apply Gh|apply vP);simp only[go_sem,fx];exact hb):A:=e b
theorem ra{A B:Prop}(b:B)(e:B→A:=by
 intro hb;(try simp only[go_sem,fx]);(repeat (first|apply sq_|(apply er_;simp only[go_sem,fx])|(apply Bn;(try simp only[go_sem,fx]))|(apply gO;(try simp only[go_sem,fx]))|apply iS|apply fC|apply iT|apply iU|apply cY|apply cW|(apply cX;(try simp only[go_sem,fx]))));apply Ef;(try simp only[go_sem,fx]);exact hb):A:=e b
theorem fo{α:Type}{e r:α}{s l:St}{d:D}(d':D){R:D→St→Prop}(hu:Up (s++l) s d d')(h:some e=some r)(hsc:iw s.length s)(hd:D.sc s.length d':=by simp)(hr:e=r→R d' s:=by rintro rfl;exact⟨rfl,rfl⟩):fin s.length R d (s++l):=
 qS hsc hu hd (hr (Option.some.inj h))
theorem fs{α:Type}{e r:α}{s:St}{d:D}(d':D){R:D→St→Prop}(hu:Up s s d d')(h:some e=some r)(hsc:iw s.length s)(hd:D.sc s.length d':=by simp)(hr:e=r→R d' s:=by rintro rfl;exact⟨rfl,rfl⟩):fin s.length R d s:=
 kN hsc hu hd (hr (Option.some.inj h))
theorem bm{s l l':St}{F:Fr}(hsc:iw s.length s)(hu:UpL (s++l) (s++l') l l':=by(repeat (first|exact .nil _|refine .live _ _ _ _ (.same _) ?_|refine .dead _ _ _ ?_)))(hf:tM (s++l) (s++l') fr F:=by(repeat (first|exact trivial|refine⟨.same _,?_⟩|refine⟨.sG _ _ _ _,?_⟩|refine⟨.full _ _ _ _,?_⟩|refine⟨.y5 _ _ _ (by decide),?_⟩|refine⟨.any _,?_⟩)))(hl:ScL (s++l').length l':=by simp)(hs:Fr.sc (s++l').length F:=by simp):BkS s.length F (s++l') fr (s++l):=xU hsc hu hl hf hs
theorem bm0{s l:St}{F:Fr}(hsc:iw s.length s)(hf:tM (s++l) s fr F:=by(repeat (first|exact trivial|refine⟨.same _,?_⟩|refine⟨.sG _ _ _ _,?_⟩|refine⟨.full _ _ _ _,?_⟩|refine⟨.y5 _ _ _ (by decide),?_⟩|refine⟨.any _,?_⟩)))(hs:Fr.sc s.length F:=by simp):BkS s.length F s fr (s++l):=EH hsc hf hs
theorem jP{s:St}{F:Fr}(hsc:iw s.length s)(hf:tM s s fr F:=by(repeat (first|exact trivial|refine⟨.same _,?_⟩|refine⟨.sG _ _ _ _,?_⟩|refine⟨.full _ _ _ _,?_⟩|refine⟨.y5 _ _ _ (by decide),?_⟩|refine⟨.any _,?_⟩)))(hs:Fr.sc s.length F:=by simp):BkS s.length F s fr s:=Cm hsc hf hs
theorem bu{s:St}{m:List (Nat×Ob)}{l l':St}{F:Fr}(hsc:iw s.length s)(hu:UpL (E8 s m++l) (E8 s m++l') l l':=by(repeat (first|exact .nil _|refine .live _ _ _ _ (.same _) ?_|refine .dead _ _ _ ?_)))(hf:tM (E8 s m++l) (E8 s m++l') fr F:=by(repeat (first|exact trivial|refine⟨.same _,?_⟩|refine⟨.sG _ _ _ _,?_⟩|refine⟨.full _ _ _ _,?_⟩|refine⟨.y5 _ _ _ (by decide),?_⟩|refine⟨.any _,?_⟩)))(hm:scM s.length m:=by simp<;>omega)(hl:ScL (E8 s m++l').length l':=by simp<;>omega)(hs:Fr.sc (E8 s m++l').length F:=by simp<;>omega):BkS s.length F (E8 s m++l') fr (E8 s m++l):=jF (by simp) (aQ hsc hm) hu hl hf hs
theorem bu0{s:St}{m:List (Nat×Ob)}{l:St}{F:Fr}(hsc:iw s.length s)(hf:tM (E8 s m++l) (E8 s m) fr F:=by(repeat (first|exact trivial|refine⟨.same _,?_⟩|refine⟨.sG _ _ _ _,?_⟩|refine⟨.full _ _ _ _,?_⟩|refine⟨.y5 _ _ _ (by decide),?_⟩|refine⟨.any _,?_⟩)))(hm:scM s.length m:=by simp<;>omega)(hs:Fr.sc (E8 s m).length F:=by simp<;>omega):BkS s.length F (E8 s m) fr (E8 s m++l):=EK (by simp) (aQ hsc hm) hf hs
theorem xw{s:St}{m:List (Nat×Ob)}{F:Fr}(hsc:iw s.length s)(hf:tM (E8 s m) (E8 s m) fr F:=by(repeat (first|exact trivial|refine⟨.same _,?_⟩|refine⟨.sG _ _ _ _,?_⟩|refine⟨.full _ _ _ _,?_⟩|refine⟨.y5 _ _ _ (by decide),?_⟩|refine⟨.any _,?_⟩)))(hm:scM s.length m:=by simp<;>omega)(hs:Fr.sc (E8 s m).length F:=by simp<;>omega):BkS s.length F (E8 s m) fr (E8 s m):=Cn (by simp) (aQ hsc hm) hf hs
theorem rng{φ:Prop}{Γ ρ σ:Type}{c:Code}{id n:Nat}{body:Nat→σ→Option (Ctl ρ σ σ)}{s0:σ}{kk:σ→Option ρ}{e:ρ}(F:Γ→Nat→σ→Fr)(T:Γ→Nat→σ→St)(Fb:Γ→σ→Fr)(Tb:Γ→σ→St)(γ0:Γ)(fx:φ)(hl:n≤9223372036854775807)
 (h:B2 (G2 body n s0) kk=some e)
 (h0:BkS n0 (F γ0 0 s0) (T γ0 0 s0) fr st)
 (hs:∀γ k s b,φ∧k<n∧wr .i64 ((k:Int)+1)=((k+1:Nat):Int)→body k s=some b→(∀x,b= .ret x→x=e)→AWp P gl N n0 keep c (PBr n0 id F T Fb Tb Q k b) (F γ k s) (T γ k s))
 (he:∀γ s,AWp P gl N n0 keep c (fun ex fr st=>ex= .exit id∧∃γ',BkS n0 (Fb γ' s) (Tb γ' s) fr st) (F γ n s) (T γ n s))
 (hk:∀γ s fr st,kk s=some e→BkS n0 (Fb γ s) (Tb γ s) fr st→Q .normal fr st):
 AWp P gl N n0 keep (.block id (.loop c)) Q fr st:=
 arg_ F T Fb Tb γ0 h h0 (fun γ k s b hk=>hs γ k s b ⟨fx,hk,EG hk hl⟩) he hk
theorem aln{W:Prop}{n b:Nat}{full:Bool}{α:Type}{E:α→List D}{l:List α}{c:Code}(t:Nat)(k:l.length≤9223372036854775807→AWp P gl N n0 keep c Q fr st)
 (e:AWp P gl N n0 keep c Q fr st→W:=by
  intro hb;(try simp only[go_sem,fx]);(repeat (first|apply sq_|(apply er_;simp only[go_sem,fx])|(apply Bn;(try simp only[go_sem,fx]))|(apply gO;(try simp only[go_sem,fx]))|apply iS|apply fC|apply iT|apply iU|apply cY|apply cW|(apply cX;(try simp only[go_sem,fx]))));exact hb)
 (hg:fr.get t= .sl full n b (rows E l):=by rfl) (hb:1≤b:=by decide):W:=
 e (Kp hg fun h=>k (by
  rw[sI]at h
  have h1:l.length*1≤l.length*b:=Nat.mul_le_mul_left _ hb
  unfold top at h;omega))
theorem fb{f:FuncId}{fn:Func}{c:Code}{args:List D}{R:D→St→Prop}(N:Nat)(rs:List ResultVar)(keep:List Nat)(hf:P.funcs[f]? =some fn)(h:iw st.length st→AWp P gl N st.length keep c (Gg P rs st.length R) (qK 0 args) st)
 (hb:fn.body=some c:=by rfl) (hN:fn.ntmps=N:=by rfl) (hr:fn.results.toList=rs:=by rfl) (hname:(fn.name != "runtime.NumGoroutine")=true:=by kernel_rfl) (hlen:Nat.ble args.length N=true:=by rfl):Spec P gl f args st R:=
 KA keep hf hb hN hr hname hlen h
theorem idf{o:Nat}(ho:o<st.length):(∀(l:St) (x:Ob) (m:List (Nat×Ob)),(E8 st m++l).set o (some x)=E8 st (EI m o x)++l)∧(∀(x:Ob) (m:List (Nat×Ob)),(E8 st m).set o (some x)=E8 st (EI m o x))∧(∀(l:St) (m:List (Nat×Ob)),look (E8 st m++l) o=uJ m o (look st o))∧∀m:List (Nat×Ob),look (E8 st m) o=uJ m o (look st o):=
 ⟨fun _ _ m=>KD ho m,fun _ m=>KE ho m,fun _ m=>KB ho m,fun m=>KC ho m⟩
theorem nd2{a b:Nat}(h: [a,b].Nodup):((a=b)=False)∧((b=a)=False):=by
 simp at h;exact⟨eq_false h,eq_false fun e=>h e.symm⟩
theorem nd3{a b c:Nat}(h: [a,b,c].Nodup):(((a=b)=False)∧((b=a)=False))∧(((a=c)=False)∧((c=a)=False))∧((b=c)=False)∧((c=b)=False):=by
 simp at h
 exact⟨nd2 (by simp[h]),nd2 (by simp[h]),nd2 (by simp[h])⟩
theorem nd5{a b c d e:Nat}(h: [a,b,c,d,e].Nodup):(((a=b)=False)∧((b=a)=False))∧(((a=c)=False)∧((c=a)=False))∧(((a=d)=False)∧((d=a)=False))∧(((a=e)=False)∧((e=a)=False))∧(((b=c)=False)∧((c=b)=False))∧(((b=d)=False)∧((d=b)=False))∧(((b=e)=False)∧((e=b)=False))∧(((c=d)=False)∧((d=c)=False))∧(((c=e)=False)∧((e=c)=False))∧((d=e)=False)∧((e=d)=False):=by
 simp at h
 exact⟨nd2 (by simp[h]),nd2 (by simp[h]),nd2 (by simp[h]),nd2 (by simp[h]),nd2 (by simp[h]),nd2 (by simp[h]),nd2 (by simp[h]),nd2 (by simp[h]),nd2 (by simp[h]),nd2 (by simp[h])⟩
theorem fuo{α:Type}{e r:α}{s l:St}{m:List (Nat×Ob)}{d:D}(d':D){R:D→St→Prop}(hu:Up (E8 s m++l) (E8 s m) d d')(h:some e=some r)(hsc:iw s.length s)(hr:e=r→R d' (E8 s m):=by rintro rfl;exact⟨rfl,rfl⟩)(hm:scM s.length m:=by simp<;>omega)(hd:D.sc (E8 s m).length d':=by simp<;>omega):fin s.length R d (E8 s m++l):=
 Co (by simp) (aQ hsc hm) hu hd (hr (Option.some.inj h))
theorem fus{α:Type}{e r:α}{s:St}{m:List (Nat×Ob)}{d:D}(d':D){R:D→St→Prop}(hu:Up (E8 s m) (E8 s m) d d')(h:some e=some r)(hsc:iw s.length s)(hr:e=r→R d' (E8 s m):=by rintro rfl;exact⟨rfl,rfl⟩)(hm:scM s.length m:=by simp<;>omega)(hd:D.sc (E8 s m).length d':=by simp<;>omega):fin s.length R d (E8 s m):=
 zq (by simp) (aQ hsc hm) hu hd (hr (Option.some.inj h))
theorem dw{B:Prop}{i:Nat}{l:List Oper}(trk:List Nat)(n:Nat)(b:B)
 (e:B→EvD P gl N l.toArray st.length trk (fun fr st=>Q .normal (Fr.only keep fr) st) l 0 0 [] fr (st++List.replicate n (some .resv)):=by intro hb;simp only[go_sem,List.replicate_succ,List.replicate_zero,fx];exact hb)
 (hm:P.follows .mixedOrders=true:=by exact follows) (ho:iR l.toArray trk=true:=by kernel_rfl) (hn:dK l=n:=by rfl):AWp P gl N n0 keep (.region i l.toArray true) Q fr st:=Lv trk n hm ho hn (e b)
theorem dwy{B:Prop}{i:Nat}{l:List Oper}(trk:List Nat)(n:Nat)(b:B)
 (e:B→EvD P gl N l.toArray st.length trk (fun fr st=>Q .normal (Fr.only keep fr) st) l 0 0 [] fr (st++List.replicate n (some .resv)):=by intro hb;simp only[go_sem,List.replicate_succ,List.replicate_zero,fx,fy];exact hb)
 (hm:P.follows .mixedOrders=true:=by exact follows) (ho:iR l.toArray trk=true:=by kernel_rfl) (hn:dK l=n:=by rfl):AWp P gl N n0 keep (.region i l.toArray true) Q fr st:=Lv trk n hm ho hn (e b)
theorem dwl{B:Prop}{i:Nat}{ops l:List Oper}{oL:Oper}(trk:List Nat)(n k:Nat)(b:B)(h1:ops.take k=l:=by rfl)(h2:ops.drop k=[oL]:=by rfl)
 (e:B→EvD P gl N l.toArray st.length trk (fun fr st=>Ev P gl N (l++[oL]).toArray (fun fr st=>Q .normal (Fr.only keep fr) st) [oL] fr st) l 0 0 [] fr (st++List.replicate n (some .resv)):=by intro hb;simp only[go_sem,List.replicate_succ,List.replicate_zero,fx];exact hb)
 (hm:P.follows .mixedOrders=true:=by exact follows) (ho:iR l.toArray trk=true:=by kernel_rfl) (hn:dK l=n:=by rfl) (hk:zx l oL=true:=by kernel_rfl):AWp P gl N n0 keep (.region i ops.toArray true) Q fr st:=
 sJ trk n (by rw[←h1, ←h2,List.take_append_drop]) hm ho hn hk (e b)
theorem Gj{k:Nat}(h:k≤140737488355328):(k≤top)=True:=eq_true (by unfold top;exact h)
section
variable {α:Type} {E:α→List D}
end
end
attribute [go_sem] Gj
section
variable {q m n k i:Nat} {M:List (List Int)} {R:List Int}
def zs(k:Nat)(r:List Int):List (List Int):=List.replicate k r
section
variable {α:Type} {same:α→α→Bool} {a b:List α}
end
theorem sK{σ:Type}(n:Nat)(s:σ):B2 (ρ:=σ) (G2 (fun _ s=>some (.nxt s)) n s) (fun s=>some s)=some s:=by
 unfold G2
 generalize 0=k
 induction n generalizing k with
 |zero=>rfl
 |succ n ih=>simp only[Y3];exact ih _
end
section
variable {α:Type} {E:α→List D} {b:Nat} {M:List (List α)} {R:List α} {i k m n q:Nat}
end
section
variable {P:Program} {gl:Gl} {N n0:Nat} {keep:List Nat} {Q:AQ} {fr:Fr} {st:St} {c:Code} {id n:Nat}
theorem qg{ρ σ:Type}{body:Nat→σ→Option (Ctl ρ σ σ)}{s0:σ}{kk:σ→Option ρ}{e:ρ}(I:Nat→σ→Fr→St→Prop)(J:σ→Fr→St→Prop)
 (hn:∀k s b,body k s=some b→∃s',b= .nxt s') (h:B2 (G2 body n s0) kk=some e) (h0:I 0 s0 fr st)
 (hs:∀k s s' fr st,k<n→body k s=some (.nxt s')→I k s fr st→AWp P gl N n0 keep c (fun ex fr st=>ex= .normal∧∃F,Fr.leq F fr∧I (k+1) s' F st) fr st)
 (he:∀s fr st,I n s fr st→AWp P gl N n0 keep c (fun ex fr st=>ex= .exit id∧∃F,Fr.leq F fr∧J s F st) fr st)
 (hk:∀s F fr st,kk s=some e→J s F st→Fr.leq F fr→Q .normal fr st):AWp P gl N n0 keep (.block id (.loop c)) Q fr st:=by
 refine Dt ?_
 unfold G2 at h
 have key:∀m k s fr st,k+m=n→B2 (Y3 body m k s) kk=some e→I k s fr st→AWp P gl N n0 keep (.loop c) (AQ.block id Q) fr st:=by
  intro m
  induction m with
  |zero=>
   intro k s fr st hk' h1 hi
   have:k=n:=by omega
   subst this
   refine kG (kH (he s fr st hi) fun ex fr st hq=>?_)
   obtain⟨rfl,F,hb,hj⟩:=hq
   show AQ.block id Q (.exit id) fr st
   simp only[AQ.block,if_true]
   exact hk s F fr st h1 hj hb
  |succ m ih=>
   intro k s fr st hk' h1 hi
   simp only[Y3]at h1
   cases hb:body k s with
   |none=>rw[hb]at h1;cases h1
   |some b=>
    rw[hb]at h1
    obtain⟨s',rfl⟩:=hn k s b hb
    refine kG (kH (hs k s s' fr st (by omega) hb hi) fun ex fr st hq=>?_)
    obtain⟨rfl,F,hb,hi'⟩:=hq
    exact oo hb (ih (k+1) s' F st (by omega) h1 hi')
 exact key n 0 s0 fr st (by omega) h h0
end
section
variable {α:Type} {E:α→List D} {b q n k:Nat} {N:St}
def HK(q:Nat)(N:St)(E:α→List D)(b:Nat)(r:List α)(c:D):Prop:=(c= .y5∧r=[])∨∃j g,c= .ref false (q+(j+1)) g 0 r.length∧N[j]? =some (some (.arr g 1 b (rows E r)))
inductive xA(q:Nat)(N:St)(E:α→List D)(b:Nat):List (List D)→List (List α)→Prop
 |nil:xA q N E b [] []
 |cons (r:List α) (c:D) (C:List (List D)) (T:List (List α)) (h:HK q N E b r c) (t:xA q N E b C T):xA q N E b ([c]::C) (r::T)
theorem xA.len{C:List (List D)}{T:List (List α)}(h:xA q N E b C T):C.length=T.length:=by
 induction h with
 |nil=>rfl
 |cons r c C T _ _ ih=>simp[ih]
theorem HK.app{M:St}{r:List α}{c:D}(h:HK q N E b r c):HK q (N++M) E b r c:=by
 rcases h with h|⟨j,g,h1,h2⟩
 ·exact .inl h
 ·exact .inr ⟨j,g,h1,by rw[List.getElem?_append_left (List.getElem?_eq_some_iff.1 h2).1];exact h2⟩
theorem xA.app{M:St}{C:List (List D)}{T:List (List α)}(h:xA q N E b C T):xA q (N++M) E b C T:=by
 induction h with
 |nil=>exact .nil
 |cons r c C T h _ ih=>exact .cons r c C T h.app ih
theorem xA.snoc{C:List (List D)}{T:List (List α)}{r:List α}{c:D}(h:xA q N E b C T)(k:HK q N E b r c):xA q N E b (C++[[c]]) (T++[r]):=by
 induction h with
 |nil=>exact .cons r c [] [] k .nil
 |cons r' c' C T h _ ih=>exact .cons r' c' _ _ h ih
theorem xA.ups[gk E 1]{S T0:St}(hb:1≤b)(hget:∀(j:Nat) x,N[j]? =some x→S[q+(j+1)]? =some x)(hT:T0.length≤q+1){C:List (List D)}{T:List (List α)}(h:xA q N E b C T):jE S T0 C (rows (slc 1 b E) T):=by
 induction h with
 |nil=>exact .nil
 |cons r c C T h _ ih=>
  refine .cons _ _ _ _ (.cons _ _ _ _ ?_ .nil) ih
  rcases h with⟨rfl,h2⟩|⟨j,g,rfl,h2⟩
  ·rw[h2];exact .y5 _ _ _ hb
  ·refine .ref _ _ _ _ _ 1 b (rows E r) _ (hget _ _ h2) ?_ hb (ng _) ?_
   ·unfold look;rw[List.getElem?_eq_none (by omega)];rfl
   ·rw[List.drop_zero,List.take_of_length_le]
    rw[sI];exact Nat.le_refl _
end
end Go.Am
namespace Go.Am
open Go Go.Sort
section
variable {α:Type} [Inhabited α]
abbrev ltC(cf:α→α→Int)(x y:α):Bool:=decide (cf x y<0)
def ins(cf:α→α→Int)(x:α):List α→List α
 | []=>[x]
 |y::l=>if cf y x<0 then y::ins cf x l else x::y::l
def sL(cf:α→α→Int):List α→List α
 | []=>[]
 |x::l=>ins cf x (sL cf l)
def Asc(cf:α→α→Int)(l:List α):Prop:=l.Pairwise fun a b=>¬cf b a<0
omit [Inhabited α] in
theorem qT(cf:α→α→Int)(x:α):∀l,(ins cf x l).Perm (x::l)
 | []=>.refl _
 |y::l=>by
  unfold ins
  split
  ·exact((qT cf x l).cons y).trans (.swap x y l)
  ·exact .refl _
omit [Inhabited α] in
theorem gq(cf:α→α→Int):∀l,(sL cf l).Perm l
 | []=>.refl _
 |x::l=>(qT cf x _).trans ((gq cf l).cons x)
omit [Inhabited α] in
theorem KJ{cf:α→α→Int}(hO:SWO (ltC cf)){x y z:α}(h1:¬cf x y<0)(h2:¬cf y z<0):¬cf x z<0:=
 of_decide_eq_false (hO.ntrans x y z (decide_eq_false h1) (decide_eq_false h2))
omit [Inhabited α] in
theorem KL{cf:α→α→Int}(hO:SWO (ltC cf)){x y:α}(h1:cf x y<0):¬cf y x<0:=fun h2=>
 absurd (of_decide_eq_true (hO.trans x y x (decide_eq_true h1) (decide_eq_true h2))) (of_decide_eq_false (hO.irrefl x))
omit [Inhabited α] in
theorem zy{cf:α→α→Int}(hO:SWO (ltC cf))(x:α):∀l,Asc cf l→Asc cf (ins cf x l)
 | [],_=>List.pairwise_singleton _ _
 |y::l,h=>by
  obtain⟨h1,h2⟩:=List.pairwise_cons.1 h
  unfold ins
  split
  ·rename_i hlt
   refine List.pairwise_cons.2 ⟨fun z hz=>?_,zy hO x l h2⟩
   rcases List.mem_cons.1 ((qT cf x l).mem_iff.1 hz)with rfl|hz
   ·exact KL hO hlt
   ·exact h1 z hz
  ·rename_i hnl
   refine List.pairwise_cons.2 ⟨fun z hz=>?_,h⟩
   rcases List.mem_cons.1 hz with rfl|hz
   ·exact hnl
   ·exact KJ hO (h1 z hz) hnl
omit [Inhabited α] in
theorem sM{cf:α→α→Int}(hO:SWO (ltC cf)):∀l,Asc cf (sL cf l)
 | []=>.nil
 |x::l=>zy hO x _ (sM hO l)
omit [Inhabited α] in
theorem vR{cf:α→α→Int}(ha:∀x y,¬cf x y<0→¬cf y x<0→x=y):∀(l m:List α),Asc cf l→Asc cf m→l.Perm m→l=m
 | [],m,_,_,h=>(List.nil_perm.1 h).symm
 |a::l,[],_,_,h=>absurd (h.length_eq) (by simp)
 |a::l,b::m,h1,h2,h=>by
  obtain⟨p1,p2⟩:=List.pairwise_cons.1 h1
  obtain⟨q1,q2⟩:=List.pairwise_cons.1 h2
  have e:a=b:=by
   rcases List.mem_cons.1 (h.mem_iff.1 (List.mem_cons_self ..))with e|ha'
   ·exact e
   ·rcases List.mem_cons.1 (h.symm.mem_iff.1 (List.mem_cons_self ..))with e|hb'
    ·exact e.symm
    ·exact ha a b (q1 a ha') (p1 b hb')
  subst e
  rw[vR ha l m p2 q2 (List.Perm.cons_inv h)]
end
end Go.Am
namespace Go.Am
open Go Go.Sort Go.Shelf
open Go.Proofs (encStr)
def zA(l:List Bs):List Bs:=l.mergeSort fun x y=>decide (x≤y)
def cpt(l:List Bs):List Bs:=Lib.compact l++List.replicate (l.length-(Lib.compact l).length) []
theorem uK(l:List Bs):(cpt l).length=l.length:=by
 have:(Lib.compact l).length≤l.length:=Lib.compact_length_le l
 unfold cpt
 simp only[List.length_append,List.length_replicate]
 omega
theorem sN(l:List Bs):(zA l).length=l.length:=List.length_mergeSort _
theorem Cr(l:List Bs):((rows w9 (cpt l)).drop 0).take (Lib.compact l).length=rows w9 (Lib.compact l):=by
 unfold cpt rows
 rw[List.drop_zero,List.map_append,List.take_left' (by simp)]
section
variable {P:Program} {G:Gl}
theorem qU{vs:Array Value}(h:vs.size=1):∃a,vs= #[a]:=by
 refine⟨vs[0],?_⟩
 apply Array.ext
 ·simpa using h
 ·intro i h1 h2
  match i,h1,h2 with
  |0,_,_=>rfl
  |n+1,h1,_=>omega
theorem kO{w:World}{blk base q:Nat}{d:Array Bs}{os:Array Obj}:(grow (putRow encStr (Sort.ahead w q) blk base d) os).heap=w.heap.modify blk (onCells (putCells encStr base d))++os:=rfl
theorem LQ{w:World}{μ:Mu}{st:St}{o gen blk base q:Nat}{l l':List Bs}{os:Array Obj}(hs:Sim w μ st)(hst:st[o]? =some (some (.arr gen 1 16 (rows w9 l))))(hm:μ o=some (blk,base))(hl:l'.length=l.length):
 Sim (grow (putRow encStr (Sort.ahead w q) blk base l'.toArray) os) μ (st.set o (some (.arr gen 1 16 (rows w9 l'))))∧Step w μ st (grow (putRow encStr (Sort.ahead w q) blk base l'.toArray) os) μ (st.set o (some (.arr gen 1 16 (rows w9 l')))):=by
 have hob:kj w μ st (μ o) 1 16 (rows w9 l):=hs.obj o _ hst
 obtain⟨oZ,base',c,ty,hm',iD,hsz,hcell⟩:=hob.loc.resolve_left (fun h=>by rw[hm]at h;cases h.1)
 rw[hm]at hm'
 cases hm'
 have hlt:blk<w.heap.size:=(Array.getElem?_eq_some_iff.1 iD).1
 have HL:∀j,j<w.heap.size→j≠blk→(grow (putRow encStr (Sort.ahead w q) blk base l'.toArray) os).heap[j]? =w.heap[j]? :=fun j hj hne=>by
  rw[kO,Array.getElem?_append_left (by simpa using hj),Array.getElem?_modify,if_neg (fun e=>hne e.symm)]
 have HM:(grow (putRow encStr (Sort.ahead w q) blk base l'.toArray) os).heap[blk]? =some (.cells (putCells encStr base l'.toArray c) ty (0,0)):=by
  rw[kO,Array.getElem?_append_left (by simpa using hlt),Array.getElem?_modify,if_pos rfl,iD]
  rfl
 have hrl:(rows w9 l).length=l.length:=sI l
 refine cw (w':=grow (putRow encStr (Sort.ahead w q) blk base l'.toArray) os) (μ':=μ) (ob':=.arr gen 1 16 (rows w9 l')) hs hst (fun _ _=>rfl)
  (fun b' hb' hne=>HL b' hb' fun e2=>hne base (by rw[e2];exact hm)) (by rw[kO];simp) rfl rfl ⟨rfl,Dr.le (Nat.le_add_right _ _)⟩
  (fun b' base' e2=>.inl ⟨base',e2⟩) ⟨Nat.le_refl _,fun _=>⟨rfl,rfl,by rw[sI,sI,hl],rfl,fun b' base' c2 ty2 hm2 hh2=>by
   rw[hm]at hm2
   cases hm2
   rw[iD]at hh2
   cases hh2
   exact⟨_,HM,by simp[putCells]⟩⟩⟩
  (fun s=>⟨by rw[sI,hl, ←hrl];exact hob.Lj,fun x hx=>by
   obtain⟨y,_,rfl⟩:=List.mem_map.1 hx
   rfl,.inr ⟨blk,base,_,ty,hm,HM,by rw[sI,hl, ←hrl];simpa[putCells]using hsz,fun i j hi hj=>?_⟩⟩)
 have hi2:i<l'.length:=by rw[sI]at hi;exact hi
 have er:(rows w9 l')[i]=[D.str (l'[i])]:=by simp[rows,w9]
 have hj2:j=0:=by rw[er]at hj;simpa using hj
 subst hj2
 have hc:base+(i*1+0)<c.size:=by rw[hrl]at hsz;omega
 refine⟨.string (bs l'[i]),?_,?_,rfl⟩
 ·unfold putCells
  rw[Array.getElem?_mapIdx,Array.getElem?_eq_getElem hc,Option.map_some,if_pos ⟨by omega,by simp;omega⟩]
  simp[hi2,bs]
 ·have e:((rows w9 l')[i])[0]=D.str (l'[i]):=by simp[er]
  rw[e]
  exact iF _ _ _ _
theorem DF{w:World}{μ:Mu}{st:St}{o gen blk base:Nat}{l:List Bs}(hs:Sim w μ st)(hst:st[o]? =some (some (.arr gen 1 16 (rows w9 l))))(hm:μ o=some (blk,base)):Holds encStr w blk base l.toArray∧blk<w.heap.size:=by
 have hob:kj w μ st (μ o) 1 16 (rows w9 l):=hs.obj o _ hst
 obtain⟨oZ,base',c,ty,hm',iD,hsz,hcell⟩:=hob.loc.resolve_left (fun h=>by rw[hm]at h;cases h.1)
 rw[hm]at hm'
 cases hm'
 refine⟨fun i hi=>?_,(Array.getElem?_eq_some_iff.1 iD).1⟩
 have hi2:i<l.length:=by simpa using hi
 have er:(rows w9 l)[i]'(by rw[sI];exact hi2)=[D.str (l[i])]:=by simp[rows,w9]
 obtain⟨v,e1,e2,_⟩:=hcell i 0 (by rw[sI];exact hi2) (by rw[er];simp)
 have e3:((rows w9 l)[i]'(by rw[sI];exact hi2))[0]'(by rw[er];simp)=D.str (l[i]):=by simp[er]
 rw[e3]at e2
 rw[aS e2,Nat.mul_one,Nat.add_zero]at e1
 refine⟨?_,?_⟩
 ·unfold World.cell?
  simp only[iD]
  simpa[hi2,bs]using e1
 ·unfold World.frozen?
  simp only[iD]
  simp
theorem sO{ρ:Ren}{o gen:Nat}{full:Bool}{st:St}{l:List Bs}(L:Go.Proofs.Lays.n190 P ρ)(hb:fB P (ρ.f 190)=true)
 (hlk:look st o=some (.arr gen 1 16 (rows w9 l))) (hl:l.length<4611686018427387904):
 Am.Spec P G (ρ.f 190) [.ref full o gen 0 l.length] st (fun d st'=>d= .tup []∧st'=E8 st [(o,.arr gen 1 16 (rows w9 (zA l)))]):=by
 refine⟨trivial,fun w μ vs hs hG hn hv=>.inl ⟨hb,?_⟩⟩
 have h0:=hv 0 (by simp)
 obtain⟨v0,rfl⟩:=qU (show vs.size=1 by simpa using hn)
 have h0:VR w μ st v0 (.ref full o gen 0 l.length):=h0
 have hst:st[o]? =some (some (.arr gen 1 16 (rows w9 l))):=F0 hlk
 cases h0 with
 |tr h=>cases h
 |ref _ _ _ _ _ _ _ _ _ _ hr=>
  obtain⟨a,cap,rfl,c1,c2,_,c4⟩:=hr 1 16 (rows w9 l) hst
  by_cases hl0:l=[]
  ·subst hl0
   refine(Go.Proofs.Any.slices_Sort_string_none L a cap w).mono fun e w' ⟨he1,he2⟩=>?_
   subst he2
   refine⟨_,.tup [],st,μ,he1,⟨rfl,?_⟩,hs,Step.refl _ _ _,.tup _ _ (fun j h=>absurd h (Nat.not_lt_zero _)) (fun j h=>absurd h (Nat.not_lt_zero _))⟩
   have e:zA ([]:List Bs)=[]:=List.eq_nil_of_length_eq_zero (sN [])
   rw[e,C5 (by simp[hlk])]
  ·have hlen:0<l.length:=List.length_pos_iff.2 hl0
   obtain⟨blk,base,hm,rfl,c,ty,iD,hsz⟩:=c4.resolve_left (by omega)
   obtain⟨hH,hblk⟩:=DF hs hst hm
   rw[Nat.zero_mul,Nat.add_zero]at*
   refine(Go.Proofs.Any.slices_Sort_string L blk base cap l w hH hblk hl).mono fun e w' ⟨he1,m,os,hw⟩=>?_
   subst hw
   have key:=LQ (q:=m) (os:=os) hs hst hm (sN l)
   exact⟨_,.tup [],_,μ,he1,⟨rfl,rfl⟩,key.1,key.2,.tup _ _ (fun j h=>absurd h (Nat.not_lt_zero _)) (fun j h=>absurd h (Nat.not_lt_zero _))⟩
theorem oB{ρ:Ren}{o gen:Nat}{full:Bool}{st:St}{l:List Bs}(L:Go.Proofs.Lays.n194 P ρ)(hb:fB P (ρ.f 194)=true)
 (hlk:look st o=some (.arr gen 1 16 (rows w9 l))) (hl:l.length≤9223372036854775807):
 Am.Spec P G (ρ.f 194) [.ref full o gen 0 l.length] st (fun d st'=>d= .ref false o gen 0 (Lib.compact l).length∧st'=E8 st [(o,.arr gen 1 16 (rows w9 (cpt l)))]):=by
 refine⟨trivial,fun w μ vs hs hG hn hv=>.inl ⟨hb,?_⟩⟩
 have h0:=hv 0 (by simp)
 obtain⟨v0,rfl⟩:=qU (show vs.size=1 by simpa using hn)
 have h0:VR w μ st v0 (.ref full o gen 0 l.length):=h0
 have hst:st[o]? =some (some (.arr gen 1 16 (rows w9 l))):=F0 hlk
 have ho:o<st.length:=F2 hlk
 cases h0 with
 |tr h=>cases h
 |ref _ _ _ _ _ _ _ _ _ _ hr=>
  obtain⟨a,cap,rfl,c1,c2,_,c4⟩:=hr 1 16 (rows w9 l) hst
  by_cases hl0:l=[]
  ·subst hl0
   refine(Go.Proofs.Any.slices_Compact_string_empty L a cap w).mono fun e w' ⟨he1,he2⟩=>?_
   subst he2
   have e:cpt ([]:List Bs)=[]:=List.eq_nil_of_length_eq_zero (uK [])
   have e2:Lib.compact ([]:List Bs)=[]:=List.eq_nil_of_length_eq_zero (Nat.le_zero.1 (Lib.compact_length_le ([]:List Bs)))
   refine⟨_,.ref false o gen 0 0,st,μ,he1,⟨by rw[e2];rfl,?_⟩,hs,Step.refl _ _ _,.ref _ _ _ _ _ _ ⟨_,_,_,rfl⟩ ho (by rw[hst];simp) (fun g' n b es h=>by rw[hst]at h;cases h;exact Nat.le_refl _) (fun n b es h=>?_)⟩
   ·rw[e,C5 (by simp[hlk])]
   ·obtain⟨a2,OQ,e3,d1,d2,_,d4⟩:=hr n b es h
    cases e3
    exact⟨_,_,rfl,d1,d2,(fun hf=>by cases hf),d4⟩
  ·have hlen:0<l.length:=List.length_pos_iff.2 hl0
   obtain⟨blk,base,hm,rfl,c,ty,iD,hsz⟩:=c4.resolve_left (by omega)
   obtain⟨hH,hblk⟩:=DF hs hst hm
   rw[Nat.zero_mul,Nat.add_zero]at*
   refine(Go.Proofs.Any.slices_Compact_string L blk base cap l w hH hl c1).mono fun e w' ⟨he1,m,hw⟩=>?_
   have key:=LQ (q:=m) (os:= #[]) hs hst hm (uK l)
   rw[grow_empty]at key
   have hcl:(Lib.compact l).length≤l.length:=Lib.compact_length_le l
   subst hw
   refine⟨_,.ref false o gen 0 (Lib.compact l).length,_,μ,he1,⟨rfl,rfl⟩,key.1,key.2,?_⟩
   show VR _ μ (st.set o (some (.arr gen 1 16 (rows w9 (cpt l))))) _ _
   have rP:(st.set o (some (.arr gen 1 16 (rows w9 (cpt l)))))[o]? =some (some (.arr gen 1 16 (rows w9 (cpt l)))):=by simp[ho]
   refine .ref _ _ _ _ _ _ ⟨_,_,_,rfl⟩ (by simpa using ho) (by rw[rP];simp) (fun g' n b es h=>by rw[rP]at h;cases h;exact Nat.le_refl _) (fun n b es h=>?_)
   rw[rP]at h
   cases h
   have HO:(putRow encStr (Sort.ahead w m) blk base (cpt l).toArray).heap[blk]? =some (.cells (putCells encStr base (cpt l).toArray c) ty (0,0)):=by
    have:=@kO w blk base m (cpt l).toArray #[]
    rw[grow_empty]at this
    rw[this,Array.append_empty,Array.getElem?_modify,if_pos rfl,iD]
    rfl
   exact⟨_,_,rfl,Nat.le_trans hcl c1,by rw[sI,uK];omega,(fun hf=>by cases hf),.inr ⟨blk,base,hm,by simp,_,ty,HO,by simpa[putCells]using hsz⟩⟩
end
def cfB(x y:Bs):Int:=if y≤x then 0 else -1
theorem sP{x y:Bs}:cfB x y<0↔ ¬y≤x:=by
 unfold cfB
 split<;>simp[*]
theorem oC{x y z:Bs}(h:x≤y)(k:y≤z):x≤z:=List.le_trans h k
theorem oD(x y:Bs):x≤y∨y≤x:=List.le_total x y
theorem Ct{x y:Bs}(h:x≤y)(k:y≤x):x=y:=List.le_antisymm h k
theorem EL:SWO (ltC cfB) where
 irrefl x:=decide_eq_false (by rw[sP];exact fun h=>h ((oD x x).elim id id))
 trans x y z h k:=decide_eq_true (by
  have h:=of_decide_eq_true h
  have k:=of_decide_eq_true k
  rw[sP]at*
  exact fun e=>k (oC e ((oD x y).resolve_right h)) |>.elim)
 ntrans x y z h k:=decide_eq_false (by
  have h:=of_decide_eq_false h
  have k:=of_decide_eq_false k
  rw[sP,Decidable.not_not]at*
  exact oC k h)
theorem Cu(l:List Bs):zA l=sL cfB l:=by
 refine vR (cf:=cfB) (fun x y h k=>?_) _ _ ?_ (sM EL l) ((List.mergeSort_perm l _).trans (gq cfB l).symm)
 ·rw[sP,Decidable.not_not]at h k
  exact Ct k h
 ·unfold Asc zA
  refine(List.pairwise_mergeSort (fun a b c h k=>?_) (fun a b=>?_) l).imp fun {a b} h=>?_
  ·simp only[decide_eq_true_eq]at *; exact oC h k
  ·simp only[Bool.or_eq_true,decide_eq_true_eq];exact oD a b
  ·rw[sP,Decidable.not_not];simpa using h
end Go.Am
namespace Go.Am
open Go Go.Shelf
theorem zB{P:Program}{G:Gl}{ρ:Ren}(L:Go.Proofs.Lays8.n4 P ρ){i0:TypeInfo}{z:Value}(hi0:P.info? (ρ.t 25)=some i0)(hz0:i0.zero=some z)(hzs:z.cells.size=i0.size)(hs0:0<i0.size)(hb:fB P (ρ.f 4)=true){n:Nat}{st:St}(hn:n*i0.bytes≤top)(h63:n≤4611686018427387904):
 Am.Spec P G (ρ.f 4) [.y5,.int .i64 (n:Int)] st (fun d st'=>d= .ref false st.length 0 0 0∧st'=st++[some (.arr 0 i0.size i0.bytes [])]):=by
 refine⟨trivial,fun w μ vs hs hG hsz hv=>.inl ⟨hb,?_⟩⟩
 have h0:=hv 0 (by simp)
 have h1:=hv 1 (by simp)
 obtain⟨v0,v1,rfl⟩:∃a b,vs= #[a,b]:=by
  have:vs.size=2:=by simpa using hsz
  refine⟨vs[0],vs[1],?_⟩
  apply Array.ext
  ·simpa using this
  ·intro i h1 h2
   match i,h1,h2 with
   |0,_,_=>rfl
   |1,_,_=>rfl
   |n+2,h1,_=>omega
 obtain rfl:v0= .slice none 0 0:=fJ h0
 obtain rfl:v1= .int .i64 (n:Int):=aN h1
 by_cases hz:n=0
 ·subst hz
  refine(Go.Proofs.Any8.slices_Grow_room L none 0 0 0 w (by omega) (by omega) (by omega) (by omega)).mono fun e w' ⟨he,hw⟩=>?_
  subst hw
  obtain⟨k1,k2⟩:=mQ hs
  have hq:(st++[some Ob.resv])[st.length]? =some (some .resv):=by simp
  have h:=cw (w:=w') (w':=w') (μ':=upd (upd μ st.length none) st.length none) (ob':=.arr 0 i0.size i0.bytes []) k1 hq (fun o' h=>S5 _ _ _ h) (fun _ _ _=>rfl) (Nat.le_refl _) rfl rfl ⟨rfl,Dr.le (Nat.le_refl _)⟩ (fun blk base e=>by rw[D5]at e;cases e) trivial
   (fun s=>(⟨by simp,by simp,.inl ⟨D5 _ _ _,rfl⟩⟩:kj _ _ _ _ _ _ _))
  have rP:(st++[some Ob.resv]).set st.length (some (.arr 0 i0.size i0.bytes []))=st++[some (.arr 0 i0.size i0.bytes [])]:=by
   rw[List.set_append_right _ _ (Nat.le_refl _)];simp
  rw[rP]at h
  refine⟨_,.ref false st.length 0 0 0,_,_,he,⟨rfl,rfl⟩,h.1,k2.trans h.2,?_⟩
  refine .ref _ false st.length 0 0 0 ⟨_,_,_,rfl⟩ (by simp) (by simp) (fun g' n b es e=>Nat.zero_le _) (fun n' b es' e=>?_)
  exact⟨_,_,rfl,Nat.le_refl _,by simp,fun hf=>(by cases hf),.inl rfl⟩
 ·refine(Go.Proofs.Any8.slices_Grow_grow L i0 z hi0 hz0 hs0 none 0 0 n [] w (by omega) (by omega) (by rw[Nat.zero_add];unfold top at hn;exact hn) (by omega) (by simp) (fun _=>rfl) (fun a ha=>by cases ha)).mono fun e w' ⟨he,hw⟩=>?_
  obtain⟨k1,k2⟩:=mQ hs
  have hq:(st++[some Ob.resv])[st.length]? =some (some .resv):=by simp
  have step:Step w (upd μ st.length none) (st++[some .resv]) w.drew (upd μ st.length none) (st++[some .resv]):=⟨Nat.le_refl _,rfl,rfl,⟨rfl,Dr.le (Nat.le_succ _)⟩,fun _ _ _=>rfl,fun _ h=>.inl h,Nat.le_refl _,fun _ ob' _ h=>⟨ob',h,by
   cases ob' with
   |arr g n b es=>exact⟨Nat.le_refl _,fun _=>⟨rfl,rfl,rfl,rfl,fun blk base c ty _ hh=>⟨c,hh,rfl⟩⟩⟩
   |mps=>exact⟨rfl,rfl⟩
   |mpi=>exact⟨rfl,rfl,rfl⟩
   |sit=>rfl
   |resv=>trivial⟩⟩
  have hd0:Sim w.drew (upd μ st.length none) (st++[some .resv]):=⟨fun o ob h=>(k1.obj o ob h).step step (fun _ _ _=>rfl),k1.inj⟩
  have h:=dM (w:=w.drew) (x:=.cells ((#[]:Array Value)++Builtin.zeroCells z.cells (0+n-0)++Builtin.zeroCells z.cells (grownCap w (0+n) 0 (ρ.t 25)-(0+n))) (ρ.t 25)) (ob:=.arr 0 i0.size i0.bytes []) hd0 hq
   (fun s=>lD (fun a b ha hb'=>absurd ha (Nat.not_lt_zero _)) (by simp) (fun e he=>by cases he) (by simp) s)
  have rP:(st++[some Ob.resv]).set st.length (some (.arr 0 i0.size i0.bytes []))=st++[some (.arr 0 i0.size i0.bytes [])]:=by
   rw[List.set_append_right _ _ (Nat.le_refl _)];simp
  rw[rP]at h
  subst hw
  refine⟨_,.ref false st.length 0 0 0,_,_,he,⟨rfl,rfl⟩,h.1,(k2.trans step).trans h.2,?_⟩
  refine .ref _ false st.length 0 0 0 ⟨_,_,_,rfl⟩ (by simp) (by simp) (fun g' n b es e=>Nat.zero_le _) (fun n' b es' e=>?_)
  have e:some (some (Ob.arr 0 i0.size i0.bytes []))=some (some (Ob.arr 0 n' b es')):=by rw[←e];simp
  cases e
  refine⟨_,_,rfl,Nat.zero_le _,by simp,fun hf=>(by cases hf),.inr ⟨w.heap.size,0,by rw[D5];rfl,by simp,_,ρ.t 25,heap_alloc_new _ _,?_⟩⟩
  have hzc:∀m,(Builtin.zeroCells z.cells m).size=m*z.cells.size:=fun m=>by simp[Builtin.zeroCells]
  have hge:=grownCap_ge w (0+n) 0 (ρ.t 25)
  rw[Array.size_append,Array.size_append,hzc,hzc,hzs]
  simp only[List.size_toArray,List.length_nil,Nat.zero_add,Nat.sub_zero]at*
  rw[←Nat.add_mul]
  refine Nat.le_of_eq ?_
  congr 1
  omega
end Go.Am
namespace Go.Am
open Go
def Evt{α:Type}(x:Nat→Option α)(P:α→Prop):Prop:=∃r,P r∧∃N,∀n,N≤n→x n=some r
section
variable {α β ρ σ τ:Type} {P:α→Prop} {Q:β→Prop}
theorem Evt.mono{x:Nat→Option α}{P':α→Prop}(h:Evt x P)(hp:∀r,P r→P' r):Evt x P':=by
 obtain⟨r,hr,N,hN⟩:=h
 exact⟨r,hp r hr,N,hN⟩
theorem Evt.pure{r:α}(h:P r):Evt (fun _=>some r) P:=⟨r,h,0,fun _ _=>rfl⟩
theorem Evt.of{x:Option α}{r:α}(e:x=some r)(h:P r):Evt (fun _=>x) P:=⟨r,h,0,fun _ _=>e⟩
theorem Evt.congr{x y:Nat→Option α}(h:Evt x P)(e:∀n,y n=x n):Evt y P:=by
 obtain⟨r,hr,N,hN⟩:=h
 exact⟨r,hr,N,fun n hn=>(e n).trans (hN n hn)⟩
theorem Evt.succ{x:Nat→Option α}(h:Evt (fun n=>x (n+1)) P):Evt x P:=by
 obtain⟨r,hr,N,hN⟩:=h
 refine⟨r,hr,N+1,fun n hn=>?_⟩
 obtain⟨m,rfl⟩:∃m,n=m+1:=⟨n-1,by omega⟩
 exact hN m (by omega)
theorem Evt.bind{x:Nat→Option α}{f:Nat→α→Option β}(h:Evt x P)(hf:∀r,P r→Evt (fun n=>f n r) Q):Evt (fun n=>(x n).bind (f n)) Q:=by
 obtain⟨r,hr,N,hN⟩:=h
 obtain⟨s,hs,M,hM⟩:=hf r hr
 exact⟨s,hs,max N M,fun n hn=>by show(x n).bind (f n)=_;rw[hN n (by omega)];exact hM n (by omega)⟩
theorem Evt.chk{p:Prop}[Decidable p]{x:Nat→Option α}(hp:p)(h:Evt x P):Evt (fun n=>chk p (x n)) P:=by
 obtain⟨r,hr,N,hN⟩:=h
 exact⟨r,hr,N,fun n hn=>by show Am.chk p (x n)=_;unfold Am.chk;rw[if_pos hp];exact hN n hn⟩
theorem Evt.aB{a:α}{f:Nat→α→Option β}(h:Evt (fun n=>f n a) Q):Evt (fun n=>aB a (f n)) Q:=h
theorem Evt.cond{b:Bool}{x y:Nat→Option α}(h1:b=true→Evt x P)(h2:b=false→Evt y P):Evt (fun n=>bif b then x n else y n) P:=by
 cases b
 ·exact h2 rfl
 ·exact h1 rfl
theorem Evt.gd{G:Bool}{x:Nat→Option α}{d:α}(h1:G=true→Evt x P)(h2:G=false→P d):Evt (fun n=>gd G (x n) d) P:=by
 cases G
 ·exact Evt.pure (h2 rfl)
 ·exact h1 rfl
theorem Evt.B2{x:Nat→Option (Ex ρ τ)}{k:Nat→τ→Option ρ}{P:Ex ρ τ→Prop}{Q:ρ→Prop}(h:Evt x P)(hn:∀t,P (.nxt t)→Evt (fun n=>k n t) Q)(hr:∀r,P (.ret r)→Q r):
 Evt (fun n=>B2 (x n) (k n)) Q:=by
 obtain⟨e,he,N,hN⟩:=h
 cases e with
 |nxt t=>
  obtain⟨s,hs,M,hM⟩:=hn t he
  exact⟨s,hs,max N M,fun n hn=>by simp only[hN n (by omega),Am.B2];exact hM n (by omega)⟩
 |ret r=>exact⟨r,hr r he,N,fun n hn=>by simp only[hN n hn,Am.B2]⟩
def zC(I:σ→Prop)(B:τ→Prop)(R:ρ→Prop):Ctl ρ σ τ→Prop
 | .nxt s=>I s
 | .brk t=>B t
 | .ret x=>R x
def ExP(B:τ→Prop)(R:ρ→Prop):Ex ρ τ→Prop
 | .nxt t=>B t
 | .ret x=>R x
theorem Evt.range{body:Nat→Nat→σ→Option (Ctl ρ σ σ)}{m:Nat}{s0:σ}(I:Nat→σ→Prop)(B:σ→Prop)(R:ρ→Prop)(h0:I 0 s0)
 (hs:∀k s,k<m→I k s→Evt (fun n=>body n k s) (zC (I (k+1)) B R)):
 Evt (fun n=>G2 (body n) m s0) (ExP (fun s=>I m s∨B s) R):=by
 unfold G2
 have key:∀j k s,k+j=m→I k s→Evt (fun n=>Y3 (body n) j k s) (ExP (fun s=>I m s∨B s) R):=by
  intro j
  induction j with
  |zero=>
   intro k s e hi
   have:k=m:=by omega
   subst this
   exact Evt.pure (.inl hi)
  |succ j ih=>
   intro k s e hi
   obtain⟨c,hc,N,hN⟩:=hs k s (by omega) hi
   cases c with
   |nxt s'=>
    obtain⟨r,hr,M,hM⟩:=ih (k+1) s' (by omega) hc
    exact⟨r,hr,max N M,fun n hn=>by simp only[Y3,hN n (by omega)];exact hM n (by omega)⟩
   |brk t=>exact⟨.nxt t,.inr hc,N,fun n hn=>by simp only[Y3,hN n hn]⟩
   |ret x=>exact⟨.ret x,hc,N,fun n hn=>by simp only[Y3,hN n hn]⟩
 exact key m 0 s0 (by omega) h0
theorem Evt.loop{body:Nat→σ→Option (Ctl ρ σ τ)}{s0:σ}(mu:σ→Nat)(I:σ→Prop)(B:τ→Prop)(R:ρ→Prop)(h0:I s0)
 (hs:∀s,I s→Evt (fun n=>body n s) (zC (fun s'=>I s'∧mu s'<mu s) B R)):
 Evt (fun n=>G7 (body n) n s0) (ExP B R):=by
 have key:∀d s,mu s≤d→I s→∃e,ExP B R e∧∃N,∀n,N≤n→∀f,d<f→G7 (body n) f s=some e:=by
  intro d
  induction d with
  |zero=>
   intro s hd hi
   obtain⟨c,hc,N,hN⟩:=hs s hi
   cases c with
   |nxt s'=>exact absurd hc.2 (by omega)
   |brk t=>refine⟨.nxt t,hc,N,fun n hn f hf=>?_⟩;obtain⟨g,rfl⟩:∃g,f=g+1:=⟨f-1,by omega⟩;simp only[G7,hN n hn]
   |ret x=>refine⟨.ret x,hc,N,fun n hn f hf=>?_⟩;obtain⟨g,rfl⟩:∃g,f=g+1:=⟨f-1,by omega⟩;simp only[G7,hN n hn]
  |succ d ih=>
   intro s hd hi
   obtain⟨c,hc,N,hN⟩:=hs s hi
   cases c with
   |nxt s'=>
    obtain⟨e,he,M,hM⟩:=ih s' (by have:=hc.2;omega) hc.1
    refine⟨e,he,max N M,fun n hn f hf=>?_⟩
    obtain⟨g,rfl⟩:∃g,f=g+1:=⟨f-1,by omega⟩
    simp only[G7,hN n (by omega)]
    exact hM n (by omega) g (by omega)
   |brk t=>refine⟨.nxt t,hc,N,fun n hn f hf=>?_⟩;obtain⟨g,rfl⟩:∃g,f=g+1:=⟨f-1,by omega⟩;simp only[G7,hN n hn]
   |ret x=>refine⟨.ret x,hc,N,fun n hn f hf=>?_⟩;obtain⟨g,rfl⟩:∃g,f=g+1:=⟨f-1,by omega⟩;simp only[G7,hN n hn]
 obtain⟨e,he,N,hN⟩:=key (mu s0) s0 (Nat.le_refl _) h0
 exact⟨e,he,max N (mu s0+1),fun n hn=>hN n (by omega) n (by omega)⟩
end
section
variable {P:Program} {G:Gl}
theorem uL{w:World}{m:Option (Nat×Nat)}{ob:Ob}:aM w w m m ob ob:=by
 cases ob with
 |arr g n b es=>exact⟨Nat.le_refl _,fun _=>⟨rfl,rfl,rfl,rfl,fun blk base c ty _ h=>⟨c,h,rfl⟩⟩⟩
 |mps=>exact⟨rfl,rfl⟩
 |mpi=>exact⟨rfl,rfl,rfl⟩
 |sit=>exact(rfl:_=_)
 |resv=>exact trivial
theorem sQ{w0 w:World}{μ0 μ:Mu}{s0 st:St}{o gen g n b:Nat}{es:List (List D)}{v:Value}{len:Nat}(hsc:iw (st.set o (some (.arr (gen+1) n b es))).length (st.set o (some (.arr (gen+1) n b es))))
 (ho:st[o]? =some (some (.arr gen n b []))) (hle:s0.length≤st.length) (hs:Sim w μ (st++[some (.arr g n b es)])) (hst:Step w0 μ0 s0 w μ (st++[some (.arr g n b es)])) (hv:VR w μ (st++[some (.arr g n b es)]) v (.ref false st.length g 0 len)):
 ∃μ',Sim w μ' (st.set o (some (.arr (gen+1) n b es)))∧Step w0 μ0 s0 w μ' (st.set o (some (.arr (gen+1) n b es)))∧VR w μ' (st.set o (some (.arr (gen+1) n b es))) v (.ref false o (gen+1) 0 len):=by
 have hlt:o<st.length:=(List.getElem?_eq_some_iff.1 ho).1
 let S:St:=st++[some (.arr g n b es)]
 let T:St:=st.set o (some (.arr (gen+1) n b es))
 let μ':Mu:=upd μ o (μ st.length)
 have hTo:T[o]? =some (some (.arr (gen+1) n b es)):=by simp[T,hlt]
 have hTx:∀o':Nat,o'≠o→T[o']? =st[o']? :=fun o' h=>by simp only[T];rw[List.getElem?_set_ne (fun e=>h e.symm)]
 have hSl:S[st.length]? =some (some (.arr g n b es)):=by simp[S]
 have hSx:∀o':Nat,o'<st.length→S[o']? =st[o']? :=fun o' h=>by simp only[S];rw[List.getElem?_append_left h]
 have KM:T.length=st.length:=by simp[T]
 have hT2:∀(o':Nat) (ob:Ob),(T++[none])[o']? =some (some ob)→o'<st.length∧T[o']? =some (some ob):=fun o' ob h=>by
  by_cases hh:o'<T.length
  ·rw[List.getElem?_append_left hh]at h
   exact⟨by omega,h⟩
  ·rw[List.getElem?_append_right (by omega)]at h
   cases hk:o'-T.length with
   |zero=>rw[hk]at h;simp at h
   |succ k=>rw[hk]at h;simp at h
 have hμo:μ' o=μ st.length:=D5 _ _ _
 have hμx:∀o',o'≠o→μ' o'=μ o':=fun o' h=>S5 _ _ _ h
 have step:Step w μ S w μ' (T++[none]):=by
  refine⟨Nat.le_refl _,rfl,rfl,⟨rfl,Dr.le (Nat.le_refl _)⟩,fun _ _ _=>rfl,fun blk h=>.inl ?_,by simp[S,KM],fun o' ob' hl h=>?_⟩
  ·obtain⟨o',ob,base,h1,h2⟩:=h
   obtain⟨h3,h4⟩:=hT2 o' ob h1
   by_cases e:o'=o
   ·subst e
    rw[hμo]at h2
    exact⟨_,_,base,hSl,h2⟩
   ·rw[hTx o' e, ←hSx o' h3]at h4
    rw[hμx o' e]at h2
    exact⟨_,_,base,h4,h2⟩
  ·obtain⟨h3,h4⟩:=hT2 o' ob' h
   by_cases e:o'=o
   ·subst e
    rw[hTo]at h4
    cases h4
    exact⟨_,(hSx _ h3).trans ho,Nat.le_succ _,fun e=>absurd e (by omega)⟩
   ·rw[hTx o' e, ←hSx o' h3]at h4
    refine⟨ob',h4,?_⟩
    rw[hμx o' e]
    exact uL
 have hs2:Sim w μ' (T++[none]):=by
  refine⟨fun o' ob h=>?_,fun o1 o2 ob1 ob2 blk b1 b2 e1 e2 m1 m2=>?_⟩
  ·obtain⟨h3,h4⟩:=hT2 o' ob h
   by_cases e:o'=o
   ·subst e
    rw[hTo]at h4
    cases h4
    rw[hμo]
    have:=(hs.obj _ _ hSl).step step (fun _ _ _=>rfl)
    exact this
   ·rw[hTx o' e, ←hSx o' h3]at h4
    rw[hμx o' e]
    exact(hs.obj _ _ h4).step step (fun _ _ _=>rfl)
  ·obtain⟨h3,h4⟩:=hT2 o1 ob1 e1
   obtain⟨h5,h6⟩:=hT2 o2 ob2 e2
   by_cases a1:o1=o
   ·by_cases a2:o2=o
    ·rw[a1,a2]
    ·subst a1
     rw[hμo]at m1
     rw[hμx o2 a2]at m2
     rw[hTx o2 a2, ←hSx o2 h5]at h6
     have:=hs.inj _ _ _ _ blk b1 b2 hSl h6 m1 m2
     omega
   ·by_cases a2:o2=o
    ·subst a2
     rw[hμo]at m2
     rw[hμx o1 a1]at m1
     rw[hTx o1 a1, ←hSx o1 h3]at h4
     have:=hs.inj _ _ _ _ blk b1 b2 h4 hSl m1 m2
     omega
    ·rw[hμx o1 a1]at m1
     rw[hμx o2 a2]at m2
     rw[hTx o1 a1, ←hSx o1 h3]at h4
     rw[hTx o2 a2, ←hSx o2 h5]at h6
     exact hs.inj _ _ _ _ blk b1 b2 h4 h6 m1 m2
 have hw:xT (T++[none]) T:=mA hsc
 refine⟨μ',hs2.wk hw,(hst.trans step).wk (by simpa[T]using hle) hw,?_⟩
 cases hv with
 |tr h=>cases h
 |ref _ _ _ _ _ _ hv1 _ _ _ hr=>
  have:=hr n b es hSl
  refine .ref _ _ _ _ _ _ hv1 (by simpa using hlt) (by rw[hTo];simp) (fun g' n' b' es' h=>by rw[hTo]at h;cases h;exact Nat.le_refl _) (fun n' b' es' h=>?_)
  rw[hTo]at h
  cases h
  rw[hμo]
  exact this
theorem Cv{w0 w:World}{μ0 μ:Mu}{st:St}{o gen n b:Nat}{v:Value}(ho:st[o]? =some (some (.arr gen n b [])))(hs:Sim w μ st)(hst:Step w0 μ0 st w μ st)(hv:VR w μ st v .y5):
 Sim w μ (st.set o (some (.arr (gen+1) n b [])))∧Step w0 μ0 st w μ (st.set o (some (.arr (gen+1) n b [])))∧VR w μ (st.set o (some (.arr (gen+1) n b []))) v (.ref false o (gen+1) 0 0):=by
 have hlt:o<st.length:=(List.getElem?_eq_some_iff.1 ho).1
 have h:=cw (w:=w) (w':=w) (μ':=μ) (ob':=.arr (gen+1) n b []) hs ho (fun _ _=>rfl) (fun _ _ _=>rfl) (Nat.le_refl _) rfl rfl ⟨rfl,Dr.le (Nat.le_refl _)⟩ (fun blk base e=>.inl ⟨base,e⟩) ⟨Nat.le_succ _,fun e=>absurd e (by omega)⟩
  (fun s=>by
   have:=(hs.obj _ _ ho).step s (fun _ _ _=>rfl)
   exact this)
 refine⟨h.1,hst.trans h.2,?_⟩
 obtain rfl:=fJ hv
 have hTo:(st.set o (some (.arr (gen+1) n b [])))[o]? =some (some (.arr (gen+1) n b [])):=by simp[hlt]
 refine .ref _ _ _ _ _ _ ⟨_,_,_,rfl⟩ (by simpa using hlt) (by rw[hTo];simp) (fun g' n' b' es' h=>by rw[hTo]at h;cases h;exact Nat.le_refl _) (fun n' b' es' h=>?_)
 exact⟨none,0,rfl,Nat.le_refl _,Nat.zero_le _,(fun hf=>by cases hf),.inl rfl⟩
theorem zD{f:FuncId}{args:List D}{st:St}{o gen g n b:Nat}{es:List (List D)}(hsc:iw st.length st→iw (st.set o (some (.arr (gen+1) n b es))).length (st.set o (some (.arr (gen+1) n b es))))
 (hlk:look st o=some (.arr gen n b [])) (h:Am.Spec P G f args st fun d st'=>(d= .ref false st.length g 0 es.length∧st'=st++[some (.arr g n b es)])∨(d= .ref false (st.length+1) g 0 es.length∧st'=st++[none,some (.arr g n b es)])∨(d= .y5∧st'=st∧es=[])):
 Am.Spec P G f args st fun d st'=>d= .ref false o (gen+1) 0 es.length∧st'=puts st [(o,.arr (gen+1) n b es)]:=by
 have ho:=F0 hlk
 refine⟨trivial,fun w μ vs h1 h2 h3 h4=>(h.2 w μ vs h1 h2 h3 h4).mono fun e w' ⟨v,d,st',μ',a,hR,c1,c2,c3⟩=>?_⟩
 rcases hR with⟨rfl,rfl⟩|⟨rfl,rfl⟩|⟨rfl,rfl,rfl⟩
 ·obtain⟨μ2,k1,k2,k3⟩:=sQ (hsc h1.sc) ho (Nat.le_refl _) c1 c2 c3
  exact⟨v,_,_,μ2,a,⟨rfl,rfl⟩,k1,k2,k3⟩
 ·have hlt:o<st.length:=(List.getElem?_eq_some_iff.1 ho).1
  have ho2:(st++[none])[o]? =some (some (.arr gen n b [])):=by rw[List.getElem?_append_left hlt];exact ho
  have e1:st++[none,some (.arr g n b es)]=(st++[none])++[some (.arr g n b es)]:=by simp
  have e2:st.length+1=(st++[none]).length:=by simp
  have e3:(st++[none]).set o (some (.arr (gen+1) n b es))=st.set o (some (.arr (gen+1) n b es))++[none]:=List.set_append_left _ _ hlt
  rw[e1]at c1 c2 c3
  rw[e2]at c3
  have LS:=hsc h1.sc
  have MP:iw (st.set o (some (.arr (gen+1) n b es))).length (st.set o (some (.arr (gen+1) n b es)))→iw ((st++[none]).set o (some (.arr (gen+1) n b es))).length ((st++[none]).set o (some (.arr (gen+1) n b es))):=fun h o' ob hh=>by
   rw[e3]at hh⊢
   by_cases hl:o'<(st.set o (some (.arr (gen+1) n b es))).length
   ·rw[List.getElem?_append_left hl]at hh
    exact Ob.zl (by simp) (h o' ob hh)
   ·rw[List.getElem?_append_right (by omega)]at hh
    cases hk:o'-(st.set o (some (.arr (gen+1) n b es))).length with
    |zero=>rw[hk]at hh;simp at hh
    |succ k=>rw[hk]at hh;simp at hh
  obtain⟨μ2,k1,k2,k3⟩:=sQ (MP LS) ho2 (by rw[List.length_append];exact Nat.le_add_right _ _) c1 c2 c3
  rw[e3]at k1 k2 k3
  have hw:xT (st.set o (some (.arr (gen+1) n b es))++[none]) (st.set o (some (.arr (gen+1) n b es))):=mA LS
  exact⟨v,_,_,μ2,a,⟨rfl,rfl⟩,k1.wk hw,k2.wk (by show _≤(st.set o _).length;rw[List.length_set];exact Nat.le_refl _) hw,k3.kill hw.kill (by show o<_;simpa using hlt)⟩
 ·obtain⟨k1,k2,k3⟩:=Cv ho c1 c2 c3
  exact⟨v,_,_,_,a,⟨rfl,rfl⟩,k1,k2,k3⟩
end
variable {α:Type} [Inhabited α]
theorem Cw(f:α→D)(a b c:α){j:Nat}(h:j<3):List.take 1 (List.drop j [f a,f b,f c])=[f (get [a,b,c] j)]:=by
 match j,h with
 |0,_=>rfl
 |1,_=>rfl
 |2,_=>rfl
theorem Cx(f:α→D)(a b c:α)(j:Nat)(v:α)(x:List α)(hx:x=[a,b,c].set j v)(h:j<3):
 List.take j [f a,f b,f c]++f v::List.drop (j+1) [f a,f b,f c]=[f (get x 0),f (get x 1),f (get x 2)]:=by
 subst hx
 match j,h with
 |0,_=>rfl
 |1,_=>rfl
 |2,_=>rfl
end Go.Am
