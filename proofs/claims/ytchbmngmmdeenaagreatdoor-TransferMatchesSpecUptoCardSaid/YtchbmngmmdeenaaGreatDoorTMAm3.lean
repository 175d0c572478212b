import Derived.Sort.Statements
import Derived.Shelf.Sort.Plain
import Derived.Shelf.Slices.CompactS
import Derived.Shelf.Slices.In.SortNone
import Derived.Lib.RowBridge
import Derived.Shelf.Spec.SlicesGrow
import Derived.Shelf.SlicesE.DeleteFunc
import Derived.Maps.RangeRun
import Derived.Shelf.SlSortCmp.NoneTotal
import Derived.Test.YtchbmngmmdeenaaGreatDoorTMAm2
open Array renaming ext->tt,getElem?_eq_some_iff->dT,getElem?_append_left->fg,getElem?_modify->gw,getElem?_mapIdx->xp,getElem?_eq_getElem->dv,append_empty->zg,size_append->lL,getD_eq_getD_getElem?->ca,getElem?_setIfInBounds->ln,getElem_toList->rv
open Bool renaming not_eq_true'->l5,and_eq_true->ie
open Decidable renaming not_not->rh
open Go.Builtin renaming zeroCells->gp
open Go.Exit renaming inBlock->ta
open Go.Instr renaming mapUpdate->mf,extract->mb
open Go.Lib renaming compact->la,compact_length_le->n9,bitLen->rb
open Go.Result renaming andThen->ic
open Go.Sort renaming ahead->ll
open Go.World renaming cell?->l7,frozen?->Ff
open List renaming replicate->be,range->ol,getElem?_append_left->cy,getElem?_eq_some_iff->c7,drop_zero->lj,take_of_length_le->nn,pairwise_cons->lw,mem_cons->ce,mem_cons_self->az,length_append->aa,length_replicate->oj,take_left'->rq,mem_map->bj,eq_nil_of_length_eq_zero->jb,length_pos_iff->km,size_toArray->nc,getElem_append_right->py,getElem_mem->bt,map_cons->bv,getD_eq_getElem?_getD->ac,getElem?_eq_getElem->b7,pairwise_iff_getElem->pn,nodup_cons->ia,mem_cons_of_mem->aw,getElem?_append_right->c8,length_take->db
open Nat renaming le_refl->ae,le_add_right->re,add_zero->ky,not_lt_zero->co,zero_mul->tp,le_trans->js,zero_le->li,zero_add->dq,le_succ->mi,add_mul->fk,mul_comm->tx,lt_trans->xF
open Option renaming map_some->kx
open Option.some renaming inj->dj
namespace Go.Am
open Go
variable {α β σ:Type} {t:Bool} {c:Code} {d:D} {R:D->St->Prop} {B':Fr} {f:FuncId} {C:List (List D)} {m:List (Nat×Ob)} {args:List D} {a b i k:Nat} {yn AD BB:Prop} {yb De l l' s st:St}
section
variable {P:Program} {gl:Gl} {N n0:Nat} {keep:List Nat} {BE:AQ} {fr:Fr} {st:St} {x y:Code} {o:Operand} {i:Nat}
theorem d2c(h:F4 P gl N n0 keep (.seq x y) (AQ.block i BE) fr st):F4 P gl N n0 keep (.block i (.seq x y)) BE fr st:=rV h
theorem d2d(h:F4 P gl N n0 keep (.cond o x y) (AQ.block i BE) fr st):F4 P gl N n0 keep (.block i (.cond o x y)) BE fr st:=rV h
theorem d2e{l:Array Oper}{b:Bool}(h:F4 P gl N n0 keep (.region k l b) (AQ.block i BE) fr st):F4 P gl N n0 keep (.block i (.region k l b)) BE fr st:=rV h
theorem d2f(h:F4 P gl N n0 keep (.block k x) (AQ.block i BE) fr st):F4 P gl N n0 keep (.block i (.block k x)) BE fr st:=rV h
theorem d2g(h:F4 P gl N n0 keep (.scope x) (AQ.block i BE) fr st):F4 P gl N n0 keep (.block i (.scope x)) BE fr st:=rV h
theorem rn(b:AD)(e:AD->yn:=by intro H;(try simp only[go_sem,V]);(repeat (first|apply I6|(apply oR;simp only[go_sem,V])|(apply Jo;(try simp only[go_sem,V]))|(apply uL;(try simp only[go_sem,V]))|apply d2c|apply d2d|apply d2e|apply d2f|apply d2g|apply d1O|(apply d1P;(try simp only[go_sem,V]))));exact H):yn:=e b
theorem r0(b:AD)(e:AD->yn:=by intro H;(try simp only[go_sem,V]);(repeat apply I6);(first|(apply oR;simp only[go_sem,V])|(apply Jo;(try simp only[go_sem,V]))|(apply uL;(try simp only[go_sem,V]))|apply d2c|apply d2d|apply d2e|apply d2f|apply d2g|apply d1O|(apply d1P;(try simp only[go_sem,V])));exact H):yn:=e b
theorem r1(b:AD)(e:AD->yn:=by intro H;(try simp only[go_sem,V]);(repeat apply I6);apply oR;simp only[go_sem,V,fy];exact H):yn:=e b
theorem B(b:AD)(e:AD->yn:=by intro H;(try simp only[go_sem,V]);(repeat apply I6);exact H):yn:=e b
theorem cd{c:Bool}{a b:Option α}{r:α}(h:(bif c then a else b)=some r)
 (k1:c=true->a=some r->F4 P gl N n0 keep x BE fr st) (k0:c=false->b=some r->F4 P gl N n0 keep y BE fr st)
 (e:F4 P gl N n0 keep (.cond o x y) BE fr st->BB:=by intro H;exact rn H)
 (ho:ev gl fr o= .bool t:=by rfl) (K:t=c:=by first|rfl|simp):BB:=
 e (AE ho (fun F=>k1 (K▸F) (d1H h (K▸F))) fun F=>k0 (K▸F) (d1I h (K▸F)))
theorem ct(k:F4 P gl N n0 keep x BE fr st)
 (e:F4 P gl N n0 keep (.cond o x y) BE fr st->BB:=by intro H;(try simp only[go_sem,V]);(repeat (first|apply I6|(apply oR;simp only[go_sem,V])));exact H)
 (ho:ev gl fr o= .bool t:=by rfl) (F:t=true:=by first|rfl|exact decide_eq_true M|(simp;done)|(simp;omega)):BB:=
 e (AE ho (fun _=>k) fun h=>by rw[F]at h;cases h)
theorem cf(k:F4 P gl N n0 keep y BE fr st)
 (e:F4 P gl N n0 keep (.cond o x y) BE fr st->BB:=by intro H;(try simp only[go_sem,V]);(repeat (first|apply I6|(apply oR;simp only[go_sem,V])));exact H)
 (ho:ev gl fr o= .bool t:=by rfl) (F:t=false:=by first|rfl|exact decide_eq_false M|(simp;done)|(simp;omega)):BB:=
 e (AE ho (fun h=>by rw[F]at h;cases h) fun _=>k)
theorem ck{φ p:Prop}[Decidable p]{x:Option β}{e:β}(f:φ)(h:w6 p x=some e):(φ/\p)/\x=some e:=
 let ⟨a,b⟩:=oT h;⟨⟨f,a⟩,b⟩
theorem cl{x:Option α}{k:α->Option β}{r:β}{d:α->D}
 (h:x.bind k=some r) (p:∀v,x=some v->Pure P gl f args (d v)) (b:∀v,k v=some r->R (d v) st)
 (e:Spec P gl f args st R->BB:=by intro H;exact rn H):BB:=by
 have⟨v,Q,h⟩:=D0 h
 exact e ((p v Q).to (b v h))
theorem up{x:Option α}{args':List D}{d:α->D}(p:∀v,x=some v->Pure P gl f args' (d v))(C':∀st,bq st st args args')(s:∀n,D.eI n args':=by intro n;simp):∀v,x=some v->Pure P gl f args (d v):=
 fun v Q=>(p v Q).up C' (.inr s)
theorem c0{x:Option α}{k:α->Option β}{r:β}(h:x.bind k=some r)(b:∀v,x=some v->k v=some r->BB):BB:=by have⟨v,Q,h⟩:=D0 h;exact b v Q h
theorem l0{a:α}{f:α->Option β}{e:β}(h:B9 a f=some e)(b:∀y,y=a->f y=some e->BB):BB:=b a rfl h
theorem fa{p q:Prop}(a:p)(b:q):p/\q:=⟨a,b⟩
theorem rt(e:BB:=by
 refine rn ?_;(try (apply xZ;(try simp only[go_sem,V])));(first|apply Bf|apply d1S);simp only[go_sem,V];
 first|exact EC hsc (.same _) B5 ⟨by cases h;rfl,rfl⟩|exact JJ hsc (.same _) B5 ⟨by cases h;rfl,rfl⟩):BB:=e
theorem rr(b:AD)(e:AD->yn:=by intro H;refine rn ?_;(try (apply xZ;(try simp only[go_sem,V])));(first|apply Bf|apply d1S);simp only[go_sem,V];exact H):yn:=e b
theorem ra(b:AD)(e:AD->yn:=by intro H;refine rn ?_;apply xZ;(try simp only[go_sem,V]);exact H):yn:=e b
theorem fo{e r:α}(d':D)(hu:Up (s++l) s d d')(h:some e=some r)(hsc:Q8 s.length s)(hd:D.sc s.length d':=by simp)(hr:e=r->R d' s:=by rintro rfl;exact⟨rfl,rfl⟩):fin s.length R d (s++l):=
 JJ hsc hu hd (hr (dj h))
theorem fs{e r:α}(d':D)(hu:Up s s d d')(h:some e=some r)(hsc:Q8 s.length s)(hd:D.sc s.length d':=by simp)(hr:e=r->R d' s:=by rintro rfl;exact⟨rfl,rfl⟩):fin s.length R d s:=
 EC hsc hu hd (hr (dj h))
theorem yA{d':D}(h:Up st De d d':=by(repeat' (first|exact .same _|exact .A9 _ _ _ D5|exact .nref _ _ _ _ _ _ (by first|exact lq.trans rfl|exact d1Y.trans rfl|exact je.trans rfl|exact Rk.trans rfl)|exact .ref _ _ _ _ _ _ _ _ _ (by first|exact lq.trans rfl|exact d1Y.trans rfl|exact je.trans rfl|exact Rk.trans rfl) (by first|exact d2b|exact i4o|exact qK (by first|decide|simp)|exact aN.trans rfl|exact Rm.trans rfl|exact uV|exact d1R|exact JL (by first|decide|simp)|exact P5.trans rfl|exact uN.trans rfl|exact EH) D5 (by first|exact br _|simp[qF,D.M7]) (by first|(simp only[go_sem];done)|simp only[go_sem,rows,List.map_cons,List.map_nil])|exact .Ey _ _ _ _|exact .full _ _ _ _|exact .any _|exact .nil|exact .nil _|refine .cons _ _ _ _ ?_ ?_|refine .agg _ _ ?_|refine .E8 _ _ ?_ rfl))):Up st De d d':=h
theorem d2h{l l':List D}(h:bq st De l l':=by(repeat' (first|exact .nil|refine .cons _ _ _ _ yA ?_))):bq st De l l':=h
theorem d2i(h:gn st De l l':=by(repeat' (first|exact .nil _|exact .same _|refine .live _ _ _ _ ?_ ?_|refine .dead _ _ _ ?_|refine .arr _ _ _ _ _ ?_|exact .nil|refine .cons _ _ _ _ d2h ?_|(simp only[go_sem,rows,List.map_cons,List.map_nil];exact .same _)))):gn st De l l':=h
theorem Bj{fr:Fr}(h:gj st De fr B':=by(repeat' (first|exact trivial|refine⟨yA,?_⟩))):gj st De fr B':=h
theorem bm(hsc:Q8 s.length s:=by exact hsc)(hu:gn (s++l) (s++l') l l':=by exact d2i)(hf:gj (s++l) (s++l') fr B':=by exact Bj)(hl:mH (s++l').length l':=by simp)(hs:Fr.sc (s++l').length B':=by simp):O6 s.length B' (s++l') fr (s++l):=uW hsc hu hl hf hs
theorem uZ(hsc:Q8 s.length s:=by exact hsc)(hf:gj (s++l) s fr B':=by exact Bj)(hs:Fr.sc s.length B':=by simp):O6 s.length B' s fr (s++l):=d1Q hsc hf hs
theorem O7(hsc:Q8 s.length s:=by exact hsc)(hf:gj s s fr B':=by exact Bj)(hs:Fr.sc s.length B':=by simp):O6 s.length B' s fr s:=i4i hsc hf hs
theorem bu(hsc:Q8 s.length s:=by exact hsc)(hu:gn (C2 s m++l) (C2 s m++l') l l':=by exact d2i)(hf:gj (C2 s m++l) (C2 s m++l') fr B':=by exact Bj)(hm:oU s.length m:=by simp<;>omega)(hl:mH (C2 s m++l').length l':=by simp<;>omega)(hs:Fr.sc (C2 s m++l').length B':=by simp<;>omega):O6 s.length B' (C2 s m++l') fr (C2 s m++l):=EF B5 (uX hsc hm) hu hl hf hs
theorem vd(hsc:Q8 s.length s:=by exact hsc)(hf:gj (C2 s m++l) (C2 s m) fr B':=by exact Bj)(hm:oU s.length m:=by simp<;>omega)(hs:Fr.sc (C2 s m).length B':=by simp<;>omega):O6 s.length B' (C2 s m) fr (C2 s m++l):=d1Z B5 (uX hsc hm) hf hs
theorem jE(hsc:Q8 s.length s:=by exact hsc)(hf:gj (C2 s m) (C2 s m) fr B':=by exact Bj)(hm:oU s.length m:=by simp<;>omega)(hs:Fr.sc (C2 s m).length B':=by simp<;>omega):O6 s.length B' (C2 s m) fr (C2 s m):=i4k B5 (uX hsc hm) hf hs
theorem rng{φ:Prop}{Γ ρ:Type}{id n:Nat}{body:Nat->σ->Option (C1 ρ σ σ)}{Y:σ}{kk:σ->Option ρ}{e:ρ}(B':Γ->Nat->σ->Fr)(De:Γ->Nat->σ->St)(Fb:Γ->σ->Fr)(Tb:Γ->σ->St)(γ0:Γ)(V:φ)(hl:n<=9223372036854775807)
 (h:B3 (K6 body n Y) kk=some e)
 (h0:O6 n0 (B' γ0 0 Y) (De γ0 0 Y) fr st)
 (hs:∀γ k s b,φ/\k<n/\wr .i64 ((k:Int)+1)=((k+1:Nat):Int)->body k s=some b->(∀x,b= .ret x->x=e)->F4 P gl N n0 keep c (Bg n0 id B' De Fb Tb BE k b) (B' γ k s) (De γ k s))
 (he:∀γ s,F4 P gl N n0 keep c (fun ex fr st=>ex= .exit id/\∃γ',O6 n0 (Fb γ' s) (Tb γ' s) fr st) (B' γ n s) (De γ n s))
 (S:∀γ s fr st,kk s=some e->O6 n0 (Fb γ s) (Tb γ s) fr st->BE .normal fr st):
 F4 P gl N n0 keep (.block id (.loop c)) BE fr st:=
 arg_ B' De Fb Tb γ0 h h0 (fun γ k s b S=>hs γ k s b ⟨V,S,Bc S hl⟩) he S
theorem Q9{n:Nat}{full:Bool}{E:α->List D}{l:List α}(t:Nat)(k:l.length<=9223372036854775807->F4 P gl N n0 keep c BE fr st)
 (e:F4 P gl N n0 keep c BE fr st->BB:=by intro H;exact rn H)
 (hg:fr.get t= .sl full n b (rows E l):=by rfl) (H:1<=b:=by decide):BB:=
 e (Rf hg fun h=>k (by rw[av]at h;have U:l.length*1<=l.length*b:=Nat.mul_le_mul_left _ H;unfold top at h;omega))
theorem fb{fn:Func}(N:Nat)(B:List ResultVar)(keep:List Nat)(hf:P.funcs[f]? =some fn)(h:Q8 st.length st->F4 P gl N st.length keep c (Bd P B st.length R) (uM 0 args) st)
 (H:fn.body=some c:=by rfl) (hN:fn.ntmps=N:=by rfl) (hr:fn.results.toList=B:=by rfl) (hname:(fn.name != "runtime.NumGoroutine")=true:=by kernel_rfl) (hlen:Nat.ble args.length N=true:=by rfl):Spec P gl f args st R:=
 Rl keep hf H hN hr hname hlen h
theorem H7{o:Nat}(ho:o<st.length):(∀(l:St) (x:Ob) (m:List (Nat×Ob)),(C2 st m++l).set o (some x)=C2 st (qJ m o x)++l)/\(∀(x:Ob) (m:List (Nat×Ob)),(C2 st m).set o (some x)=C2 st (qJ m o x))/\(∀(l:St) (m:List (Nat×Ob)),look (C2 st m++l) o=qI m o (look st o))/\∀m:List (Nat×Ob),look (C2 st m) o=qI m o (look st o):=
 ⟨fun _ _ m=>JO ho m,fun _ m=>d1X ho m,fun _ m=>JN ho m,fun m=>d1W ho m⟩
theorem Bl{a b:Nat}(h: [a,b].Nodup):((a=b)=False)/\((b=a)=False):=by grind
theorem qL{c:Nat}(h: [a,b,c].Nodup):(((a=b)=False)/\((b=a)=False))/\(((a=c)=False)/\((c=a)=False))/\((b=c)=False)/\((c=b)=False):=by grind
theorem Ro{c d:Nat}(h: [a,b,c,d].Nodup):(((a=b)=False)/\((b=a)=False))/\(((a=c)=False)/\((c=a)=False))/\(((a=d)=False)/\((d=a)=False))/\(((b=c)=False)/\((c=b)=False))/\(((b=d)=False)/\((d=b)=False))/\((c=d)=False)/\((d=c)=False):=by grind
theorem nd5{c d e:Nat}(h: [a,b,c,d,e].Nodup):(((a=b)=False)/\((b=a)=False))/\(((a=c)=False)/\((c=a)=False))/\(((a=d)=False)/\((d=a)=False))/\(((a=e)=False)/\((e=a)=False))/\(((b=c)=False)/\((c=b)=False))/\(((b=d)=False)/\((d=b)=False))/\(((b=e)=False)/\((e=b)=False))/\(((c=d)=False)/\((d=c)=False))/\(((c=e)=False)/\((e=c)=False))/\((d=e)=False)/\((e=d)=False):=by grind
theorem fuo{e r:α}(d':D)(hu:Up (C2 s m++l) (C2 s m) d d')(h:some e=some r)(hsc:Q8 s.length s)(hr:e=r->R d' (C2 s m):=by rintro rfl;exact⟨rfl,rfl⟩)(hm:oU s.length m:=by simp<;>omega)(hd:D.sc (C2 s m).length d':=by simp<;>omega):fin s.length R d (C2 s m++l):=
 i4l B5 (uX hsc hm) hu hd (hr (dj h))
theorem fus{e r:α}(d':D)(hu:Up (C2 s m) (C2 s m) d d')(h:some e=some r)(hsc:Q8 s.length s)(hr:e=r->R d' (C2 s m):=by rintro rfl;exact⟨rfl,rfl⟩)(hm:oU s.length m:=by simp<;>omega)(hd:D.sc (C2 s m).length d':=by simp<;>omega):fin s.length R d (C2 s m):=
 i4m B5 (uX hsc hm) hu hd (hr (dj h))
theorem dw{l:List Oper}(J4:List Nat)(n:Nat)(b:AD)
 (e:AD->dG P gl N l.toArray st.length J4 (fun fr st=>BE .normal (Fr.only keep fr) st) l 0 0 [] fr (st++be n (some .resv)):=by intro H;simp only[go_sem,List.replicate_succ,List.replicate_zero,V];exact H)
 (hm:P.follows .mixedOrders=true:=by exact follows) (ho:Es l.toArray J4=true:=by kernel_rfl) (hn:kW l=n:=by rfl):F4 P gl N n0 keep (.region i l.toArray true) BE fr st:=d1C J4 n hm ho hn (e b)
theorem cG{l:List Oper}(J4:List Nat)(n:Nat)(b:AD)
 (e:AD->dG P gl N l.toArray st.length J4 (fun fr st=>BE .normal (Fr.only keep fr) st) l 0 0 [] fr (st++be n (some .resv)):=by intro H;simp only[go_sem,List.replicate_succ,List.replicate_zero,V,fy];exact H)
 (hm:P.follows .mixedOrders=true:=by exact follows) (ho:Es l.toArray J4=true:=by kernel_rfl) (hn:kW l=n:=by rfl):F4 P gl N n0 keep (.region i l.toArray true) BE fr st:=d1C J4 n hm ho hn (e b)
theorem p7r(h:k<=140737488355328):(k<=top)=True:=eq_true (by unfold top;exact h)
section
variable {α:Type} {E:α->List D}
theorem rg[Inhabited α](E:α->List D)(l:List α)(k:Nat)(h:k<l.length:=by first|omega|(simp;omega)):(rows E l).getD k []=E (get l k)/\k<l.length:=⟨sq h,h⟩
end
end
attribute [go_sem] p7r
def inn(r:List Int):Option Ob:=some (.arr 0 1 8 (rows aY r))
section
variable {q m n k i:Nat} {yb:List (List Int)} {R:List Int}
theorem d2m{st De:St}:∀(l l':List (List D)) (_:l'.length=l.length) (_:∀(j:Nat)(h:j<l.length)(h':j<l'.length),bq st De (l[j]) (l'[j])),mC st De l l'
 | [],[],_,_=>.nil
 |e::l,e'::l',hl,h=>.cons _ _ _ _ (h 0 B5 B5) (d2m l l' (by simpa using hl) fun j U X=>h (j+1) (by simpa using U) (by simpa using X))
def zs(k:Nat)(r:List Int):List (List Int):=be k r
section
variable {α:Type} {same:α->α->Bool} {a b:List α}
end
theorem JQ(n:Nat)(s:σ):B3 (ρ:=σ) (K6 (fun _ s=>some (.B7 s)) n s) (fun s=>some s)=some s:=by
 unfold K6;generalize 0=k;induction n generalizing k with
 |zero=>rfl
 |succ n ih=>simp only[mJ];exact ih _
end
section
variable {α:Type} {E:α->List D} {b:Nat} {yb:List (List α)} {R:List α} {i k m n q:Nat}
def rf(n:Nat)(f:Nat->α):List α:=(ol n).map f
end
section
variable {P:Program} {gl:Gl} {N n0:Nat} {keep:List Nat} {BE:AQ} {fr:Fr} {st:St} {c:Code} {id n:Nat}
theorem JR{ρ σ:Type}{body:Nat->σ->Option (C1 ρ σ σ)}{Y:σ}{kk:σ->Option ρ}{e:ρ}(tl:Nat->σ->Fr->St->Prop)(qa:σ->Fr->St->Prop)
 (hn:∀k s b,body k s=some b->∃s',b= .B7 s') (h:B3 (K6 body n Y) kk=some e) (h0:tl 0 Y fr st)
 (hs:∀k s s' fr st,k<n->body k s=some (.B7 s')->tl k s fr st->F4 P gl N n0 keep c (fun ex fr st=>ex= .normal/\∃B',Fr.leq B' fr/\tl (k+1) s' B' st) fr st)
 (he:∀s fr st,tl n s fr st->F4 P gl N n0 keep c (fun ex fr st=>ex= .exit id/\∃B',Fr.leq B' fr/\qa s B' st) fr st)
 (S:∀s B' fr st,kk s=some e->qa s B' st->Fr.leq B' fr->BE .normal fr st):F4 P gl N n0 keep (.block id (.loop c)) BE fr st:=by
 refine rV ?_
 unfold K6 at h
 have key:∀m k s fr st,k+m=n->B3 (mJ body m k s) kk=some e->tl k s fr st->F4 P gl N n0 keep (.loop c) (AQ.block id BE) fr st:=by
  intro m;induction m with
  |zero=>
   intro k s fr st hk' U u;have:k=n:=by omega
   subst this;refine xY (yc (he s fr st u) fun ex fr st hq=>?_);obtain⟨rfl,B',H,L⟩:=hq;show AQ.block id BE (.exit id) fr st;simp only[AQ.block,if_true];exact S s B' fr st U L H
  |succ m ih=>
   intro k s fr st hk' U u;simp only[mJ]at U;cases H:body k s with
   |none=>rw[H]at U;cases U
   |some b=>rw[H]at U;obtain⟨s',rfl⟩:=hn k s b H;refine xY (yc (hs k s s' fr st M H u) fun ex fr st hq=>?_);obtain⟨rfl,B',H,hi'⟩:=hq;exact rW H (ih (k+1) s' B' st M U hi')
 exact key n 0 Y fr st M h h0
end
section
variable {α:Type} {E:α->List D} {b q n k:Nat} {N:St}
def EI(q:Nat)(N:St)(E:α->List D)(b:Nat)(r:List α)(c:D):Prop:=(c= .A9/\r=[])\/∃j g,c= .ref false (q+(j+1)) g 0 r.length/\N[j]? =some (some (.arr g 1 b (rows E r)))
inductive iB(q:Nat)(N:St)(E:α->List D)(b:Nat):List (List D)->List (List α)->Prop
 |nil:iB q N E b [] []
 |cons (r:List α) (c:D) (C:List (List D)) (De:List (List α)) (h:EI q N E b r c) (t:iB q N E b C De):iB q N E b ([c]::C) (r::De)
theorem iB.len{De:List (List α)}(h:iB q N E b C De):C.length=De.length:=by
 induction h with
 |nil=>rfl
 |cons r c C De _ _ ih=>simp[ih]
theorem EI.app{r:List α}{c:D}(h:EI q N E b r c):EI q (N++yb) E b r c:=by
 rcases h with h|⟨j,g,U,X⟩
 ·exact .inl h
 ·exact .inr ⟨j,g,U,by rw[cy (c7.1 X).1];exact X⟩
theorem iB.app{De:List (List α)}(h:iB q N E b C De):iB q (N++yb) E b C De:=by
 induction h with
 |nil=>exact .nil
 |cons r c C De h _ ih=>exact .cons r c C De h.app ih
theorem iB.snoc{De:List (List α)}{r:List α}{c:D}(h:iB q N E b C De)(k:EI q N E b r c):iB q N E b (C++[[c]]) (De++[r]):=by
 induction h with
 |nil=>exact .cons r c [] [] k .nil
 |cons r' c' C De h _ ih=>exact .cons r' c' _ _ h ih
theorem iB.ups[cr E 1]{yk T0:St}(H:1<=b)(hget:∀(j:Nat) x,N[j]? =some x->yk[q+(j+1)]? =some x)(hT:T0.length<=q+1){De:List (List α)}(h:iB q N E b C De):mC yk T0 C (rows (slc 1 b E) De):=by
 induction h with
 |nil=>exact .nil
 |cons r c C De h _ ih=>
  refine .cons _ _ _ _ (.cons _ _ _ _ ?_ .nil) ih;rcases h with⟨rfl,X⟩|⟨j,g,rfl,X⟩
  ·rw[X];exact .A9 _ _ _ H
  ·refine .ref _ _ _ _ _ 1 b (rows E r) _ (hget _ _ X) ?_ H (br _) ?_
   ·unfold look;rw[List.getElem?_eq_none M];rfl
   ·rw[lj,nn];rw[av];exact ae _
theorem i4r[cr E 1]{s:St}{C:List (List D)}{De:List (List α)}{F0 B':Fr}(H:1<=b)(hsc:Q8 s.length s)(hr:iB s.length N E b C De)(hn:De.length=n)
 (U:∀st De,gj st De F0 F0) (X:∀st T':St,Up st T' (.ref true s.length 0 0 n) (.sl false 1 24 (rows (slc 1 b E) De))->gj st T' F0 B')
 (s1:Fr.sc (s++[some (Ob.arr 0 1 24 (rows (slc 1 b E) De))]).length F0) (s2:Fr.sc s.length B'):
 O6 s.length B' s F0 (s++(some (.arr 0 1 24 C)::N)):=by
 have U:O6 s.length F0 (s++[some (.arr 0 1 24 (rows (slc 1 b E) De))]) F0 (s++(some (.arr 0 1 24 C)::N)):=by
  refine uW hsc (.live _ _ _ _ (nQ.arr _ _ _ _ _ (iB.ups H (fun j x A=>?_) B5 hr)) (.nil _)) ⟨?_,trivial⟩ (U _ _) s1
  ·grind
  ·intro e he;exact qF.sc (br (E:=slc 1 b E) De) _ e he
 refine U.trans (d1Q hsc (X _ _ (.ref _ _ _ _ _ 1 24 (rows (slc 1 b E) De) _ (Rk.trans rfl) d1R D5 (br _) ?_)) s2)
 rw[lj,nn]
 rw[av];omega
theorem i4s{f:Nat->α}:rf (k+1) f=rf k f++[f k]:=by simp[rf,List.range_succ]
theorem i4t{N:St}{x:Option Ob}:(N++yb).set (N.length+i) x=N++yb.set i x:=by grind
end
end Go.Am
namespace Go.Am
open Go Go.Sort
section
variable {α:Type} [Inhabited α]
abbrev Bm(cf:α->α->Int)(x y:α):Bool:=decide (cf x y<0)
def ins(cf:α->α->Int)(x:α):List α->List α
 | []=>[x]
 |y::l=>if cf y x<0 then y::ins cf x l else x::y::l
def cw(cf:α->α->Int):List α->List α
 | []=>[]
 |x::l=>ins cf x (cw cf l)
def Bn(cf:α->α->Int)(l:List α):Prop:=l.Pairwise fun a b=>¬cf b a<0
omit [Inhabited α] in
theorem Rp(cf:α->α->Int)(x:α):∀l,(ins cf x l).Perm (x::l)
 | []=>.refl _
 |y::l=>by
  unfold ins;split
  ·exact((Rp cf x l).cons y).trans (.swap x y l)
  ·exact .refl _
omit [Inhabited α] in
theorem oV(cf:α->α->Int):∀l,(cw cf l).Perm l
 | []=>.refl _
 |x::l=>(Rp cf x _).trans ((oV cf l).cons x)
omit [Inhabited α] in
theorem i4u{cf:α->α->Int}(hO:SWO (Bm cf)){x y z:α}(U:¬cf x y<0)(X:¬cf y z<0):¬cf x z<0:=
 of_decide_eq_false (hO.ntrans x y z (decide_eq_false U) (decide_eq_false X))
omit [Inhabited α] in
theorem i4v{cf:α->α->Int}(hO:SWO (Bm cf)){x y:α}(U:cf x y<0):¬cf y x<0:=fun X=>absurd (of_decide_eq_true (hO.trans x y x (decide_eq_true U) (decide_eq_true X))) (of_decide_eq_false (hO.irrefl x))
omit [Inhabited α] in
theorem d2n{cf:α->α->Int}(hO:SWO (Bm cf))(x:α):∀l,Bn cf l->Bn cf (ins cf x l)
 | [],_=>List.pairwise_singleton _ _
 |y::l,h=>by
  have⟨U,X⟩:=lw.1 h;unfold ins;split
  ·rename_i hlt;refine lw.2 ⟨fun z hz=>?_,d2n hO x l X⟩;rcases ce.1 ((Rp cf x l).mem_iff.1 hz)with rfl|hz
   ·exact i4v hO hlt
   ·exact U z hz
  ·rename_i mK;refine lw.2 ⟨fun z hz=>?_,h⟩;rcases ce.1 hz with rfl|hz
   ·exact mK
   ·exact i4u hO (U z hz) mK
omit [Inhabited α] in
theorem JT{cf:α->α->Int}(hO:SWO (Bm cf)):∀l,Bn cf (cw cf l)
 | []=>.nil
 |x::l=>d2n hO x _ (JT hO l)
omit [Inhabited α] in
theorem Rq{cf:α->α->Int}(ha:∀x y,¬cf x y<0->¬cf y x<0->x=y):∀(l m:List α),Bn cf l->Bn cf m->l.Perm m->l=m
 | [],m,_,_,h=>(List.nil_perm.1 h).symm
 |a::l,[],_,_,h=>absurd (h.length_eq) B5
 |a::l,b::m,U,X,h=>by
  have⟨p1,p2⟩:=lw.1 U;have⟨q1,q2⟩:=lw.1 X;have e:a=b:=by
   rcases ce.1 (h.mem_iff.1 (az ..))with e|ha'
   ·exact e
   ·rcases ce.1 (h.symm.mem_iff.1 (az ..))with e|hb'
    ·exact e.symm
    ·grind
  subst e;rw[Rq ha l m p2 q2 (List.Perm.cons_inv h)]
end
end Go.Am
namespace Go.Am
open Go Go.Sort Go.Shelf
open Go.Proofs (encStr)
variable {x y:J} {l:List J} {base blk gen o:Nat} {st:St} {w:World}
def EJ(l:List J):List J:=l.mergeSort fun x y=>decide (x<=y)
def lx(l:List J):List J:=la l++be (l.length-(la l).length) []
theorem Rr(l:List J):(lx l).length=l.length:=by have:(la l).length<=l.length:=n9 l;unfold lx;simp only[aa,oj];omega
theorem d2o(l:List J):(EJ l).length=l.length:=List.length_mergeSort _
theorem i4w(l:List J):((rows B2 (lx l)).drop 0).take (la l).length=rows B2 (la l):=by unfold lx rows;rw[lj,List.map_append,rq B5]
section
variable {P:Program} {G:Gl}
theorem JU{vs:Array Value}(h:vs.size=1):∃a,vs= #[a]:=by
 refine⟨vs[0],?_⟩;apply tt
 ·simpa using h
 ·grind
theorem Bo{w:World}{blk base q:Nat}{d:Array J}{os:Array Obj}:(grow (putRow encStr (ll w q) blk base d) os).heap=w.heap.modify blk (onCells (putCells encStr base d))++os:=rfl
theorem Rs{w:World}{μ:Mu}{st:St}{o gen blk base q:Nat}{l l':List J}{os:Array Obj}(hs:J0 w μ st)(hst:st[o]? =some (some (.arr gen 1 16 (rows B2 l))))(hm:μ o=some (blk,base))(hl:l'.length=l.length):
 J0 (grow (putRow encStr (ll w q) blk base l'.toArray) os) μ (st.set o (some (.arr gen 1 16 (rows B2 l'))))/\Step w μ st (grow (putRow encStr (ll w q) blk base l'.toArray) os) μ (st.set o (some (.arr gen 1 16 (rows B2 l')))):=by
 have ak:bk w μ st (μ o) 1 16 (rows B2 l):=hs.obj o _ hst
 have⟨bS,base',c,ty,hm',aJ,hsz,hcell⟩:=ak.loc.resolve_left (fun h=>by rw[hm]at h;cases h.1)
 rw[hm]at hm'
 cases hm'
 have hlt:blk<w.heap.size:=(dT.1 aJ).1
 have i4x:∀j,j<w.heap.size->j≠blk->(grow (putRow encStr (ll w q) blk base l'.toArray) os).heap[j]? =w.heap[j]? :=fun j L hne=>by rw[Bo,fg (by simpa using L),gw,if_neg (fun e=>hne e.symm)]
 have d2p:(grow (putRow encStr (ll w q) blk base l'.toArray) os).heap[blk]? =some (.cells (putCells encStr base l'.toArray c) ty (0,0)):=by rw[Bo,fg (by simpa using hlt),gw,if_pos rfl,aJ];rfl
 have hrl:(rows B2 l).length=l.length:=av l
 refine jS (w':=grow (putRow encStr (ll w q) blk base l'.toArray) os) (μ':=μ) (ob':=.arr gen 1 16 (rows B2 l')) hs hst (fun _ _=>rfl)
  (fun b' hb' hne=>i4x b' hb' fun e2=>hne base (by rw[e2];exact hm)) (by rw[Bo];simp) rfl rfl ⟨rfl,Dr.le (re _ _)⟩
  (fun b' base' e2=>.inl ⟨base',e2⟩) ⟨ae _,fun _=>⟨rfl,rfl,by rw[av,av,hl],rfl,fun b' base' c2 rK hm2 oI=>by rw[hm]at hm2;cases hm2;rw[aJ]at oI;cases oI;exact⟨_,d2p,by simp[putCells]⟩⟩⟩
  (fun s=>⟨by rw[av,hl, <-hrl];exact ak.Pc,fun x A=>by obtain⟨y,_,rfl⟩:=bj.1 A;rfl,.inr ⟨blk,base,_,ty,hm,d2p,by rw[av,hl, <-hrl];simpa[putCells]using hsz,fun i j u L=>?_⟩⟩)
 have hi2:i<l'.length:=by rw[av]at u;exact u
 have er:(rows B2 l')[i]=[D.str (l'[i])]:=by simp[rows,B2]
 have hj2:j=0:=by rw[er]at L;simpa using L
 subst hj2
 have K:base+(i*1+0)<c.size:=by rw[hrl]at hsz;omega
 refine⟨.string (bs l'[i]),?_,?_,rfl⟩
 ·unfold putCells;rw[xp,dv K,kx,if_pos ⟨by omega,by simp;omega⟩];simp[hi2,bs]
 ·have e:((rows B2 l')[i])[0]=D.str (l'[i]):=by simp[er]
  rw[e];exact xQ _ _ _ _
theorem Rt{μ:Mu}(hs:J0 w μ st)(hst:st[o]? =some (some (.arr gen 1 16 (rows B2 l))))(hm:μ o=some (blk,base)):Holds encStr w blk base l.toArray/\blk<w.heap.size:=by
 have ak:bk w μ st (μ o) 1 16 (rows B2 l):=hs.obj o _ hst;have⟨bS,base',c,ty,hm',aJ,hsz,hcell⟩:=ak.loc.resolve_left (fun h=>by rw[hm]at h;cases h.1);rw[hm]at hm';cases hm';refine⟨fun i u=>?_,(dT.1 aJ).1⟩;have hi2:i<l.length:=by simpa using u
 have er:(rows B2 l)[i]'(by rw[av];exact hi2)=[D.str (l[i])]:=by simp[rows,B2]
 have⟨v,e1,e2,_⟩:=hcell i 0 (by rw[av];exact hi2) (by rw[er];simp);have e3:((rows B2 l)[i]'(by rw[av];exact hi2))[0]'(by rw[er];simp)=D.str (l[i]):=by simp[er]
 rw[e3]at e2;rw[jA e2,Nat.mul_one,ky]at e1;refine⟨?_,?_⟩
 ·unfold l7;simp only[aJ];simpa[hi2,bs]using e1
 ·unfold Ff;simp only[aJ];simp
theorem i4y{ρ:Ren}{full:Bool}(AM:Go.Proofs.Lays.n190 P ρ)(H:iZ P (ρ.f 190)=true)
 (hlk:look st o=some (.arr gen 1 16 (rows B2 l))) (hl:l.length<4611686018427387904):
 Am.Spec P G (ρ.f 190) [.ref full o gen 0 l.length] st (fun d st'=>d= .E8 []/\st'=C2 st [(o,.arr gen 1 16 (rows B2 (EJ l)))]):=by
 refine⟨trivial,fun w μ vs hs hG hn Q=>.inl ⟨H,?_⟩⟩
 have h0:=Q 0 B5
 obtain⟨v0,rfl⟩:=JU (show vs.size=1 by simpa using hn)
 have h0:VR w μ st v0 (.ref full o gen 0 l.length):=h0
 have hst:st[o]? =some (some (.arr gen 1 16 (rows B2 l))):=V7 hlk
 cases h0 with
 |tr h=>cases h
 |ref _ _ _ _ _ _ _ _ _ _ hr=>
  obtain⟨a,cap,rfl,c1,c2,_,c4⟩:=hr 1 16 (rows B2 l) hst;by_cases H6:l=[]
  ·subst H6;refine(Go.Proofs.Any.slices_Sort_string_none AM a cap w).mono fun e w' ⟨iC,nR⟩=>?_;subst nR;refine⟨_,.E8 [],st,μ,iC,⟨rfl,?_⟩,hs,Step.refl _ _ _,.E8 _ _ (fun j h=>absurd h (co _)) (fun j h=>absurd h (co _))⟩;have e:EJ ([]:List J)=[]:=jb (d2o []);rw[e,lu (by simp[hlk])]
  ·have hlen:0<l.length:=km.2 H6;obtain⟨blk,base,hm,rfl,c,ty,aJ,hsz⟩:=c4.resolve_left M;have⟨hH,hblk⟩:=Rt hs hst hm;rw[tp,ky]at*
   refine(Go.Proofs.Any.slices_Sort_string AM blk base cap l w hH hblk hl).mono fun e w' ⟨iC,m,os,hw⟩=>?_;subst hw;have key:=Rs (q:=m) (os:=os) hs hst hm (d2o l);exact⟨_,.E8 [],_,μ,iC,⟨rfl,rfl⟩,key.1,key.2,.E8 _ _ (fun j h=>absurd h (co _)) (fun j h=>absurd h (co _))⟩
theorem i4z{ρ:Ren}{full:Bool}(AM:Go.Proofs.Lays.n194 P ρ)(H:iZ P (ρ.f 194)=true)
 (hlk:look st o=some (.arr gen 1 16 (rows B2 l))) (hl:l.length<=9223372036854775807):
 Am.Spec P G (ρ.f 194) [.ref full o gen 0 l.length] st (fun d st'=>d= .ref false o gen 0 (la l).length/\st'=C2 st [(o,.arr gen 1 16 (rows B2 (lx l)))]):=by
 refine⟨trivial,fun w μ vs hs hG hn Q=>.inl ⟨H,?_⟩⟩
 have h0:=Q 0 B5
 obtain⟨v0,rfl⟩:=JU (show vs.size=1 by simpa using hn)
 have h0:VR w μ st v0 (.ref full o gen 0 l.length):=h0
 have hst:st[o]? =some (some (.arr gen 1 16 (rows B2 l))):=V7 hlk
 have ho:o<st.length:=E2 hlk
 cases h0 with
 |tr h=>cases h
 |ref _ _ _ _ _ _ _ _ _ _ hr=>
  obtain⟨a,cap,rfl,c1,c2,_,c4⟩:=hr 1 16 (rows B2 l) hst;by_cases H6:l=[]
  ·subst H6;refine(Go.Proofs.Any.slices_Compact_string_empty AM a cap w).mono fun e w' ⟨iC,nR⟩=>?_;subst nR;have e:lx ([]:List J)=[]:=jb (Rr []);have e2:la ([]:List J)=[]:=jb (Nat.le_zero.1 (n9 ([]:List J)));refine⟨_,.ref false o gen 0 0,st,μ,iC,⟨by rw[e2];rfl,?_⟩,hs,Step.refl _ _ _,.ref _ _ _ _ _ _ ⟨_,_,_,rfl⟩ ho (by rw[hst];simp) (fun g' n b es h=>by rw[hst]at h;cases h;exact ae _) (fun n b es h=>?_)⟩
   ·rw[e,lu (by simp[hlk])]
   ·have⟨a2,i4A,e3,d1,d2,_,d4⟩:=hr n b es h;cases e3;exact⟨_,_,rfl,d1,d2,(fun hf=>by cases hf),d4⟩
  ·have hlen:0<l.length:=km.2 H6;obtain⟨blk,base,hm,rfl,c,ty,aJ,hsz⟩:=c4.resolve_left M;have⟨hH,hblk⟩:=Rt hs hst hm;rw[tp,ky]at*
   refine(Go.Proofs.Any.slices_Compact_string AM blk base cap l w hH hl c1).mono fun e w' ⟨iC,m,hw⟩=>?_;have key:=Rs (q:=m) (os:= #[]) hs hst hm (Rr l);rw[grow_empty]at key;have hcl:(la l).length<=l.length:=n9 l;subst hw;refine⟨_,.ref false o gen 0 (la l).length,_,μ,iC,⟨rfl,rfl⟩,key.1,key.2,?_⟩;show VR _ μ (st.set o (some (.arr gen 1 16 (rows B2 (lx l))))) _ _;have ga:(st.set o (some (.arr gen 1 16 (rows B2 (lx l)))))[o]? =some (some (.arr gen 1 16 (rows B2 (lx l)))):=by simp[ho]
   refine .ref _ _ _ _ _ _ ⟨_,_,_,rfl⟩ (by simpa using ho) (by rw[ga];simp) (fun g' n b es h=>by rw[ga]at h;cases h;exact ae _) (fun n b es h=>?_);rw[ga]at h;cases h;have Ru:(putRow encStr (ll w m) blk base (lx l).toArray).heap[blk]? =some (.cells (putCells encStr base (lx l).toArray c) ty (0,0)):=by have:=@Bo w blk base m (lx l).toArray #[];rw[grow_empty]at this;rw[this,zg,gw,if_pos rfl,aJ];rfl
   exact⟨_,_,rfl,js hcl c1,by rw[av,Rr];omega,(fun hf=>by cases hf),.inr ⟨blk,base,hm,by simp,_,ty,Ru,by simpa[putCells]using hsz⟩⟩
end
def jf(x y:J):Int:=if y<=x then 0 else -1
theorem EK:jf x y<0↔ ¬y<=x:=by unfold jf;split<;>simp[*]
theorem d2q{z:J}(h:x<=y)(k:y<=z):x<=z:=List.le_trans h k
theorem d2r(x y:J):x<=y\/y<=x:=List.le_total x y
theorem i4B(h:x<=y)(k:y<=x):x=y:=List.le_antisymm h k
theorem i4C:SWO (Bm jf) where
 irrefl x:=decide_eq_false (by rw[EK];exact fun h=>h ((d2r x x).elim id id))
 trans x y z h k:=decide_eq_true (by
  have h:=of_decide_eq_true h;have k:=of_decide_eq_true k;rw[EK]at*
  exact fun e=>k (d2q e ((d2r x y).resolve_right h)) |>.elim)
 ntrans x y z h k:=decide_eq_false (by
  have h:=of_decide_eq_false h;have k:=of_decide_eq_false k;rw[EK,rh]at*
  exact d2q k h)
theorem i4D(l:List J):EJ l=cw jf l:=by
 refine Rq (cf:=jf) (fun x y h k=>?_) _ _ ?_ (JT i4C l) ((List.mergeSort_perm l _).trans (oV jf l).symm)
 ·rw[EK,rh]at h k;exact i4B k h
 ·unfold Bn EJ;refine(List.pairwise_mergeSort (fun a b c h k=>?_) (fun a b=>?_) l).imp fun {a b} h=>?_
  ·grind
  ·grind
  ·rw[EK,rh];simpa using h
end Go.Am
namespace Go.Am
open Go Go.Shelf
theorem i4E{P:Program}{G:Gl}{ρ:Ren}(AM:Go.Proofs.Lays8.n4 P ρ){i0:TypeInfo}{z:Value}(hi0:P.info? (ρ.t 25)=some i0)(hz0:i0.zero=some z)(hzs:z.cells.size=i0.size)(hs0:0<i0.size)(H:iZ P (ρ.f 4)=true){n:Nat}{st:St}(hn:n*i0.bytes<=top)(h63:n<=4611686018427387904):
 Am.Spec P G (ρ.f 4) [.A9,.int .i64 (n:Int)] st (fun d st'=>d= .ref false st.length 0 0 0/\st'=st++[some (.arr 0 i0.size i0.bytes [])]):=by
 refine⟨trivial,fun w μ vs hs hG hsz Q=>.inl ⟨H,?_⟩⟩
 have h0:=Q 0 B5
 have U:=Q 1 B5
 obtain⟨v0,v1,rfl⟩:∃a b,vs= #[a,b]:=by
  have:vs.size=2:=by simpa using hsz
  refine⟨vs[0],vs[1],?_⟩;apply tt
  ·simpa using this
  ·grind
 obtain rfl:v0= .slice none 0 0:=qw h0
 obtain rfl:v1= .int .i64 (n:Int):=dy U
 by_cases hz:n=0
 ·subst hz;refine(Go.Proofs.Any8.slices_Grow_room AM none 0 0 0 w M M M M).mono fun e w' ⟨he,hw⟩=>?_;subst hw;have⟨k1,k2⟩:=IB hs;have hq:(st++[some Ob.resv])[st.length]? =some (some .resv):=by simp
  have h:=jS (w:=w') (w':=w') (μ':=upd (upd μ st.length none) st.length none) (ob':=.arr 0 i0.size i0.bytes []) k1 hq (fun o' h=>jT _ _ _ h) (fun _ _ _=>rfl) (ae _) rfl rfl ⟨rfl,Dr.le (ae _)⟩ (fun blk base e=>by rw[aq]at e;cases e) trivial
   (fun s=>(⟨by simp,by simp,.inl ⟨aq _ _ _,rfl⟩⟩:bk _ _ _ _ _ _ _))
  have ga:(st++[some Ob.resv]).set st.length (some (.arr 0 i0.size i0.bytes []))=st++[some (.arr 0 i0.size i0.bytes [])]:=by grind
  rw[ga]at h;refine⟨_,.ref false st.length 0 0 0,_,_,he,⟨rfl,rfl⟩,h.1,k2.trans h.2,?_⟩;refine .ref _ false st.length 0 0 0 ⟨_,_,_,rfl⟩ B5 B5 (fun g' n b es e=>li _) (fun n' b es' e=>?_);exact⟨_,_,rfl,ae _,by simp,fun hf=>(by cases hf),.inl rfl⟩
 ·refine(Go.Proofs.Any8.slices_Grow_grow AM i0 z hi0 hz0 hs0 none 0 0 n [] w M M (by rw[dq];unfold top at hn;exact hn) M B5 (fun _=>rfl) (fun a ha=>by cases ha)).mono fun e w' ⟨he,hw⟩=>?_;have⟨k1,k2⟩:=IB hs;have hq:(st++[some Ob.resv])[st.length]? =some (some .resv):=by simp
  have step:Step w (upd μ st.length none) (st++[some .resv]) w.drew (upd μ st.length none) (st++[some .resv]):=⟨ae _,rfl,rfl,⟨rfl,Dr.le (mi _)⟩,fun _ _ _=>rfl,fun _ h=>.inl h,ae _,fun _ ob' _ h=>⟨ob',h,by
   cases ob' with
   |arr g n b es=>exact⟨ae _,fun _=>⟨rfl,rfl,rfl,rfl,fun blk base c ty _ hh=>⟨c,hh,rfl⟩⟩⟩
   |mps=>exact⟨rfl,rfl⟩
   |T9=>exact⟨rfl,rfl,rfl⟩
   |V0=>rfl
   |resv=>trivial⟩⟩
  have mq:J0 w.drew (upd μ st.length none) (st++[some .resv]):=⟨fun o ob h=>(k1.obj o ob h).step step (fun _ _ _=>rfl),k1.inj⟩;have h:=rF (w:=w.drew) (x:=.cells ((#[]:Array Value)++gp z.cells (0+n-0)++gp z.cells (grownCap w (0+n) 0 (ρ.t 25)-(0+n))) (ρ.t 25)) (ob:=.arr 0 i0.size i0.bytes []) mq hq
   (fun s=>Ak (fun a b ha hb'=>absurd ha (co _)) B5 (fun e he=>by cases he) B5 s)
  have ga:(st++[some Ob.resv]).set st.length (some (.arr 0 i0.size i0.bytes []))=st++[some (.arr 0 i0.size i0.bytes [])]:=by grind
  rw[ga]at h;subst hw;refine⟨_,.ref false st.length 0 0 0,_,_,he,⟨rfl,rfl⟩,h.1,(k2.trans step).trans h.2,?_⟩;refine .ref _ false st.length 0 0 0 ⟨_,_,_,rfl⟩ B5 B5 (fun g' n b es e=>li _) (fun n' b es' e=>?_);have e:some (some (Ob.arr 0 i0.size i0.bytes []))=some (some (Ob.arr 0 n' b es')):=by rw[<-e];simp
  cases e;refine⟨_,_,rfl,li _,by simp,fun hf=>(by cases hf),.inr ⟨w.heap.size,0,by rw[aq];rfl,by simp,_,ρ.t 25,heap_alloc_new _ _,?_⟩⟩;have hzc:∀m,(gp z.cells m).size=m*z.cells.size:=fun m=>by simp[gp]
  have hge:=grownCap_ge w (0+n) 0 (ρ.t 25);rw[lL,lL,hzc,hzc,hzs];simp only[nc,List.length_nil,dq,Nat.sub_zero]at*
  rw[<-fk];refine Nat.le_of_eq ?_;congr 1;omega
end Go.Am
namespace Go.Am
open Go Go.Sort Go.Shelf
open Go.Proofs (encStr PredAt PredOver FnGives OneCell)
def flt(p:J->Bool)(l:List J):List J:=l.filter fun x=> !p x
def fu(p:J->Bool)(l:List J):List J:=flt p l++be (l.length-(flt p l).length) []
theorem d2t(p:J->Bool)(l:List J):(flt p l).length<=l.length:=List.length_filter_le _ _
theorem Rv(p:J->Bool)(l:List J):(fu p l).length=l.length:=by have:=d2t p l;unfold fu;simp only[aa,oj];omega
section
variable {P:Program} {G:Gl}
theorem i4F{vs:Array Value}(h:vs.size=2):∃a b,vs= #[a,b]:=by
 refine⟨vs[0],vs[1],?_⟩;apply tt
 ·simpa using h
 ·grind
theorem i4G{base:Nat}{d z:List J}{c:Array Value}(hz:∀j (h:j<z.length),c[base+(d.length+j)]? =some (.string (bs z[j]))):putCells encStr base (d++z).toArray c=putCells encStr base d.toArray c:=by
 unfold putCells;apply tt
 ·simp
 ·intro k U X;simp only[Array.getElem_mapIdx,nc,aa];by_cases h3:base<=k/\k<base+d.length
  ·grind
  ·rw[if_neg h3];by_cases h4:base<=k/\k<base+(d.length+z.length)
   ·rw[if_pos h4];have L:k-base-d.length<z.length:=by omega
    have e:=hz (k-base-d.length) L;rw[show base+(d.length+(k-base-d.length))=k by omega]at e;have S:k<c.size:=by simpa using U
    rw[dv S]at e;have e:=dj e;rw[e];have h5:d.length<=k-base:=by omega
    simp[py h5,show k-base<d.length+z.length by omega,bs]
   ·rw[if_neg h4]
theorem i4H{w:World}{blk base q:Nat}{d z:List J}{c:Array Value}{ty:TypeId}{fz:Nat×Nat}(hh:w.heap[blk]? =some (.cells c ty fz))(hz:∀j (h:j<z.length),c[base+(d.length+j)]? =some (.string (bs z[j]))):
 putRow encStr (ll w q) blk base (d++z).toArray=putRow encStr (ll w q) blk base d.toArray:=by
 have e:∀f g:Array Value->Array Value,f c=g c->w.heap.modify blk (onCells f)=w.heap.modify blk (onCells g):=fun f g h=>by
  apply Array.ext_getElem?;intro i;rw[gw,gw];by_cases ei:blk=i
  ·subst ei;rw[if_pos rfl,if_pos rfl,hh];simp only[kx,onCells,h]
  ·rw[if_neg ei,if_neg ei]
 unfold putRow mapBlock
 have:=e _ _ (i4G (base:=base) hz)
 simp only[ll]at this⊢
 rw[this]
theorem i4I{ρ:Ren}(AM:Go.Proofs.SlLaysH.n10 P ρ)(a:Option Addr)(c:Nat)(fv:Value)(w:World):
 Calls P (ρ.f 10) #[.slice a 0 c,fv] w fun e w'=>e= .returned (.slice a 0 c)/\w'=w:=by
 have mixed:=AM.mixed;have t0:=AM.t0;have a0:=AM.a0;have z0:=AM.z0;have v0:=AM.v0;have t3:=AM.t3;have a3:=AM.a3;have z3:=AM.z3;have v3:=AM.v3;have t4:=AM.t4;have a4:=AM.a4;have z4:=AM.z4;have v4:=AM.v4;have t22:=AM.t22;have a22:=AM.a22;have z22:=AM.z22;have v22:=AM.v22;have a23:=AM.a23;have z23:=AM.z23;have t25:=AM.t25;have a25:=AM.a25;have z25:=AM.z25;have v25:=AM.v25
 have e6:∀args w,(callFunc (ρ.f 6) args).run P w= .ok (.enter (ρ.f 6) args) w:=AM.f6.enters rfl
 have⟨_,_,FG⟩:=AM.f10
 go_enter FG,Go.Proofs.SlBodyH.n10_ntmps ρ
 go_wp2_with (go_at_fn (ρ.f 6);refine(Go.Proofs.AnyE.slices_IndexFunc_empty { AM with } a c fv _).mono ?_;rintro e w' ⟨rfl,rfl⟩)
 go_ret
 exact⟨rfl,rfl⟩
theorem i4J{ρ:Ren}{o gen:Nat}{full:Bool}{st:St}{l z:List J}{g:FuncId}{caps:List D}{p:J->Bool}(AM:Go.Proofs.SlLaysH.n10 P ρ)(H:iZ P (ρ.f 10)=true)(v23:∀w,(zeroValue (ρ.t 23)).run P w= .ok (.string (bs [])) w)
 (eg:∀args w,(callFunc g args).run P w= .ok (.enter g args) w)
 (hlk:look st o=some (.arr gen 1 16 (rows B2 (l++z)))) (hl:l.length<=9223372036854775807)
 (hp:∀(w:World)(μ:Mu)(lb:Array Value)(blk base:Nat),J0 w μ st->Glob G w μ st->μ o=some (blk,base)->(∀j (h:j<caps.length),VR w μ st (lb.getD j undef) (caps[j]))->lb.size=caps.length->PredAt P g lb encStr p w/\PredOver P g lb encStr p blk base l.length w):
 Am.Spec P G (ρ.f 10) [.ref full o gen 0 l.length,.fn g [] caps] st (fun d st'=>d= .ref false o gen 0 (flt p l).length/\st'=C2 st [(o,.arr gen 1 16 (rows B2 (fu p l++z)))]):=by
 refine⟨trivial,fun w μ vs hs hG hn Q=>.inl ⟨H,?_⟩⟩
 have h0:=Q 0 B5
 have U:=Q 1 B5
 obtain⟨v0,v1,rfl⟩:=i4F (show vs.size=2 by simpa using hn)
 have h0:VR w μ st v0 (.ref full o gen 0 l.length):=h0
 have U:VR w μ st v1 (.fn g [] caps):=U
 have hst:st[o]? =some (some (.arr gen 1 16 (rows B2 (l++z)))):=V7 hlk
 have ho:o<st.length:=E2 hlk
 cases h0 with
 |tr h=>cases h
 |ref _ _ _ _ _ _ _ _ _ _ hr=>
  obtain⟨a,cap,rfl,c1,c2,_,c4⟩:=hr 1 16 (rows B2 (l++z)) hst;by_cases H6:l=[]
  ·subst H6;refine(i4I AM a cap v1 w).mono fun e w' ⟨iC,nR⟩=>?_;subst nR;refine⟨_,.ref false o gen 0 0,st,μ,iC,⟨rfl,?_⟩,hs,Step.refl _ _ _,.ref _ _ _ _ _ _ ⟨_,_,_,rfl⟩ ho (by rw[hst];simp) (fun g' n b es h=>by rw[hst]at h;cases h;exact ae _) (fun n b es h=>?_)⟩
   ·show st=C2 st [(o,.arr gen 1 16 (rows B2 ([]++z)))];rw[lu (by simp[hlk])]
   ·have⟨a2,i4A,e3,d1,d2,_,d4⟩:=hr n b es h;cases e3;exact⟨_,_,rfl,d1,d2,(fun hf=>by cases hf),d4⟩
  ·have hlen:0<l.length:=km.2 H6;obtain⟨blk,base,hm,rfl,c,ty,aJ,hsz⟩:=c4.resolve_left M;have⟨hH,hblk⟩:=Rt hs hst hm;rw[tp,ky]at*
   have hH':Holds encStr w blk base l.toArray:=fun j L=>by
    have hj':j<l.length:=by simpa using L
    have:=hH j (by simp;omega);have e:(l++z).toArray[j]! =l.toArray[j]! :=by grind
    rw[e]at this;exact this
   have hz:∀j (h:j<z.length),c[base+((fu p l).length+j)]? =some (.string (bs z[j])):=fun j L=>by have:=(hH (l.length+j) (by simp;omega)).1;unfold l7 at this;simp only[aJ]at this;rw[Rv];simpa[L,py,bs]using this
   cases U with
   |tr h=>cases h
   |fn _ vf lb _ _ hf K _ T4=>
    obtain rfl:vf= #[]:=Array.size_eq_zero_iff.1 (by simpa using hf);have⟨hp1,hp2⟩:=hp w μ lb blk base hs hG hm T4 K;refine(Go.Proofs.AnyE.slices_DeleteFunc AM encStr (fun _=>rfl) p g lb eg [] v23 blk base cap l.toArray w hp1 (by simpa using hp2) hH' (by simpa using hl) (by simpa using c1)).mono fun e w' ⟨iC,m,hw⟩=>?_;have ef:(l.toArray.toList.filter fun x=> !p x)=flt p l:=rfl;have em:((l.toArray.toList.filter fun x=> !p x)++be (l.toArray.size-(l.toArray.toList.filter fun x=> !p x).length) ([]:J)).toArray=(fu p l).toArray:=by rw[ef,nc];rfl
    rw[em, <-i4H aJ hz]at hw;rw[ef]at iC;have key:=Rs (q:=m) (os:= #[]) hs hst hm (show(fu p l++z).length=(l++z).length by rw[aa,aa,Rv]);rw[grow_empty]at key;have hcl:=d2t p l;subst hw;refine⟨_,.ref false o gen 0 (flt p l).length,_,μ,iC,⟨rfl,rfl⟩,key.1,key.2,?_⟩;show VR _ μ (st.set o (some (.arr gen 1 16 (rows B2 (fu p l++z))))) _ _;have ga:(st.set o (some (.arr gen 1 16 (rows B2 (fu p l++z)))))[o]? =some (some (.arr gen 1 16 (rows B2 (fu p l++z)))):=by simp[ho]
    refine .ref _ _ _ _ _ _ ⟨_,_,_,rfl⟩ (by simpa using ho) (by rw[ga];simp) (fun g' n b es h=>by rw[ga]at h;cases h;exact ae _) (fun n b es h=>?_);rw[ga]at h;cases h;have Ru:(putRow encStr (ll w m) blk base (fu p l++z).toArray).heap[blk]? =some (.cells (putCells encStr base (fu p l++z).toArray c) ty (0,0)):=by have:=@Bo w blk base m (fu p l++z).toArray #[];rw[grow_empty]at this;rw[this,zg,gw,if_pos rfl,aJ];rfl
    exact⟨_,_,rfl,js hcl c1,by rw[av,aa,Rv];omega,(fun hf=>by cases hf),.inr ⟨blk,base,hm,by simp,_,ty,Ru,by simpa[putCells]using hsz⟩⟩
end
end Go.Am
namespace Go.Am
open Go
def Z{α:Type}(x:Nat->Option α)(P:α->Prop):Prop:=∃r,P r/\∃N,∀n,N<=n->x n=some r
section
variable {α β ρ σ τ:Type} {P:α->Prop} {BE:β->Prop}
theorem Z.mono{x:Nat->Option α}{P':α->Prop}(h:Z x P)(hp:∀r,P r->P' r):Z x P':=by have⟨r,hr,N,hN⟩:=h;exact⟨r,hp r hr,N,hN⟩
theorem Z.pure{r:α}(h:P r):Z (fun _=>some r) P:=⟨r,h,0,fun _ _=>rfl⟩
theorem Z.of{x:Option α}{r:α}(e:x=some r)(h:P r):Z (fun _=>x) P:=⟨r,h,0,fun _ _=>e⟩
theorem Z.succ{x:Nat->Option α}(h:Z (fun n=>x (n+1)) P):Z x P:=by have⟨r,hr,N,hN⟩:=h;refine⟨r,hr,N+1,fun n hn=>?_⟩;obtain⟨m,rfl⟩:∃m,n=m+1:=⟨n-1,by omega⟩;exact hN m M
theorem Z.bind{x:Nat->Option α}{f:Nat->α->Option β}(h:Z x P)(hf:∀r,P r->Z (fun n=>f n r) BE):Z (fun n=>(x n).bind (f n)) BE:=by have⟨r,hr,N,hN⟩:=h;have⟨s,hs,yb,hM⟩:=hf r hr;exact⟨s,hs,max N yb,fun n hn=>by show(x n).bind (f n)=_;rw[hN n M];exact hM n M⟩
theorem Z.w6{p:Prop}[Decidable p]{x:Nat->Option α}(hp:p)(h:Z x P):Z (fun n=>w6 p (x n)) P:=by have⟨r,hr,N,hN⟩:=h;exact⟨r,hr,N,fun n hn=>by show Am.w6 p (x n)=_;unfold Am.w6;rw[if_pos hp];exact hN n hn⟩
theorem Z.B9{a:α}{f:Nat->α->Option β}(h:Z (fun n=>f n a) BE):Z (fun n=>B9 a (f n)) BE:=h
theorem Z.cond{b:Bool}{x y:Nat->Option α}(U:b=true->Z x P)(X:b=false->Z y P):Z (fun n=>bif b then x n else y n) P:=by
 cases b
 ·exact X rfl
 ·exact U rfl
theorem Z.gd{G:Bool}{x:Nat->Option α}{d:α}(U:G=true->Z x P)(X:G=false->P d):Z (fun n=>gd G (x n) d) P:=by
 cases G
 ·exact Z.pure (X rfl)
 ·exact U rfl
theorem Z.B3{x:Nat->Option (Ex ρ τ)}{k:Nat->τ->Option ρ}{P:Ex ρ τ->Prop}{BE:ρ->Prop}(h:Z x P)(hn:∀t,P (.B7 t)->Z (fun n=>k n t) BE)(hr:∀r,P (.ret r)->BE r):
 Z (fun n=>B3 (x n) (k n)) BE:=by
 have⟨e,he,N,hN⟩:=h
 cases e with
 |B7 t=>have⟨s,hs,yb,hM⟩:=hn t he;exact⟨s,hs,max N yb,fun n hn=>by simp only[hN n M,Am.B3];exact hM n M⟩
 |ret r=>exact⟨r,hr r he,N,fun n hn=>by simp only[hN n hn,Am.B3]⟩
def cU(tl:σ->Prop)(AD:τ->Prop)(R:ρ->Prop):C1 ρ σ τ->Prop
 | .B7 s=>tl s
 | .brk t=>AD t
 | .ret x=>R x
def L2(AD:τ->Prop)(R:ρ->Prop):Ex ρ τ->Prop
 | .B7 t=>AD t
 | .ret x=>R x
theorem Z.range{body:Nat->Nat->σ->Option (C1 ρ σ σ)}{m:Nat}{Y:σ}(tl:Nat->σ->Prop)(AD:σ->Prop)(R:ρ->Prop)(h0:tl 0 Y)
 (hs:∀k s,k<m->tl k s->Z (fun n=>body n k s) (cU (tl (k+1)) AD R)):
 Z (fun n=>K6 (body n) m Y) (L2 (fun s=>tl m s\/AD s) R):=by
 unfold K6
 have key:∀j k s,k+j=m->tl k s->Z (fun n=>mJ (body n) j k s) (L2 (fun s=>tl m s\/AD s) R):=by
  intro j;induction j with
  |zero=>
   intro k s e u;have:k=m:=by omega
   subst this;exact Z.pure (.inl u)
  |succ j ih=>
   intro k s e u;have⟨c,K,N,hN⟩:=hs k s M u;cases c with
   |B7 s'=>have⟨r,hr,yb,hM⟩:=ih (k+1) s' M K;exact⟨r,hr,max N yb,fun n hn=>by simp only[mJ,hN n M];exact hM n M⟩
   |brk t=>exact⟨.B7 t,.inr K,N,fun n hn=>by simp only[mJ,hN n hn]⟩
   |ret x=>exact⟨.ret x,K,N,fun n hn=>by simp only[mJ,hN n hn]⟩
 exact key m 0 Y M h0
theorem Z.loop{body:Nat->σ->Option (C1 ρ σ τ)}{Y:σ}(mu:σ->Nat)(tl:σ->Prop)(AD:τ->Prop)(R:ρ->Prop)(h0:tl Y)
 (hs:∀s,tl s->Z (fun n=>body n s) (cU (fun s'=>tl s'/\mu s'<mu s) AD R)):
 Z (fun n=>D9 (body n) n Y) (L2 AD R):=by
 have key:∀d s,mu s<=d->tl s->∃e,L2 AD R e/\∃N,∀n,N<=n->∀f,d<f->D9 (body n) f s=some e:=by
  intro d;induction d with
  |zero=>
   intro s hd u;have⟨c,K,N,hN⟩:=hs s u;cases c with
   |B7 s'=>exact absurd K.2 M
   |brk t=>refine⟨.B7 t,K,N,fun n hn f hf=>?_⟩;obtain⟨g,rfl⟩:∃g,f=g+1:=⟨f-1,by omega⟩;simp only[D9,hN n hn]
   |ret x=>refine⟨.ret x,K,N,fun n hn f hf=>?_⟩;obtain⟨g,rfl⟩:∃g,f=g+1:=⟨f-1,by omega⟩;simp only[D9,hN n hn]
  |succ d ih=>
   intro s hd u;have⟨c,K,N,hN⟩:=hs s u;cases c with
   |B7 s'=>have⟨e,he,yb,hM⟩:=ih s' (by have:=K.2;omega) K.1;refine⟨e,he,max N yb,fun n hn f hf=>?_⟩;obtain⟨g,rfl⟩:∃g,f=g+1:=⟨f-1,by omega⟩;simp only[D9,hN n M];exact hM n M g M
   |brk t=>refine⟨.B7 t,K,N,fun n hn f hf=>?_⟩;obtain⟨g,rfl⟩:∃g,f=g+1:=⟨f-1,by omega⟩;simp only[D9,hN n hn]
   |ret x=>refine⟨.ret x,K,N,fun n hn f hf=>?_⟩;obtain⟨g,rfl⟩:∃g,f=g+1:=⟨f-1,by omega⟩;simp only[D9,hN n hn]
 have⟨e,he,N,hN⟩:=key (mu Y) Y (ae _) h0
 exact⟨e,he,max N (mu Y+1),fun n hn=>hN n M n M⟩
end
end Go.Am
namespace Go.Am
open Go Go.MapKept Go.ChangeMaps
variable {a:Act} {d i:Nat} {v:Value}
theorem R4{t:Nat}(h:d<a.tmps.size):(a.put (some d) v).tmps.getD t undef=if t=d then v else a.tmps.getD t undef:=by
 simp only[Act.put,ca, ln];by_cases e:d=t
 ·subst e;simp[h]
 ·grind
theorem P1:(a.put (some d) v).tmps.size=a.tmps.size:=by simp[Act.put]
theorem put_defers:(a.put (some d) v).defers=a.defers:=rfl
theorem iD{P:Program}{ops:Array Oper}{BE:Exit->Act->World->Prop}{i:Nat}{rest:List Nat}{dst:Option Nat}{op:Op}{ty:Nat}{pos:String}{after:Array Edge}{a:Act}{w w':World}{v:Value}(ho:ops[i]? =some ⟨dst,op,ty,pos,after,none⟩)(hr:(execOp a.eval ⟨dst,op,ty,pos,after,none⟩).run P w= .ok (.value v) w')(S:wpOps P ops BE rest (a.put dst v) w'):wpOps P ops BE (i::rest) a w:=by rw[wpOps_cons];simp only[wpOp,ho];have:Region.wanted ⟨dst,op,ty,pos,after,none⟩ (yielded ops a.tmps)=true:=rfl;rw[this];simp only[if_true];left;unfold Oper.wp;rw[hr];exact S
theorem i4L{P:Program}{ops:Array Oper}{BE:Exit->Act->World->Prop}{i:Nat}{rest:List Nat}{op:Op}{ty:Nat}{pos:String}{after:Array Edge}{a:Act}{w w':World}(ho:ops[i]? =some ⟨none,op,ty,pos,after,none⟩)(hr:(execOp a.eval ⟨none,op,ty,pos,after,none⟩).run P w= .ok .skip w')(S:wpOps P ops BE rest a w'):wpOps P ops BE (i::rest) a w:=by rw[wpOps_cons];simp only[wpOp,ho];have:Region.wanted ⟨none,op,ty,pos,after,none⟩ (yielded ops a.tmps)=true:=rfl;rw[this];simp only[if_true];left;unfold Oper.wp;rw[hr];exact S
theorem Rw:∀(n:Nat)(l:List Nat),l.Nodup->(∀x∈l,x<n)->l.length<=n
 |0,l,_,h=>by
  cases l with
  |nil=>exact ae _
  |cons x l=>exact absurd (h x (az ..)) (co _)
 |n+1,l,hn,h=>by
  by_cases hm:n∈l
  ·have U:=Rw n (l.erase n) (hn.erase n) fun x A=>by grind
   rw[List.length_erase_of_mem hm]at U;omega
  ·have:=Rw n l hn fun x A=>by grind
   omega
structure vg(a0:Act)(w:World)(N b tI tk tv bm bi:Nat)(ents:Array MapEntry)(clock:Nat)(a:Act)(w':World)(vis:List Nat):Prop where
 nd:vis.Nodup
 lt:∀i∈vis,i<ents.size
 size:w'.heap.size=w.heap.size+1
 it:w'.heap[w.heap.size]? =some (.mapIter (some bm) clock vis.toArray clock)
 inn:∃inn:Array MapEntry,w'.heap[bi]? =some (.map inn vis.length)/\inn.size=vis.length/\∀j (L:j<vis.length),∃e e0:MapEntry,inn[j]? =some e/\ents[vis[j]]? =some e0/\e.key=e0.key/\e.val=e0.val/\e.born=j
 heap:∀blk,blk<w.heap.size->blk≠bi->w'.heap[blk]? =w.heap[blk]?
 os:w'.os=w.os
 output:w'.output=w.output
 tape:w'.tape=w.tape/\Dr w w'
 qM:a.tmps.size=N
 dfr:a.defers=[]
 inner:a.tmps.getD tI undef= .map (some bi)
 iter:a.tmps.getD (b+1) undef= .pointer (some ⟨w.heap.size,0,none⟩)
 rest:∀t,t<b->t≠tk->t≠tv->a.tmps.getD t undef=a0.tmps.getD t undef
theorem i4M{P:Program}{t kt et:TypeId}{w:World}{blk clock:Nat}{ents:Array MapEntry}{k:J}{v:Value}{ks:List (J×List D)}
 (hu:P.underlying t=some (.map kt et)) (jB:P.underlying kt=some .string) (hh:w.heap[blk]? =some (.map ents clock)) (hsz:ents.size=ks.length)
 (K:∀i (u:i<ks.length),∃e,ents[i]? =some e/\e.key= .string (bs (ks[i]).1)) (hn:assoc k ks=none):
 (mf t (.map (some blk)) (.string (bs k)) v).run P w= .ok () (setBlock w blk (.map (ents.push { key:=.string (bs k),val:=v,born:=clock }) (clock+1))):=by
 have hck:=fun e=>run_checkKey (P:=P) (w:=w) (d:=.string) (k:=.string (bs k)) jB trivial e 9999
 rcases IW (key:=fun k=>.string (bs k)) Pz k ents.toList ks 0 (by simpa using hsz) (fun j L=>by have⟨e,U,X⟩:=K j L;exact⟨e,by simpa using U,X⟩)with⟨U,X,h3⟩|⟨j,cs0,e,U,_⟩
 ·have hf:=run_findKey (P:=P) (w:=w) jB X;simp[mf,run_underlying hu,MapKept.run_getObj_map hh,hck,hf,run_setObj_map _ hh,setBlock]
 ·rw[hn]at U;cases U
section
variable {P:Program} {N b tI tk tv bm bi:Nat} {ents:Array MapEntry} {clock:Nat} {a0 a:Act} {w w':World} {vis:List Nat} {t kt et:TypeId} {ks:List (J×List D)}
theorem vg.left(H:∀(i:Nat)(e:MapEntry),ents[i]? =some e->e.born=i){e:MapEntry}(h:e∈(leftOf ents vis.toArray).toList):∃i,i<ents.size/\ents[i]? =some e/\i∉vis:=by
 unfold leftOf at h;simp only[Array.toList_filter,List.mem_filter,Array.mem_toList_iff,l5]at h;have⟨U,X⟩:=h;have⟨i,u,he⟩:=Array.getElem_of_mem U;have h3:ents[i]? =some e:=by grind
 refine⟨i,u,h3,fun Q=>?_⟩;have h4:=H i e h3;rw[h4]at X;simp[Q]at X
theorem vg.all(H:∀(i:Nat)(e:MapEntry),ents[i]? =some e->e.born=i)(h:(leftOf ents vis.toArray).size=0)(i:Nat)(u:i<ents.size):i∈vis:=by
 refine Classical.byContradiction fun hn=>?_;have hm:ents[i]∈leftOf ents vis.toArray:=by unfold leftOf;rw[Array.mem_filter];refine⟨Array.getElem_mem u,?_⟩;rw[H i _ (dv u)];simp[hn]
 have:=Array.size_pos_of_mem hm;omega
theorem vg.more(h:vg a0 w N b tI tk tv bm bi ents clock a w' vis)(hu:P.underlying t=some (.map kt et))(jB:P.underlying kt=some .string)(_:bi≠bm)(_:bm<w.heap.size)(Ry:bi<w.heap.size)
 (hsz:ents.size=ks.length) (S:∀i (u:i<ks.length),∃e,ents[i]? =some e/\e.key= .string (bs (ks[i]).1)) (hnd:(ks.map (·.1)).Nodup)  (u:i<ents.size) (Q:i∉vis) {e:MapEntry} (he:ents[i]? =some e)
 {w1:World} (hw1:w1=w'\/w1=w'.drew) {k:J} (hkk:k=(ks[i]'(hsz▸u)).1):
 ∃w2,(mf t (.map (some bi)) e.key e.val).run P (setBlock w1 w.heap.size (.mapIter (some bm) clock (vis.toArray.push i) clock))= .ok () w2/\
  ∀a',a'.tmps.size=N->a'.defers=[]->a'.tmps.getD tI undef= .map (some bi)->a'.tmps.getD (b+1) undef= .pointer (some ⟨w.heap.size,0,none⟩)->(∀t,t<b->t≠tk->t≠tv->a'.tmps.getD t undef=a0.tmps.getD t undef)->
   vg a0 w N b tI tk tv bm bi ents clock a' w2 (vis++[i]):=by
 have⟨inn,i1,i2,i3⟩:=h.inn
 have hkey:∀j (L:j<ks.length) e,ents[j]? =some e->e.key= .string (bs (ks[j]).1):=fun j L e he=>by grind
 have JV:w1.heap=w'.heap/\w1.os=w'.os/\w1.output=w'.output/\w1.tape=w'.tape/\Dr w' w1:=by
  rcases hw1 with rfl|rfl
  ·exact⟨rfl,rfl,rfl,rfl,Dr.le (ae _)⟩
  ·exact⟨rfl,rfl,rfl,rfl,Dr.le (by show w'.drawn<=w'.drawn+1;omega)⟩
 have⟨q1,q2,q3,q4,q5⟩:=JV
 have hbr:bi≠w.heap.size:=by omega
 generalize hW:setBlock w1 w.heap.size (.mapIter (some bm) clock (vis.toArray.push i) clock)=BB
 have hWh:∀j,BB.heap[j]? =if j=w.heap.size then some (.mapIter (some bm) clock (vis.toArray.push i) clock)else w'.heap[j]? :=fun j=>by
  subst hW;simp only[setBlock,q1,ln];by_cases ej:w.heap.size=j
  ·subst ej;simp[h.size]
  ·grind
 have hWs:BB.heap.size=w'.heap.size:=by subst hW;simp[setBlock,q1]
 have hWi:BB.heap[bi]? =some (.map inn vis.length):=by rw[hWh,if_neg hbr];exact i1
 have hin:∀j (L:j<vis.length),vis[j]<ks.length:=fun j L=>hsz▸h.lt _ (bt L)
 let kv:List (J×List D):=vis.map fun j=>((ks.getD j ([],[])).1,[])
 have hkl:inn.size=kv.length:=by simp[kv,i2]
 have oW:∀j (L:j<kv.length) (hj':j<vis.length),kv[j].1=(ks[vis[j]]'(hin j hj')).1:=fun j L hj'=>by grind
 have hno:assoc k kv=none:=by
  cases ha:assoc k kv with
  |none=>rfl
  |some v=>
   exfalso;have:∃j,j∈vis/\(ks.getD j ([],[])).1=k:=by
    have key:∀l:List Nat,assoc k (l.map fun j=>((ks.getD j ([],[])).1,([]:List D)))=some v->∃j,j∈l/\(ks.getD j ([],[])).1=k:=by
     intro l;induction l with
     |nil=>intro h;cases h
     |cons x l ih=>
      intro h;rw[bv]at h;simp only[assoc]at h;split at h
      ·grind
      ·grind
    exact key vis ha
   have⟨j,j1,j2⟩:=this;have L:=h.lt j j1;have hij:j=i:=by
    have hj':j<ks.length:=hsz▸L;have hi':i<ks.length:=hsz▸u;have e2:(ks.map (·.1))[j]'(by simpa using hj')=(ks.map (·.1))[i]'(by simpa using hi'):=by grind
    exact(List.getElem_inj hnd).1 e2
   exact Q (hij▸j1)
 have hrun:=i4M (P:=P) (w:=BB) (k:=k) (v:=e.val) (ks:=kv) hu jB hWi hkl (fun j L=>by
  have hj':j<vis.length:=by simpa[kv]using L
  have⟨e1,e0,I,a2,a3,a4,a5⟩:=i3 j hj';refine⟨e1,I,?_⟩;rw[a3,hkey _ (hin j hj') e0 a2,oW j L hj']) hno
 have hek:e.key= .string (bs k):=by grind
 rw[hek]
 refine⟨_,hrun,fun a' g1 g2 g3 g4 g5=>?_⟩
 have hlen:(vis++[i]).length=vis.length+1:=by simp
 have d2w:∀j,(setBlock BB bi (.map (inn.push { key:=.string (bs k),val:=e.val,born:=vis.length }) (vis.length+1))).heap[j]? =if j=bi then some (.map (inn.push { key:=.string (bs k),val:=e.val,born:=vis.length }) (vis.length+1))else BB.heap[j]? :=fun j=>by
  simp only[setBlock,ln];by_cases ej:bi=j
  ·grind
  ·grind
 refine⟨?_,?_,?_,?_,⟨inn.push { key:=.string (bs k),val:=e.val,born:=vis.length },?_,?_,?_⟩,?_,?_,?_,?_,g1,g2,g3,g4,g5⟩
 ·rw[List.nodup_append];exact⟨h.nd,by simp,fun x A y hy=>by rw[List.mem_singleton]at hy;subst hy;exact fun e=>Q (e▸A)⟩
 ·intro j L;rcases List.mem_append.1 L with L|L
  ·exact h.lt j L
  ·grind
 ·show(setBlock BB bi _).heap.size=_;simp only[setBlock,Array.size_setIfInBounds];rw[hWs,h.size]
 ·grind
 ·rw[d2w,if_pos rfl,hlen]
 ·rw[Array.size_push,i2,hlen]
 ·grind
 ·intro blk H Bp;rw[d2w,if_neg Bp,hWh,if_neg M];exact h.heap blk H Bp
 ·subst hW;exact q2.trans h.os
 ·subst hW;exact q3.trans h.output
 ·subst hW;exact⟨q4.trans h.tape.1,h.tape.2.trans q5⟩
end
section
variable {P:Program} {gl:Gl} {N n0:Nat} {keep:List Nat} {BE:AQ} {fr B':Fr} {st:St}
def JW(b tI tE tk tv iE id2 id3 i1 i2 i3 i4:Nat)(y:Nat->Nat)(p:Nat->String)(g:Nat->Array Edge):Code:=
 .seq (.region i1 #[⟨some b,.move (.tmp tE),y 0,p 0,g 0,none⟩,⟨some (b+1),.range iE (.tmp b),y 1,p 1,g 1,none⟩] false)
  (.block id2 (.loop (.seq (.region i2 #[⟨some (b+2),.next (.tmp (b+1)) false,y 2,p 2,g 2,none⟩,⟨some (b+3),.extract (.tmp (b+2)) 0,y 3,p 3,g 3,none⟩] false)
   (.seq (.cond (.tmp (b+3)) .skip (.exit id2))
    (.block id3 (.seq (.region i3 #[⟨some (b+4),.entry (.tmp (b+1)),y 4,p 4,g 4,none⟩,⟨some (b+5),.extract (.tmp (b+4)) 0,y 5,p 5,g 5,none⟩,⟨some (b+6),.extract (.tmp (b+4)) 1,y 6,p 6,g 6,none⟩,⟨some tk,.assign (.tmp (b+5)),y 7,p 7,g 7,none⟩,⟨some tv,.assign (.tmp (b+6)),y 8,p 8,g 8,none⟩] false)
     (.region i4 #[⟨some (b+7),.move (.tmp tI),y 9,p 9,g 9,none⟩,⟨some (b+8),.move (.tmp tk),y 10,p 10,g 10,none⟩,⟨some (b+9),.move (.tmp tv),y 11,p 11,g 11,none⟩,⟨none,.mapUpdate iE (.tmp (b+7)) (.tmp (b+8)) (.tmp (b+9)),y 12,p 12,g 12,none⟩] false)))))))
theorem i4P{b tI tE tk tv iE kt et id2 id3 i1 i2 i3 i4 oi oe:Nat}{y:Nat->Nat}{p:Nat->String}{g:Nat->Array Edge}{ag:Bool}{es:List (J×List D)}
 (hu:P.underlying iE=some (.map kt et)) (jB:P.underlying kt=some .string) (hN:b+10<=N) (hI:tI<b) (hE:tE<b) (S:tk<b) (Q:tv<b) (n1:tI≠tk) (n2:tI≠tv) (n3:tk≠tv) (_:id2≠id3)
 (fI:fr.get tI= .mp oi) (fE:fr.get tE= .mp oe) (lI:look st oi=some (.mps ag [])) (lE:look st oe=some (.mps ag es)) (hne:oi≠oe)
 (hF:∀t,B'.get t= .any\/(B'.get t=fr.get t/\t<b/\t≠tk/\t≠tv))
 (hQ:BE .normal B' (st.set oi (some (.mps ag es)))):
 F4 P gl N n0 keep (JW b tI tE tk tv iE id2 id3 i1 i2 i3 i4 y p g) BE fr st:=by
 intro w0 μ0 st0 H6 a0 w ⟨μ,K⟩
 have hs:=K.bU
 have Bq:=V7 lI
 have Rz:=V7 lE
 obtain⟨bi,mI,vI⟩:=(uG (by have:=K.fr tI;rw[fI]at this;exact this)).1 _ _ Bq
 obtain⟨bm,mE,vE⟩:=(uG (by have:=K.fr tE;rw[fE]at this;exact this)).1 _ _ Rz
 have hneb:bi≠bm:=fun e=>hne (hs.inj oi oe _ _ bi 0 0 Bq Rz mI (e▸mE))
 have⟨p7s,d2x,i4Q,ezI,emI,hhI,i4S,hcI,hxI⟩:=(hs.obj oi _ Bq:aW (fun k=>.string (bs k)) ag w μ st (μ oi) []).loc
 have⟨p7t,ents,clock,ez,emE,RA,d2C,hcE,oX⟩:=(hs.obj oe _ Rz:aW (fun k=>.string (bs k)) ag w μ st (μ oe) es).loc
 rw[mI]at emI;cases emI
 rw[mE]at emE;cases emE
 have i4U:ezI=[]:=hxI.perm.eq_nil
 subst i4U
 have hsI:d2x.size=0:=i4S
 have i4V:i4Q=0:=by rw[hxI.Ai,hsI]
 have Ry:bi<w.heap.size:=(dT.1 hhI).1
 have Rx:bm<w.heap.size:=(dT.1 RA).1
 have hsz:=K.size
 have i4W:(ez.map (·.1)).Nodup:=(oX.perm.map _).nodup_iff.2 oX.nd
 have hkz:∀i (u:i<ez.length),∃e,ents[i]? =some e/\e.key= .string (bs (ez[i]).1):=fun i u=>by grind
 have ev:∀(a:Act)(t:Nat),a.eval (.tmp t)=a.tmps.getD t undef:=fun _ _=>rfl
 unfold JW
 refine wp_seq (wp_region ?_)
 show wpOps P _ _ [0,1] a0 w
 refine iD (v:=.map (some bm)) rfl (by simp only[execOp];rw[ev,vE];rfl) ?_
 refine iD (v:=.pointer (some ⟨w.heap.size,0,none⟩)) (w':=w.alloc (.mapIter (some bm) clock #[] clock)) rfl ?_ ?_
 ·simp only[execOp];rw[ev,R4 (by rw[hsz];omega),if_pos rfl];have:=run_range_map (P:=P) w iE kt et bm ents clock hu RA;simp[this,ic]
 show Exit.then _ _ .normal _ _
 refine wp_block (wp_loop (fun a w'=>∃vis,vg a0 w N b tI tk tv bm bi ents clock a w' vis) (fun _ w'=>match w'.heap[w.heap.size]? with|some (.mapIter _ _ seen _)=>ents.size-seen.size| _=>0) ?_ ?_)
 ·
  refine⟨[],List.nodup_nil,fun i u=>(by cases u),?_,?_,⟨#[],?_,rfl,fun j L=>absurd L (co _)⟩,?_,rfl,rfl,⟨rfl,Dr.le (ae _)⟩,?_,?_,?_,?_,?_⟩
  ·simp
  ·exact heap_alloc_new _ _
  ·rw[heap_alloc_old w _ Ry,hhI,i4V];have:d2x= #[]:=Array.eq_empty_of_size_eq_zero hsI;rw[this];rfl
  ·intro blk U _;exact heap_alloc_old w _ U
  ·rw[P1,P1,hsz]
  ·rw[put_defers,put_defers,K.defers]
  ·rw[R4 (by rw[P1,hsz];omega),if_neg M,R4 (by rw[hsz];omega),if_neg M,vI]
  ·rw[R4 (by rw[P1,hsz];omega),if_pos rfl]
  ·intro t F _ _;rw[R4 (by rw[P1,hsz];omega),if_neg M,R4 (by rw[hsz];omega),if_neg M]
 ·rintro a w' ⟨vis,u⟩;have hmu:∀(m:Nat),(match w'.heap[w.heap.size]? with|some (.mapIter _ _ seen _)=>ents.size-seen.size| _=>m)=ents.size-vis.length:=fun m=>by rw[u.it];simp
  have d2E:w'.heap[bm]? =some (.map ents clock):=by rw[u.heap bm Rx (Ne.symm hneb)];exact RA
  have hold:∀x∈ents.toList,x.born<clock:=fun x A=>by
   obtain⟨j,L,rfl⟩:=List.getElem_of_mem A;have hj':j<ents.size:=by simpa using L
   have:=oX.born j (ents[j]'hj') (dv hj');rw[oX.Ai];simp only[rv]at*
   omega
  refine wp_seq (wp_region ?_);show wpOps P _ _ [0,1] a w';rcases run_next_at (P:=P) w' (y 2) w.heap.size bm clock clock vis.toArray ents clock u.it d2E hold (ae _)with⟨h0,hrun⟩|⟨e,he,w1,hw1,hrun⟩
  ·
   refine iD (v:=.tuple #[.bool false]) (w':=w') rfl ?_ ?_
   ·simp only[execOp];rw[ev,u.iter];simp[hrun,ic]
   refine iD (v:=.bool false) (w':=w') rfl ?_ ?_
   ·simp only[execOp];rw[ev,R4 (by rw[u.qM];omega),if_pos rfl];simp[mb]
   show Exit.then _ _ .normal _ _
   refine wp_seq (wp_cond_split (t:=false) ?_ (fun h=>by cases h) fun _=>wp_exit ?_)
   ·rw[ev,R4 (by rw[P1,u.qM];omega),if_pos rfl]
   show ta id2 _ (.exit id2) _ _
   simp only[ta,if_true]
   have⟨inn,j1,j2,j3⟩:=u.inn
   have hall:=vg.all (vis:=vis) (oX.born) h0
   have hperm:vis.Perm (ol ez.length):=by refine(List.perm_ext_iff_of_nodup u.nd List.nodup_range).2 fun x=>?_;rw[List.mem_range, <-d2C];exact⟨u.lt x,hall x⟩
   let EL:List (J×List D):=vis.map fun j=>ez.getD j ([],[])
   have jD:EL.Perm ez:=by
    have X:=hperm.map fun j=>ez.getD j (([],[]):J×List D);have h3:(ol ez.length).map (fun j=>ez.getD j (([],[]):J×List D))=ez:=by refine List.ext_getElem B5 fun n m1 m2=>?_;simp[ac,b7 m2]
    rw[h3]at X;exact X
   have⟨k1,k2⟩:=jS (w':=w') (μ':=μ) (ob':=.mps ag es) hs Bq (fun _ _=>rfl) (fun blk H hn=>u.heap blk H fun e=>hn 0 (e▸mI)) (by rw[u.size];omega) u.os u.output u.tape (fun blk base e=>.inl ⟨base,e⟩) ⟨rfl,rfl⟩ (fun s=>by
    refine(⟨⟨bi,inn,vis.length,EL,mI,j1,by simp[EL,j2],fun j L=>?_,⟨jD.trans oX.perm,oX.nd,j2.symm,fun j e he=>?_⟩⟩⟩:aW _ ag w' μ _ (μ oi) es)
    ·have hj':j<vis.length:=by simpa[EL]using L
     have⟨e1,e0,I,a2,a3,a4,a5⟩:=j3 j hj';have hvz:vis[j]<ez.length:=by grind
     have⟨e2,c1,c2,c3⟩:=hcE vis[j] hvz;rw[a2]at c1;cases c1;have hg:EL[j]=ez[vis[j]]:=by grind
     refine⟨e1,I,?_,?_⟩
     ·rw[a3,c2,hg]
     ·rw[a4,hg];exact c3.step s
    ·have hj':j<vis.length:=by grind
     have⟨e1,e0,I,a2,a3,a4,a5⟩:=j3 j hj';rw[he]at I;cases I;exact a5)
   refine⟨B',st.set oi (some (.mps ag es)),hQ,μ,k1,K.glob.step k2,fun t=>?_,?_,?_,K.step.trans k2⟩
   ·rcases hF t with e|⟨e,e2,e3,e4⟩
    ·rw[e];exact .any _
    ·rw[e,R4 (by rw[P1,u.qM];omega),if_neg M,R4 (by rw[u.qM];omega),if_neg M,u.rest t e2 e3 e4];exact(K.fr t).step k2
   ·rw[P1,P1,u.qM]
   ·rw[put_defers,put_defers,u.dfr]
  ·
   have⟨i,hi1,hi2,hi3⟩:=vg.left (vis:=vis) oX.born he
   have d2F:=oX.born i e hi2
   rw[d2F]at hrun
   have⟨w2,hup,hnew⟩:=u.more (P:=P) (t:=iE) hu jB hneb Rx Ry d2C hkz i4W hi1 hi3 hi2 hw1 rfl
   generalize hW:setBlock w1 w.heap.size (.mapIter (some bm) clock (vis.toArray.push i) clock)=BB at hrun hup
   have JV:w1.heap=w'.heap:=by rcases hw1 with rfl|rfl<;>rfl
   have hWr:BB.heap[w.heap.size]? =some (.mapIter (some bm) clock (vis.toArray.push e.born) clock):=by subst hW;rw[d2F];simp[setBlock,JV,u.size]
   have hWm:BB.heap[bm]? =some (.map ents clock):=by subst hW;simp only[setBlock,JV,ln];rw[if_neg M];exact d2E
   have hborn:(ents.toList.map (·.born)).Nodup:=by
    unfold List.Nodup;rw[pn];intro x z A hz hxz;have hx':x<ents.size:=by simpa using A
    have hz':z<ents.size:=by simpa using hz
    simp only[List.getElem_map,rv];rw[oX.born x _ (dv hx'),oX.born z _ (dv hz')];omega
   have hen:=run_entry_at (P:=P) BB w.heap.size bm clock vis.toArray ents clock e hWr hWm (by have:=(dT.1 hi2);have⟨q1,q2⟩:=this;rw[<-q2];simp) hborn
   refine iD (v:=.tuple #[.bool true,e.key,e.val]) (w':=BB) rfl ?_ ?_
   ·simp only[execOp];rw[ev,u.iter];simp[hrun,ic]
   refine iD (v:=.bool true) (w':=BB) rfl ?_ ?_
   ·simp only[execOp];rw[ev,R4 (by rw[u.qM];omega),if_pos rfl];simp[mb]
   show Exit.then _ _ .normal _ _
   refine wp_seq (wp_cond_split (t:=true) ?_ (fun _=>wp_skip ?_) fun h=>by cases h)
   ·rw[ev,R4 (by rw[P1,u.qM];omega),if_pos rfl]
   show Exit.then _ _ .normal _ _
   refine wp_block (wp_seq (wp_region ?_))
   generalize hA:(a.put (some (b+2)) (.tuple #[.bool true,e.key,e.val])).put (some (b+3)) (.bool true)=yn
   have sA:yn.tmps.size=N:=by subst hA;rw[P1,P1,u.qM]
   have dA:yn.defers=[]:=by subst hA;rw[put_defers,put_defers,u.dfr]
   have gA:∀t,t<b\/t=b+1->yn.tmps.getD t undef=a.tmps.getD t undef:=fun t F=>by subst hA;rw[R4 (by rw[P1,u.qM];omega),if_neg M,R4 (by rw[u.qM];omega),if_neg M]
   show wpOps P _ _ [0,1,2,3,4] yn BB
   refine iD (v:=.tuple #[e.key,e.val]) (w':=BB) rfl ?_ ?_
   ·simp only[execOp];rw[ev,gA _ (.inr rfl),u.iter];simp[hen,ic]
   refine iD (v:=e.key) (w':=BB) rfl ?_ ?_
   ·simp only[execOp];rw[ev,R4 (by rw[sA];omega),if_pos rfl];simp[mb]
   refine iD (v:=e.val) (w':=BB) rfl ?_ ?_
   ·simp only[execOp];rw[ev,R4 (by rw[P1,sA];omega),if_neg M,R4 (by rw[sA];omega),if_pos rfl];simp[mb]
   generalize hB:((yn.put (some (b+4)) (.tuple #[e.key,e.val])).put (some (b+5)) e.key).put (some (b+6)) e.val=AD
   have sB:AD.tmps.size=N:=by subst hB;rw[P1,P1,P1,sA]
   have dB:AD.defers=[]:=by subst hB;rw[put_defers,put_defers,put_defers,dA]
   have gB:∀t,t<b\/t=b+1->AD.tmps.getD t undef=a.tmps.getD t undef:=fun t F=>by rw[<-gA t F];subst hB;rw[R4 (by rw[P1,P1,sA];omega),if_neg M,R4 (by rw[P1,sA];omega),if_neg M,R4 (by rw[sA];omega),if_neg M]
   have g5:AD.tmps.getD (b+5) undef=e.key:=by subst hB;rw[R4 (by rw[P1,P1,sA];omega),if_neg M,R4 (by rw[P1,sA];omega),if_pos rfl]
   have g6:AD.tmps.getD (b+6) undef=e.val:=by subst hB;rw[R4 (by rw[P1,P1,sA];omega),if_pos rfl]
   refine iD (v:=e.key) (w':=BB) rfl ?_ ?_
   ·simp only[execOp];rw[ev,g5];rfl
   refine iD (v:=e.val) (w':=BB) rfl ?_ ?_
   ·simp only[execOp];rw[ev,R4 (by rw[sB];omega),if_neg M,g6];rfl
   show Exit.then _ _ .normal _ _
   generalize hC:(AD.put (some tk) e.key).put (some tv) e.val=C
   have sC:C.tmps.size=N:=by subst hC;rw[P1,P1,sB]
   have dC:C.defers=[]:=by subst hC;rw[put_defers,put_defers,dB]
   have gC:∀t,t<b\/t=b+1->t≠tk->t≠tv->C.tmps.getD t undef=a.tmps.getD t undef:=fun t F U X=>by rw[<-gB t F];subst hC;rw[R4 (by rw[P1,sB];omega),if_neg X,R4 (by rw[sB];omega),if_neg U]
   have gk:C.tmps.getD tk undef=e.key:=by subst hC;rw[R4 (by rw[P1,sB];omega),if_neg n3,R4 (by rw[sB];omega),if_pos rfl]
   have gv:C.tmps.getD tv undef=e.val:=by subst hC;rw[R4 (by rw[P1,sB];omega),if_pos rfl]
   refine wp_region ?_
   show wpOps P _ _ [0,1,2,3] C BB
   refine iD (v:=.map (some bi)) (w':=BB) rfl ?_ ?_
   ·simp only[execOp];rw[ev,gC tI (.inl hI) n1 n2,u.inner];rfl
   refine iD (v:=e.key) (w':=BB) rfl ?_ ?_
   ·simp only[execOp];rw[ev,R4 (by rw[sC];omega),if_neg M,gk];rfl
   refine iD (v:=e.val) (w':=BB) rfl ?_ ?_
   ·simp only[execOp];rw[ev,R4 (by rw[P1,sC];omega),if_neg M,R4 (by rw[sC];omega),if_neg M,gv];rfl
   generalize hD:((C.put (some (b+7)) (.map (some bi))).put (some (b+8)) e.key).put (some (b+9)) e.val=E
   have sE:E.tmps.size=N:=by subst hD;rw[P1,P1,P1,sC]
   have dE:E.defers=[]:=by subst hD;rw[put_defers,put_defers,put_defers,dC]
   have gE:∀t,t<b+7->E.tmps.getD t undef=C.tmps.getD t undef:=fun t F=>by subst hD;rw[R4 (by rw[P1,P1,sC];omega),if_neg M,R4 (by rw[P1,sC];omega),if_neg M,R4 (by rw[sC];omega),if_neg M]
   have g7:E.tmps.getD (b+7) undef= .map (some bi):=by subst hD;rw[R4 (by rw[P1,P1,sC];omega),if_neg M,R4 (by rw[P1,sC];omega),if_neg M,R4 (by rw[sC];omega),if_pos rfl]
   have g8:E.tmps.getD (b+8) undef=e.key:=by subst hD;rw[R4 (by rw[P1,P1,sC];omega),if_neg M,R4 (by rw[P1,sC];omega),if_pos rfl]
   have g9:E.tmps.getD (b+9) undef=e.val:=by subst hD;rw[R4 (by rw[P1,P1,sC];omega),if_pos rfl]
   refine i4L (w':=w2) rfl ?_ ?_
   ·simp only[execOp];rw[ev,ev,ev,g7,g8,g9];simp[hup,ic]
   have hn:=hnew E sE dE (by rw[gE tI M,gC tI (.inl hI) n1 n2,u.inner]) (by rw[gE (b+1) M,gC (b+1) (.inr rfl) M M,u.iter]) (fun t F U X=>by rw[gE t M,gC t (.inl F) U X,u.rest t F U X])
   have fin:(match w2.heap[w.heap.size]? with|some (.mapIter _ _ seen _)=>ents.size-seen.size| _=>0)<(match w'.heap[w.heap.size]? with|some (.mapIter _ _ seen _)=>ents.size-seen.size| _=>0):=by
    rw[hmu,hn.it];simp only[nc,aa,List.length_singleton];have:vis.length<ents.size:=by have U:=Rw ents.size (vis++[i]) hn.nd hn.lt;simp at U;omega
    omega
   exact And.intro ⟨_,hn⟩ fin
theorem i5e{b tI tE tk tv iE kt et id2 id3 i1 i2 i3 i4:Nat}{y:Nat->Nat}{p:Nat->String}{g:Nat->Array Edge}
 (hu:P.underlying iE=some (.map kt et)) (hN:b+10<=N) (fE:fr.get tE= .S8)
 (hF:∀t,B'.get t= .any\/(B'.get t=fr.get t/\t<b)) (hQ:BE .normal B' st):
 F4 P gl N n0 keep (JW b tI tE tk tv iE id2 id3 i1 i2 i3 i4 y p g) BE fr st:=by
 intro w0 μ0 st0 H6 a0 w ⟨μ,K⟩
 have hs:=K.bU
 have hsz:=K.size
 have vE:a0.tmps.getD tE undef= .map none:=by
  have:=K.fr tE;rw[fE]at this;generalize a0.tmps.getD tE undef=C' at this;cases this with
  |tr h=>cases h;rfl
 have ev:∀(a:Act)(t:Nat),a.eval (.tmp t)=a.tmps.getD t undef:=fun _ _=>rfl
 unfold JW
 refine wp_seq (wp_region ?_)
 show wpOps P _ _ [0,1] a0 w
 refine iD (v:=.map none) rfl (by simp only[execOp];rw[ev,vE];rfl) ?_
 refine iD (v:=.pointer (some ⟨w.heap.size,0,none⟩)) (w':=w.alloc (.mapIter none 0 #[] 0)) rfl ?_ ?_
 ·simp only[execOp];rw[ev,R4 (by rw[hsz];omega),if_pos rfl];have:=run_range_nilMap (P:=P) w iE kt et hu;simp[this,ic]
 show Exit.then _ _ .normal _ _
 refine wp_block (wp_loop_once ?_)
 refine wp_seq (wp_region ?_)
 generalize hA:(a0.put (some b) (.map none)).put (some (b+1)) (.pointer (some ⟨w.heap.size,0,none⟩))=yn
 have sA:yn.tmps.size=N:=by subst hA;rw[P1,P1,hsz]
 have dA:yn.defers=[]:=by subst hA;rw[put_defers,put_defers,K.defers]
 have gA:∀t,t<b->yn.tmps.getD t undef=a0.tmps.getD t undef:=fun t F=>by subst hA;rw[R4 (by rw[P1,hsz];omega),if_neg M,R4 (by rw[hsz];omega),if_neg M]
 have g1:yn.tmps.getD (b+1) undef= .pointer (some ⟨w.heap.size,0,none⟩):=by subst hA;rw[R4 (by rw[P1,hsz];omega),if_pos rfl]
 show wpOps P _ _ [0,1] yn _
 refine iD (v:=.tuple #[.bool false]) (w':=w.alloc (.mapIter none 0 #[] 0)) rfl ?_ ?_
 ·simp only[execOp];rw[ev,g1];have:=run_next_nilMap (P:=P) w (y 2) 0 0 #[];simp[this,ic]
 refine iD (v:=.bool false) (w':=w.alloc (.mapIter none 0 #[] 0)) rfl ?_ ?_
 ·simp only[execOp];rw[ev,R4 (by rw[sA];omega),if_pos rfl];simp[mb]
 show Exit.then _ _ .normal _ _
 refine wp_seq (wp_cond_split (t:=false) ?_ (fun h=>by cases h) fun _=>wp_exit ?_)
 ·rw[ev,R4 (by rw[P1,sA];omega),if_pos rfl]
 show ta id2 _ (.exit id2) _ _
 simp only[ta,if_true]
 have⟨k1,k2⟩:=PE (w':=w.alloc (.mapIter none 0 #[] 0)) hs B5 rfl rfl ⟨rfl,Dr.le (ae _)⟩ (fun j L=>IC L)
 refine⟨B',st,hQ,μ,k1,K.glob.step k2,fun t=>?_,?_,?_,K.step.trans k2⟩
 ·rcases hF t with e|⟨e,e2⟩
  ·rw[e];exact .any _
  ·rw[e,R4 (by rw[P1,sA];omega),if_neg M,R4 (by rw[sA];omega),if_neg M,gA t e2];exact(K.fr t).step k2
 ·rw[P1,P1,sA]
 ·rw[put_defers,put_defers,dA]
theorem RB{b tk tv:Nat}:∀ {B' fr:Fr},Fr.leq B' fr->B'.all (fun p=>decide (p.1<b)&&(!decide (p.1=tk)&& !decide (p.1=tv)))=true->∀t,B'.get t= .any\/(B'.get t=fr.get t/\t<b/\t≠tk/\t≠tv)
 | [],_,_,_,t=>.inl rfl
 |(k,d)::B',fr,hl,S,t=>by
  rw[List.all_cons,ie]at S;simp only[Fr.get];split
  ·rename_i e;subst e;have h:=S.1;simp only[ie,decide_eq_true_eq,l5,decide_eq_false_iff_not]at h;exact .inr ⟨hl.1.symm,h.1,h.2.1,h.2.2⟩
  ·exact RB hl.2 S.2 t
section
variable {b tI tE tk tv iE kt et id2 id3 i1 i2 i3 i4 oi oe y0 y1 y2 y3 y4 y5 y6 y7 y8 y9 JX JY JZ:Nat} {p0 p1 p2 p3 p4 p5 p6 p7 p8 p9 Ka Kc Kd:String} {g0 g1 g2 g3 g4 g5 g6 g7 g8 g9 g10 g11 g12:Array Edge} {ag:Bool} {es e0:List (J×List D)}
theorem d2G(hu:P.underlying iE=some (.map kt et))(jB:P.underlying kt=some .string)(hN:b+10<=N/\tI<b/\tE<b/\tk<b/\tv<b/\tI≠tk/\tI≠tv/\tk≠tv/\id2≠id3)
 (fI:fr.get tI= .mp oi) (fE:fr.get tE= .mp oe) (lI:look st oi=some (.mps ag e0)) (h0:e0=[]) (lE:look st oe=some (.mps ag es)) (hne:oi≠oe)
 (hl:Fr.leq B' fr) (S:B'.all (fun p=>decide (p.1<b)&&(!decide (p.1=tk)&& !decide (p.1=tv)))=true) (hQ:BE .normal B' (st.set oi (some (.mps ag es)))):
 F4 P gl N n0 keep (.seq (.region i1 #[⟨some b,.move (.tmp tE),y0,p0,g0,none⟩,⟨some (b+1),.range iE (.tmp b),y1,p1,g1,none⟩] false)
 (.block id2 (.loop (.seq (.region i2 #[⟨some (b+2),.next (.tmp (b+1)) false,y2,p2,g2,none⟩,⟨some (b+3),.extract (.tmp (b+2)) 0,y3,p3,g3,none⟩] false)
  (.seq (.cond (.tmp (b+3)) .skip (.exit id2))
   (.block id3 (.seq (.region i3 #[⟨some (b+4),.entry (.tmp (b+1)),y4,p4,g4,none⟩,⟨some (b+5),.extract (.tmp (b+4)) 0,y5,p5,g5,none⟩,⟨some (b+6),.extract (.tmp (b+4)) 1,y6,p6,g6,none⟩,⟨some tk,.assign (.tmp (b+5)),y7,p7,g7,none⟩,⟨some tv,.assign (.tmp (b+6)),y8,p8,g8,none⟩] false)
    (.region i4 #[⟨some (b+7),.move (.tmp tI),y9,p9,g9,none⟩,⟨some (b+8),.move (.tmp tk),JX,Ka,g10,none⟩,⟨some (b+9),.move (.tmp tv),JY,Kc,g11,none⟩,⟨none,.mapUpdate iE (.tmp (b+7)) (.tmp (b+8)) (.tmp (b+9)),JZ,Kd,g12,none⟩] false)))))))) BE fr st:=by
 subst h0
 have⟨I,a2,a3,a4,a5,a6,a7,a8,a9⟩:=hN
 exact i4P (y:=(fun i=>[y0,y1,y2,y3,y4,y5,y6,y7,y8,y9,JX,JY,JZ].getD i 0)) (p:=(fun i=>[p0,p1,p2,p3,p4,p5,p6,p7,p8,p9,Ka,Kc,Kd].getD i "")) (g:=(fun i=>[g0,g1,g2,g3,g4,g5,g6,g7,g8,g9,g10,g11,g12].getD i #[])) hu jB I a2 a3 a4 a5 a6 a7 a8 a9 fI fE lI lE hne (RB hl S) hQ
theorem d2H(hu:P.underlying iE=some (.map kt et))(hN:b+10<=N)(fE:fr.get tE= .S8)
 (hl:Fr.leq B' fr) (S:B'.all (fun p=>decide (p.1<b)&&(!decide (p.1=tk)&& !decide (p.1=tv)))=true) (hQ:BE .normal B' st):
 F4 P gl N n0 keep (.seq (.region i1 #[⟨some b,.move (.tmp tE),y0,p0,g0,none⟩,⟨some (b+1),.range iE (.tmp b),y1,p1,g1,none⟩] false)
 (.block id2 (.loop (.seq (.region i2 #[⟨some (b+2),.next (.tmp (b+1)) false,y2,p2,g2,none⟩,⟨some (b+3),.extract (.tmp (b+2)) 0,y3,p3,g3,none⟩] false)
  (.seq (.cond (.tmp (b+3)) .skip (.exit id2))
   (.block id3 (.seq (.region i3 #[⟨some (b+4),.entry (.tmp (b+1)),y4,p4,g4,none⟩,⟨some (b+5),.extract (.tmp (b+4)) 0,y5,p5,g5,none⟩,⟨some (b+6),.extract (.tmp (b+4)) 1,y6,p6,g6,none⟩,⟨some tk,.assign (.tmp (b+5)),y7,p7,g7,none⟩,⟨some tv,.assign (.tmp (b+6)),y8,p8,g8,none⟩] false)
    (.region i4 #[⟨some (b+7),.move (.tmp tI),y9,p9,g9,none⟩,⟨some (b+8),.move (.tmp tk),JX,Ka,g10,none⟩,⟨some (b+9),.move (.tmp tv),JY,Kc,g11,none⟩,⟨none,.mapUpdate iE (.tmp (b+7)) (.tmp (b+8)) (.tmp (b+9)),JZ,Kd,g12,none⟩] false)))))))) BE fr st:=
 i5e (tv:=tv) (tk:=tk) (tI:=tI) (y:=(fun i=>[y0,y1,y2,y3,y4,y5,y6,y7,y8,y9,JX,JY,JZ].getD i 0)) (p:=(fun i=>[p0,p1,p2,p3,p4,p5,p6,p7,p8,p9,Ka,Kc,Kd].getD i "")) (g:=(fun i=>[g0,g1,g2,g3,g4,g5,g6,g7,g8,g9,g10,g11,g12].getD i #[])) hu hN fE (fun t=>(RB hl S t).imp id fun h=>⟨h.1,h.2.1⟩) hQ
end
theorem Ke{α:Type}{e r:α}{s l:St}{d:D}(l':St)(d':D){R:D->St->Prop}(hd:Up (s++l) (s++l') d d')(h:some e=some r)(hsc:Q8 s.length s)(hu:gn (s++l) (s++l') l l':=by(repeat (first|exact .nil _|refine .live _ _ _ _ (.same _) ?_|refine .dead _ _ _ ?_)))
 (hl:mH (s++l').length l':=by simp[mH,Ob.sc]) (hs:D.sc (s++l').length d':=by simp) (hr:e=r->R d' (s++l'):=by rintro rfl;exact⟨rfl,rfl⟩):fin s.length R d (s++l):=
 ⟨s++l',d',by simp,sj hsc hu hl,hd,hs,hr (dj h)⟩
end
end Go.Am
namespace Go.Am
open Go
variable {R:D->St->Prop} {f:FuncId} {gl:Gl} {args:List D} {b gen n o:Nat} {P:Program} {φ:Prop} {st:St} {w:World}
theorem d2I{α:Type}{st De:St}{r:List D}{v:α}{n:Nat}{E:α->List D}(h:bq st De r (E v)):mC st De (be n r) (rows E (be n v)):=by
 induction n with
 |zero=>exact .nil
 |succ n ih=>exact .cons _ _ _ _ h ih
theorem Spec.fin{R':D->St->Prop}(h:Spec P gl f args st R)(hf:Q8 st.length st->∀d st',R d st'->Go.Am.fin st.length R' d st'):Spec P gl f args st R':=
 ⟨h.1,fun w μ vs U X h3 h4=>(h.2 w μ vs U X h3 h4).mono fun _ _ ⟨v,d,st',μ',he,hR,hs,hst,Q⟩=>
  let ⟨De,d',hle,hw,hu,hsc,hR'⟩:=hf U.sc d st' hR
  ⟨v,d',De,μ',he,hR',hs.wk hw,Step.wk hle hw hst,VR.up hs hw.kill hu Q hsc⟩⟩
section
variable {α β:Type} (EA:α->List D) (na ba:Nat) (EB:β->List D) (nb bb:Nat)
def NwR(r:List α×List β×Bool)(st:St):D->St->Prop:=fun d st'=>
 (r=([],[],false)/\d= .E8 [.A9,.A9,.bool false]/\st'=st)\/
 (r.2.2=true/\∃g1 g2,d= .E8 [.ref false (st.length+1) g1 0 r.1.length,.ref false (st.length+2) g2 0 r.2.1.length,.bool true]/\st'=st++[none,some (.arr g1 na ba (rows EA r.1)),some (.arr g2 nb bb (rows EB r.2.1))])
def RD(r:List α×List β×Bool)(st:St):D->St->Prop:=fun d st'=>
 (r.2.2=false/\d= .E8 [.sl false na ba (rows EA r.1),.sl false nb bb (rows EB r.2.1),.bool false]/\st'=st)\/
 (r.2.2=true/\∃g1 g2,d= .E8 [.ref false (st.length+1) g1 0 r.1.length,.ref false (st.length+2) g2 0 r.2.1.length,.bool true]/\st'=st++[none,some (.arr g1 na ba (rows EA r.1)),some (.arr g2 nb bb (rows EB r.2.1))])
end
section
variable {α β:Type} {EA:α->List D} {na ba:Nat} {EB:β->List D} {nb bb:Nat}
theorem i5g{r:List α×List β×Bool}(h:Spec P gl f args st (NwR EA na ba EB nb bb r st))
 (hf:r=([],[],false)->R (.E8 [.A9,.A9,.bool false]) st)
 (F:r.2.2=true->∀g1 g2,R (.E8 [.ref false (st.length+1) g1 0 r.1.length,.ref false (st.length+2) g2 0 r.2.1.length,.bool true]) (st++[none,some (.arr g1 na ba (rows EA r.1)),some (.arr g2 nb bb (rows EB r.2.1))])):Spec P gl f args st R:=
 h.mono fun d st' hd=>by
  rcases hd with⟨U,rfl,rfl⟩|⟨U,g1,g2,rfl,rfl⟩
  ·exact hf U
  ·exact F U g1 g2
theorem i5h{r:List α×List β×Bool}(h:Spec P gl f args st (RD EA na ba EB nb bb r st))
 (hf:r.2.2=false->R (.E8 [.sl false na ba (rows EA r.1),.sl false nb bb (rows EB r.2.1),.bool false]) st)
 (F:r.2.2=true->∀g1 g2,R (.E8 [.ref false (st.length+1) g1 0 r.1.length,.ref false (st.length+2) g2 0 r.2.1.length,.bool true]) (st++[none,some (.arr g1 na ba (rows EA r.1)),some (.arr g2 nb bb (rows EB r.2.1))])):Spec P gl f args st R:=
 h.mono fun d st' hd=>by
  rcases hd with⟨U,rfl,rfl⟩|⟨U,g1,g2,rfl,rfl⟩
  ·exact hf U
  ·exact F U g1 g2
theorem d2K[hA:cr EA na][hB:cr EB nb](ha:1<=ba)(H:1<=bb){r:List α×List β×Bool}(h:∀st,Spec P gl f args st (RD EA na ba EB nb bb r st)):
 Pure P gl f args (.E8 [.sl false na ba (rows EA r.1),.sl false nb bb (rows EB r.2.1),.bool r.2.2]):=fun st=>
 (h st).fin fun hsc d st' hd=>by
  rcases hd with⟨U,rfl,rfl⟩|⟨U,g1,g2,rfl,rfl⟩
  ·exact EC hsc (.same _) B5 ⟨by rw[U],rfl⟩
  ·have e:∀ {γ:Type} (E:γ->List D) (l:List γ),rows E l=((rows E l).drop 0).take l.length:=fun E l=>by rw[lj,nn (by simp[rows])]
   exact JJ (d':=.E8 [.sl false na ba (rows EA r.1),.sl false nb bb (rows EB r.2.1),.bool true]) hsc (.E8 _ _ (.cons _ _ _ _ (.ref _ _ _ _ _ na ba (rows EA r.1) _ (je.trans rfl) uV ha (br _) (e _ _)) (.cons _ _ _ _ (.ref _ _ _ _ _ nb bb (rows EB r.2.1) _ (je.trans rfl) uV H (br _) (e _ _)) (.cons _ _ _ _ (.same _) .nil))) rfl) B5 ⟨by rw[U],rfl⟩
end
section
variable {α:Type}
def fA(n b:Nat)(E:α->List D):List α->List D
 | []=>[.A9]
 |y::l=>[.sl false n b (rows E (y::l))]
theorem RE{E:α->List D}{x:List α}(h:0<x.length):fA n b E x=[.sl false n b (rows E x)]:=by
 cases x with
 |nil=>cases h
 |cons y l=>rfl
theorem d2L{E:α->List D}{x:List α}(h:x.length=0):fA n b E x=[.A9]:=by
 cases x with
 |nil=>rfl
 |cons y l=>cases h
instance{n b m:Nat}{E:α->List D}[cr E m]:cr (fA n b E) 1 where
 len:=fun x=>by cases x<;>rfl
 one:=fun x=>by cases x<;>rfl
 M7:=fun x=>by
  cases x with
  |nil=>rfl
  |cons y l=>have:=cr.M7 (E:=slc n b E) (y::l);exact this
end
section
variable {P:Program} {gl:Gl} {N n0:Nat} {keep:List Nat} {BE:AQ} {fr:Fr} {st:St} {x y:Code} {o:Operand} {i:Nat} {α:Type} {e r:α} {s l l':St} {m:List (Nat×Ob)} {d:D} {R:D->St->Prop} {B':Fr} {E:α->List D} {p c z:List α} {v:α} {k:Nat}
theorem fp(d':D)(h:some e=some r:=by exact h)(hsc:Q8 s.length s:=by exact hsc)(hu:Up (s++l) s d d':=by exact yA)(hd:D.sc s.length d':=by simp)(hr:e=r->R d' s:=by rintro rfl;exact⟨rfl,rfl⟩):fin s.length R d (s++l):=fo d' hu h hsc hd hr
theorem aO(d':D)(h:some e=some r:=by exact h)(hsc:Q8 s.length s:=by exact hsc)(hu:Up (C2 s m++l) (C2 s m) d d':=by exact yA)(hr:e=r->R d' (C2 s m):=by rintro rfl;exact⟨rfl,rfl⟩)(hm:oU s.length m:=by simp<;>omega)(hd:D.sc (C2 s m).length d':=by simp<;>omega):fin s.length R d (C2 s m++l):=fuo d' hu h hsc hr hm hd
theorem vo(d':D)(h:some e=some r:=by exact h)(hsc:Q8 s.length s:=by exact hsc)(hu:Up (C2 s m) (C2 s m) d d':=by exact yA)(hr:e=r->R d' (C2 s m):=by rintro rfl;exact⟨rfl,rfl⟩)(hm:oU s.length m:=by simp<;>omega)(hd:D.sc (C2 s m).length d':=by simp<;>omega):fin s.length R d (C2 s m):=fus d' hu h hsc hr hm hd
theorem sw(d':D)(h:some e=some r:=by exact h)(hsc:Q8 s.length s:=by exact hsc)(hu:Up (C2 s m++l) (C2 s m) d d':=by exact yA)(hr:e=r->R d' (C2 s m):=by rintro rfl;exact⟨rfl,lu (by simp only[List.forall_mem_cons];(repeat' (first|assumption|refine⟨?_,?_⟩|exact fun _ h=>by cases h)))⟩)(hm:oU s.length m:=by simp<;>omega)(hd:D.sc (C2 s m).length d':=by simp<;>omega):fin s.length R d (C2 s m++l):=fuo d' hu h hsc hr hm hd
theorem vp(d':D)(h:some e=some r:=by exact h)(hsc:Q8 s.length s:=by exact hsc)(hu:Up (C2 s m) (C2 s m) d d':=by exact yA)(hr:e=r->R d' (C2 s m):=by rintro rfl;exact⟨rfl,lu (by simp only[List.forall_mem_cons];(repeat' (first|assumption|refine⟨?_,?_⟩|exact fun _ h=>by cases h)))⟩)(hm:oU s.length m:=by simp<;>omega)(hd:D.sc (C2 s m).length d':=by simp<;>omega):fin s.length R d (C2 s m):=fus d' hu h hsc hr hm hd
theorem fl(fy:φ)(K:c=p++[v]):φ/\p.length+1=c.length:=⟨fy,by rw[K];simp⟩
theorem fm(fy:φ)(q:Prop)(h:q:=by first|omega|(simp;omega)):φ/\q:=⟨fy,h⟩
theorem J1(E:α->List D)(w:List (List D))(K:c=p++z)(h:rows E z=w:=by first|rfl|simp only[go_sem,rows,List.map_append,List.map_cons,List.map_nil]):rows E p++w=rows E c:=by rw[K, <-h];exact Rj p z
theorem qN(E:α->List D)(w:List D)(K:c=p.set k v)(h:E v=w:=by first|rfl|simp only[go_sem]):(rows E p).set k w=rows E c:=by rw[K, <-h];exact d1M p k v
theorem S2[Inhabited α](E:α->List D)(p:List α)(k:Nat)(h:k<p.length:=by first|omega|(simp;omega)):(rows E p).getD k []=E (get p k):=sq h
theorem sg{q:Prop}(h:q:=by simp only[go_sem,V]):q:=h
theorem T6{st2:St}{rd:List Nat}{o:Nat}{w:Option Ob}(X:∀o∈rd,look st2 o=look st o)(hl:look st o=w:=by simp only[go_sem,V])(hm:o∈rd:=by simp):look st2 o=w:=(X _ hm).trans hl
theorem V5{yn AD:Prop}(b:AD)(e:AD->yn:=by intro H;(try simp only[List.append_assoc,List.cons_append,List.nil_append]);exact H):yn:=e b
theorem EM{yn AD:Prop}(b:AD)(e:AD->yn:=by intro H;apply uL;simp only[go_sem,V];exact H):yn:=e b
theorem D1{BB:Prop}{c:Code}{De:St}(H:O6 n0 B' De fr st)(h:F4 P gl N n0 keep c BE B' De)(e:F4 P gl N n0 keep c BE fr st->BB:=by intro A;(try simp only[go_sem,V]);exact A):BB:=e (qH H h)
theorem Pure.vq{args':List D}{w:D}(p:Pure P gl f args' w)(C':∀st,bq st st args args':=by intro st;exact d2h)(s:∀n,D.eI n args':=by intro n;simp):Pure P gl f args w:=p.up C' (.inr s)
theorem O8{Γ ρ σ:Type}{c:Code}{id:Nat}{body:Nat->σ->Option (C1 ρ σ σ)}{Y:σ}{kk:σ->Option ρ}{e:ρ}(γ0:Γ)(V:φ)(hl:n<=9223372036854775807)
 (h:B3 (K6 body n Y) kk=some e) (B':Γ->Nat->σ->Fr) (De:Γ->Nat->σ->St) (Fb:Γ->σ->Fr) (Tb:Γ->σ->St)
 (h0:O6 n0 (B' γ0 0 Y) (De γ0 0 Y) fr st)
 (hs:∀γ k s b,φ/\k<n/\wr .i64 ((k:Int)+1)=((k+1:Nat):Int)->body k s=some b->(∀x,b= .ret x->x=e)->F4 P gl N n0 keep c (Bg n0 id B' De Fb Tb BE k b) (B' γ k s) (De γ k s))
 (S:∀γ s fr st,kk s=some e->O6 n0 (Fb γ s) (Tb γ s) fr st->BE .normal fr st)
 (he:∀γ s,F4 P gl N n0 keep c (fun ex fr st=>ex= .exit id/\∃γ',O6 n0 (Fb γ' s) (Tb γ' s) fr st) (B' γ n s) (De γ n s):=by intro gs s;refine cf ?_;refine uL ?_;simp only[go_sem,V];first|exact⟨gs,O7 hsc⟩|exact⟨gs,uZ hsc⟩|exact⟨gs,bm hsc⟩|exact⟨gs,jE hsc⟩|exact⟨gs,vd hsc⟩|exact⟨gs,bu hsc⟩):
 F4 P gl N n0 keep (.block id (.loop c)) BE fr st:=rng B' De Fb Tb γ0 V hl h h0 hs he S
theorem L3{Γ Δ ρ σ τ:Type}{c:Code}{id:Nat}{body:σ->Option (C1 ρ σ τ)}{Y:σ}{kk:τ->Option ρ}{e:ρ}(γ0:Γ)(h:B3 (D9 body n Y) kk=some e)(B':Γ->σ->Fr)(De:Γ->σ->St)(Fb:Δ->τ->Fr)(Tb:Δ->τ->St)
 (h0:O6 n0 (B' γ0 Y) (De γ0 Y) fr st)
 (hs:∀γ s b,body s=some b->(∀x,b= .ret x->x=e)->F4 P gl N n0 keep c (ED n0 id B' De Fb Tb BE b) (B' γ s) (De γ s))
 (S:∀γ s fr st,kk s=some e->O6 n0 (Fb γ s) (Tb γ s) fr st->BE .normal fr st):
 F4 P gl N n0 keep (.block id (.loop c)) BE fr st:=d1U B' De Fb Tb γ0 h h0 hs S
theorem Q0{c:Code}(B':Fr)(De:St)(H:O6 n0 B' De fr st)(h:F4 P gl N n0 keep c BE B' De):F4 P gl N n0 keep c BE fr st:=qH H h
theorem ast{c:Code}(s':St)(h:F4 P gl N n0 keep c BE fr s')(e:s'=s:=by exact lu (by simp only[List.forall_mem_cons];(repeat' (first|assumption|refine⟨?_,?_⟩|exact fun _ h=>by cases h)))):F4 P gl N n0 keep c BE fr s:=sv e h
theorem K0{gl:Gl}{f:FuncId}{args:List D}{b:Nat}{tr:Bool}{dst:Option Nat}{lg:Log}{kk:Log->Fr->St->Prop}{r:D}(rd:List Nat){ups:List (Nat×Ob)}(h:∀st2,(∀o∈rd,look st2 o=look st o)->Spec P gl f args st2 fun d st'=>d=r/\st'=puts st2 ups)
 (S:kk (iA tr lg ⟨r,True,rd,none,none⟩ ups) (fr.U3 dst r) (puts st ups)) (hu:∀p∈ups,p.1∈rd:=by simp)
 (hrd:∀o∈rd,o<b/\∃ob,look st o=some ob/\ob≠ .resv:=by simp only[List.mem_cons,List.not_mem_nil,or_false,forall_eq_or_imp,forall_eq];(repeat' (first|exact⟨by first|omega|(simp<;>omega),_,(by first|exact aN.trans rfl|exact Rm.trans rfl|exact P5.trans rfl|exact uN.trans rfl|(simp only[go_sem,V]<;>rfl)),Ob.noConfusion⟩|refine⟨?_,?_⟩))) (F:tr=false->rd=[]:=by simp):
 yq P gl b tr dst lg fr st kk f args:=i4p rd h hu hrd F S
end
section
variable {P:Program} {G:Gl}
theorem i5i{m:Option (Nat×Nat)}{ob:Ob}:eF w w m m ob ob:=by
 cases ob with
 |arr g n b es=>exact⟨ae _,fun _=>⟨rfl,rfl,rfl,rfl,fun blk base c ty _ h=>⟨c,h,rfl⟩⟩⟩
 |mps=>exact⟨rfl,rfl⟩
 |T9=>exact⟨rfl,rfl,rfl⟩
 |V0=>exact(rfl:_=_)
 |resv=>exact trivial
theorem d2M{w0:World}{μ0 μ:Mu}{Y:St}{g:Nat}{es:List (List D)}{v:Value}{len:Nat}(hsc:Q8 (st.set o (some (.arr (gen+1) n b es))).length (st.set o (some (.arr (gen+1) n b es))))
 (ho:st[o]? =some (some (.arr gen n b []))) (hle:Y.length<=st.length) (hs:J0 w μ (st++[some (.arr g n b es)])) (hst:Step w0 μ0 Y w μ (st++[some (.arr g n b es)])) (Q:VR w μ (st++[some (.arr g n b es)]) v (.ref false st.length g 0 len)):
 ∃μ',J0 w μ' (st.set o (some (.arr (gen+1) n b es)))/\Step w0 μ0 Y w μ' (st.set o (some (.arr (gen+1) n b es)))/\VR w μ' (st.set o (some (.arr (gen+1) n b es))) v (.ref false o (gen+1) 0 len):=by
 have hlt:o<st.length:=(c7.1 ho).1
 let yk:St:=st++[some (.arr g n b es)]
 let De:St:=st.set o (some (.arr (gen+1) n b es))
 let μ':Mu:=upd μ o (μ st.length)
 have vu:De[o]? =some (some (.arr (gen+1) n b es)):=by simp[De,hlt]
 have yB:∀o':Nat,o'≠o->De[o']? =st[o']? :=fun o' h=>by simp only[De];rw[List.getElem?_set_ne (fun e=>h e.symm)]
 have qO:yk[st.length]? =some (some (.arr g n b es)):=by simp[yk]
 have vw:∀o':Nat,o'<st.length->yk[o']? =st[o']? :=fun o' h=>by simp only[yk];rw[cy h]
 have i5j:De.length=st.length:=by simp[De]
 have EN:∀(o':Nat)(ob:Ob),(De++[none])[o']? =some (some ob)->o'<st.length/\De[o']? =some (some ob):=fun o' ob h=>by grind
 have EO:μ' o=μ st.length:=aq _ _ _
 have yC:∀o',o'≠o->μ' o'=μ o':=fun o' h=>jT _ _ _ h
 have step:Step w μ yk w μ' (De++[none]):=by
  refine⟨ae _,rfl,rfl,⟨rfl,Dr.le (ae _)⟩,fun _ _ _=>rfl,fun blk h=>.inl ?_,by simp[yk,i5j],fun o' ob' hl h=>?_⟩
  ·have⟨o',ob,base,U,X⟩:=h;have⟨h3,h4⟩:=EN o' ob U;by_cases e:o'=o
   ·subst e;rw[EO]at X;exact⟨_,_,base,qO,X⟩
   ·rw[yB o' e, <-vw o' h3]at h4;rw[yC o' e]at X;exact⟨_,_,base,h4,X⟩
  ·have⟨h3,h4⟩:=EN o' ob' h;by_cases e:o'=o
   ·subst e;rw[vu]at h4;cases h4;exact⟨_,(vw _ h3).trans ho,mi _,fun e=>absurd e M⟩
   ·rw[yB o' e, <-vw o' h3]at h4;refine⟨ob',h4,?_⟩;rw[yC o' e];exact i5i
 have V1:J0 w μ' (De++[none]):=by
  refine⟨fun o' ob h=>?_,fun o1 o2 bY kL blk b1 b2 e1 e2 m1 m2=>?_⟩
  ·have⟨h3,h4⟩:=EN o' ob h;by_cases e:o'=o
   ·subst e;rw[vu]at h4;cases h4;rw[EO];have:=(hs.obj _ _ qO).step step (fun _ _ _=>rfl);exact this
   ·rw[yB o' e, <-vw o' h3]at h4;rw[yC o' e];exact(hs.obj _ _ h4).step step (fun _ _ _=>rfl)
  ·have⟨h3,h4⟩:=EN o1 bY e1;have⟨h5,h6⟩:=EN o2 kL e2;by_cases I:o1=o
   ·by_cases a2:o2=o
    ·rw[I,a2]
    ·subst I;rw[EO]at m1;rw[yC o2 a2]at m2;rw[yB o2 a2, <-vw o2 h5]at h6;have:=hs.inj _ _ _ _ blk b1 b2 qO h6 m1 m2;omega
   ·by_cases a2:o2=o
    ·subst a2;rw[EO]at m2;rw[yC o1 I]at m1;rw[yB o1 I, <-vw o1 h3]at h4;have:=hs.inj _ _ _ _ blk b1 b2 h4 qO m1 m2;omega
    ·rw[yC o1 I]at m1;rw[yC o2 a2]at m2;rw[yB o1 I, <-vw o1 h3]at h4;rw[yB o2 a2, <-vw o2 h5]at h6;exact hs.inj _ _ _ _ blk b1 b2 h4 h6 m1 m2
 have hw:mG (De++[none]) De:=uU hsc
 refine⟨μ',V1.wk hw,(hst.trans step).wk (by simpa[De]using hle) hw,?_⟩
 cases Q with
 |tr h=>cases h
 |ref _ _ _ _ _ _ hv1 _ _ _ hr=>have:=hr n b es qO;refine .ref _ _ _ _ _ _ hv1 (by simpa using hlt) (by rw[vu];simp) (fun g' n' b' es' h=>by rw[vu]at h;cases h;exact ae _) (fun n' b' es' h=>?_);rw[vu]at h;cases h;rw[EO];exact this
theorem i5k{w0:World}{μ0 μ:Mu}{v:Value}(ho:st[o]? =some (some (.arr gen n b [])))(hs:J0 w μ st)(hst:Step w0 μ0 st w μ st)(Q:VR w μ st v .A9):
 J0 w μ (st.set o (some (.arr (gen+1) n b [])))/\Step w0 μ0 st w μ (st.set o (some (.arr (gen+1) n b [])))/\VR w μ (st.set o (some (.arr (gen+1) n b []))) v (.ref false o (gen+1) 0 0):=by
 have hlt:o<st.length:=(c7.1 ho).1
 have h:=jS (w:=w) (w':=w) (μ':=μ) (ob':=.arr (gen+1) n b []) hs ho (fun _ _=>rfl) (fun _ _ _=>rfl) (ae _) rfl rfl ⟨rfl,Dr.le (ae _)⟩ (fun blk base e=>.inl ⟨base,e⟩) ⟨mi _,fun e=>absurd e M⟩
  (fun s=>by have:=(hs.obj _ _ ho).step s (fun _ _ _=>rfl);exact this)
 refine⟨h.1,hst.trans h.2,?_⟩
 obtain rfl:=qw Q
 have vu:(st.set o (some (.arr (gen+1) n b [])))[o]? =some (some (.arr (gen+1) n b [])):=by simp[hlt]
 refine .ref _ _ _ _ _ _ ⟨_,_,_,rfl⟩ (by simpa using hlt) (by rw[vu];simp) (fun g' n' b' es' h=>by rw[vu]at h;cases h;exact ae _) (fun n' b' es' h=>?_)
 exact⟨none,0,rfl,ae _,li _,(fun hf=>by cases hf),.inl rfl⟩
theorem i5l{f:FuncId}{args:List D}{st:St}{o gen g n b:Nat}{es:List (List D)}(hsc:Q8 st.length st->Q8 (st.set o (some (.arr (gen+1) n b es))).length (st.set o (some (.arr (gen+1) n b es))))
 (hlk:look st o=some (.arr gen n b [])) (h:Am.Spec P G f args st fun d st'=>(d= .ref false st.length g 0 es.length/\st'=st++[some (.arr g n b es)])\/(d= .ref false (st.length+1) g 0 es.length/\st'=st++[none,some (.arr g n b es)])\/(d= .A9/\st'=st/\es=[])):
 Am.Spec P G f args st fun d st'=>d= .ref false o (gen+1) 0 es.length/\st'=puts st [(o,.arr (gen+1) n b es)]:=by
 have ho:=V7 hlk
 refine⟨trivial,fun w μ vs U X h3 h4=>(h.2 w μ vs U X h3 h4).mono fun e w' ⟨v,d,st',μ',a,hR,c1,c2,c3⟩=>?_⟩
 rcases hR with⟨rfl,rfl⟩|⟨rfl,rfl⟩|⟨rfl,rfl,rfl⟩
 ·have⟨μ2,k1,k2,k3⟩:=d2M (hsc U.sc) ho (ae _) c1 c2 c3;exact⟨v,_,_,μ2,a,⟨rfl,rfl⟩,k1,k2,k3⟩
 ·have hlt:o<st.length:=(c7.1 ho).1;have V2:(st++[none])[o]? =some (some (.arr gen n b [])):=by grind
  have e1:st++[none,some (.arr g n b es)]=(st++[none])++[some (.arr g n b es)]:=by simp
  have e2:st.length+1=(st++[none]).length:=by simp
  have e3:(st++[none]).set o (some (.arr (gen+1) n b es))=st.set o (some (.arr (gen+1) n b es))++[none]:=List.set_append_left _ _ hlt;rw[e1]at c1 c2 c3;rw[e2]at c3;have d2N:=hsc U.sc;have i5m:Q8 (st.set o (some (.arr (gen+1) n b es))).length (st.set o (some (.arr (gen+1) n b es)))->Q8 ((st++[none]).set o (some (.arr (gen+1) n b es))).length ((st++[none]).set o (some (.arr (gen+1) n b es))):=fun h o' ob hh=>by
   rw[e3]at hh⊢;by_cases hl:o'<(st.set o (some (.arr (gen+1) n b es))).length
   ·rw[cy hl]at hh;exact Ob.AZ B5 (h o' ob hh)
   ·grind
  have⟨μ2,k1,k2,k3⟩:=d2M (i5m d2N) V2 (by rw[aa];exact re _ _) c1 c2 c3;rw[e3]at k1 k2 k3;have hw:mG (st.set o (some (.arr (gen+1) n b es))++[none]) (st.set o (some (.arr (gen+1) n b es))):=uU d2N;exact⟨v,_,_,μ2,a,⟨rfl,rfl⟩,k1.wk hw,k2.wk (by show _<=(st.set o _).length;rw[List.length_set];exact ae _) hw,k3.kill hw.kill (by show o<_;simpa using hlt)⟩
 ·have⟨k1,k2,k3⟩:=i5k ho c1 c2 c3;exact⟨v,_,_,_,a,⟨rfl,rfl⟩,k1,k2,k3⟩
end
theorem d2O{P:Program}{gl:Gl}{st De:St}{f:FuncId}{args:List D}{R:D->St->Prop}(hw:mG st De)(hl:st.length<=De.length)(hsc:D.eI De.length args)(h:Spec P gl f args De R):Spec P gl f args st R:=by refine⟨h.1,fun w μ vs hs hg hsz yu=>?_⟩;have uY:∀j (L:j<args.length),VR w μ De (vs.getD j undef) (args[j]):=fun j L=>VR.up hs hw.kill (.same _) (yu j L) (mw hsc j L);refine(h.2 w μ vs (hs.wk hw) (Ek hg (fun _ h=>hw.kill.own h)) hsz uY).mono fun e w' ⟨v,d,st',μ',he,hR,hs',hstep,Q⟩=>?_;exact⟨v,d,st',μ',he,hR,hs',(Step.wk hl hw (Step.refl w μ st)).trans hstep,Q⟩
end Go.Am
namespace Go.Am
open Go Go.Sort Go.Shelf
open Go.Proofs (ltOf sortWorldK)
variable {os:Array Obj} {blk k m off:Nat} {w:World}
section
variable {α:Type} [Inhabited α] {P:Program} {G:Gl}
def bH(cf:α->α->Int)(l:List α):List α:=(pdq (ltOf cf) l.toArray 0 l.toArray.size (rb l.toArray.size) true true).toList
omit [Inhabited α] in
theorem d2P{xm:Array α}{n:Nat}(h:xm.size=n):xm.extract 0 n=xm:=by rw[<-h];simp
theorem RF{cf:α->α->Int}(hO:SWO (ltOf cf))(l:List α):(bH cf l).Perm l/\(bH cf l).length=l.length/\∀i j,i<j->j<l.length->¬cf (get (bH cf l) j) (get (bH cf l) i)<0:=by
 have h:=pdq_sorts (ltOf cf) hO l.toArray 0 l.toArray.size (rb l.toArray.size) true true (li _) (ae _) (Or.inl rfl);have⟨⟨hs,_,hp⟩,hso⟩:=h;have V1:(bH cf l).length=l.length:=by unfold bH;simpa using hs
 refine⟨?_,V1,fun i j u L=>?_⟩
 ·have e1:(pdq (ltOf cf) l.toArray 0 l.toArray.size (rb l.toArray.size) true true).extract 0 l.toArray.size=pdq (ltOf cf) l.toArray 0 l.toArray.size (rb l.toArray.size) true true:=d2P hs;have e2:l.toArray.extract 0 l.toArray.size=l.toArray:=d2P rfl;rw[e1,e2]at hp;exact hp
 ·have:=hso i j (li _) u (by simpa using L);have g:∀k,get (bH cf l) k=(pdq (ltOf cf) l.toArray 0 l.toArray.size (rb l.toArray.size) true true)[k]! :=fun k=>by unfold bH get;rw[ac,Array.getElem?_toList,Array.getElem!_eq_getD,ca]
  rw[g,g];unfold ltOf at this;exact of_decide_eq_false this
theorem i5o{cf:α->α->Int}(hO:SWO (ltOf cf))(ha:∀x y,¬cf x y<0->¬cf y x<0->x=y)(l:List α):bH cf l=cw cf l:=by have⟨U,X,h3⟩:=RF hO l;refine Rq ha _ _ (pn.2 fun i j u L hij=>?_) (JT hO l) (U.trans (oV cf l).symm);have:=h3 i j hij M;simpa[get,u,L]using this
structure RH(E:α->List D)(enc:α->List Value)(k:Nat):Prop where
 qP:∀x,(E x).length=k
 ly:∀x,(enc x).length=k
 one:∀x,∀v∈enc x,v.oneCell'=true
 to:∀(w:World) (μ:Mu) (st:St) (x:α) (j:Nat) (h:j<(E x).length) (v:Value),VR w μ st v ((E x)[j])->v=(enc x)[j]!
 RI:∀(w:World) (μ:Mu) (st:St) (x:α) (j:Nat) (h:j<(E x).length),VR w μ st ((enc x)[j]!) ((E x)[j])
theorem i5p{BB w':World}(hs:BB.heap.size<=w'.heap.size)(ho:w'.os=BB.os)(hout:w'.output=BB.output)(F:w'.tape=BB.tape)(hd:BB.drawn<=w'.drawn)(hh:∀j,j<BB.heap.size->w'.heap[j]? =BB.heap[j]?):∃q os',w'=grow (BB.drewN q) os':=by
 refine⟨w'.drawn-BB.drawn,w'.heap.extract BB.heap.size w'.heap.size,?_⟩;have⟨heap,tape,drawn,os,output⟩:=w';simp only at*
 subst ho hout F;unfold grow World.drewN;have e1:heap=BB.heap++heap.extract BB.heap.size heap.size:=by grind
 have e2:drawn=BB.drawn+(drawn-BB.drawn):=by omega
 rw[World.mk.injEq];exact⟨e1,rfl,e2,rfl,rfl⟩
theorem i5q{E:α->List D}{enc:α->List Value}{g:Nat}{cf:α->α->Int}(he:RH E enc k)(hg:iZ P g=true)(hcf:∀x y,Pure P G g [.agg (E x),.agg (E y)] (.int .i64 (cf x y)))
 {size:Nat}  (hG:∀m os (dk:Array α),dk.size=size->Glob G (sortWorldK enc k w blk off m dk os) (fun _=>none) []):Go.Proofs.CmpLays P g #[] enc k cf blk off size w:=by
 intro m os dk hs x y
 have A:∀z:α,VR (sortWorldK enc k w blk off m dk os) (fun _=>none) [] (.agg (enc z).toArray) (.agg (E z)):=fun z=>
  .agg _ _ (by simp[he.qP,he.ly]) fun j L=>by
   have:=he.RI (sortWorldK enc k w blk off m dk os) (fun _=>none) [] z j L;have e:(enc z).toArray.getD j undef=(enc z)[j]! :=by
    have hj2:j<(enc z).length:=by rw[he.ly, <-he.qP z];exact L
    simp[ca, hj2]
   rw[e];exact this
 have h:=((hcf x y []).2 (sortWorldK enc k w blk off m dk os) (fun _=>none) #[.agg (enc x).toArray,.agg (enc y).toArray] ⟨fun o ob h=>by simp at h,fun o o' ob ob' blk b b' h=>by simp at h⟩ (hG m os dk hs) rfl (fun j L=>by
  match j,L with
  |0,_=>exact A x
  |1,_=>exact A y)).calls hg
 refine h.mono fun e w' ⟨v,d,st',μ',U,⟨hd,hst⟩,_,hstep,Q⟩=>?_
 subst hd;subst hst
 have Q:=dy Q
 subst Q
 exact⟨U,i5p hstep.size hstep.os hstep.output hstep.tape.1 hstep.tape.2 fun j L=>hstep.M7 j L fun⟨o,ob,b,h,_⟩=>by simp at h⟩
theorem Br{enc:α->List Value}{d:Array α}:(sortWorldK enc k w blk off m d os).heap=w.heap.modify blk (onCells (putCells id off (flatK enc k d)))++os:=rfl
theorem d2Q{enc:α->List Value}{d:Array α}{c:Array Value}{ty:TypeId}{fr:Nat×Nat}(H:w.heap[blk]? =some (.cells c ty fr)):
 (sortWorldK enc k w blk off m d os).heap[blk]? =some (.cells (putCells id off (flatK enc k d) c) ty fr):=by
 have hlt:blk<w.heap.size:=(dT.1 H).1
 rw[Br,fg (by simpa using hlt),gw,if_pos rfl,H]
 rfl
theorem Kf{enc:α->List Value}{j:Nat}{d:Array α}(L:j<w.heap.size)(hne:j≠blk):
 (sortWorldK enc k w blk off m d os).heap[j]? =w.heap[j]? :=by
 rw[Br,fg (by simpa using L),gw,if_neg (fun e=>hne e.symm)]
theorem i5r{ρ:Ren}{E:α->List D}{enc:α->List Value}{k g o gen b:Nat}{cf:α->α->Int}{full:Bool}{st:St}{l:List α}(AM:Go.Proofs.SlLaysF0.n6 P ρ)(aE:∀w,(isAgg (ρ.t 24)).run P w= .ok true w)(zE:∀w,(Go.sizeOf (ρ.t 24)).run P w= .ok k w)
 (he:RH E enc k) (S:0<k) (hO:SWO (ltOf cf)) (hg:iZ P g=true) (H:iZ P (ρ.f 6)=true) (hcf:∀x y,Pure P G g [.agg (E x),.agg (E y)] (.int .i64 (cf x y)))
 (hlk:look st o=some (.arr gen k b (rows E l))) (hl:l.length<4611686018427387904):
 Am.Spec P G (ρ.f 6) [.ref full o gen 0 l.length,.fn g [] []] st (fun d st'=>d= .E8 []/\st'=C2 st [(o,.arr gen k b (rows E (bH cf l)))]):=by
 refine⟨trivial,fun w μ vs hs hG hn Q=>.inl ⟨H,?_⟩⟩
 have h0:=Q 0 B5
 have U:=Q 1 B5
 obtain⟨v0,v1,rfl⟩:∃a b,vs= #[a,b]:=by
  have:vs.size=2:=by simpa using hn
  refine⟨vs[0],vs[1],?_⟩;apply tt
  ·simpa using this
  ·grind
 have h0:VR w μ st v0 (.ref full o gen 0 l.length):=h0
 have U:VR w μ st v1 (.fn g [] []):=U
 obtain rfl:v1= .func (.func g) #[] #[]:=by
  cases U with
  |tr h=>cases h
  |fn _ vf vc _ _ hf K _ _=>grind
 have hst:st[o]? =some (some (.arr gen k b (rows E l))):=V7 hlk
 have ho:o<st.length:=E2 hlk
 cases h0 with
 |tr h=>cases h
 |ref _ _ _ _ _ _ _ _ _ _ hr=>
  obtain⟨a,cap,rfl,c1,c2,_,c4⟩:=hr k b (rows E l) hst;by_cases H6:l=[]
  ·subst H6;refine(Go.Proofs.AnyF.slices_SortFunc_none AM a cap _ w).mono fun e w' ⟨iC,nR⟩=>?_;subst nR;refine⟨_,.E8 [],st,μ,iC,⟨rfl,?_⟩,hs,Step.refl _ _ _,.E8 _ _ (fun j h=>absurd h (co _)) (fun j h=>absurd h (co _))⟩;have e:bH cf ([]:List α)=[]:=jb (by rw[(RF hO []).2.1];rfl);rw[e,lu (by simp[hlk])]
  ·have hlen:0<l.length:=km.2 H6;obtain⟨blk,base,hm,rfl,c,ty,aJ,hsz⟩:=c4.resolve_left M;rw[tp,ky]at*
   have ak:bk w μ st (μ o) k b (rows E l):=hs.obj o _ hst;have⟨bS,base',c',ty',hm',d2R,hsz',hcell⟩:=ak.loc.resolve_left (fun h=>by rw[hm]at h;cases h.1);rw[hm]at hm';cases hm';rw[aJ]at d2R;cases d2R;have hblk:blk<w.heap.size:=(dT.1 aJ).1;have hrl:(rows E l).length=l.length:=av l;have DQ:∀i j,i<l.length->j<k->c[base+(i*k+j)]? =some (enc (l.toArray[i]!))[j]! :=fun i j u L=>by
    have hi':i<(rows E l).length:=by rw[hrl];exact u
    have er:(rows E l)[i]=E l[i]:=by simp[rows]
    have hj':j<((rows E l)[i]).length:=by rw[er,he.qP];exact L
    have⟨v,e1,e2,_⟩:=hcell i j hi' hj';have e3:VR w μ st v ((E l[i])[j]'(by rw[he.qP];exact L)):=by grind
    rw[e1,he.to w μ st l[i] j (by rw[he.qP];exact L) v e3];simp[u]
   have hH:HoldsK enc k w blk base l.toArray:=fun t F=>by
    rw[size_flatK]at F;have jg:t<l.length*k:=by simpa using F
    have u:t / k<l.length:=Nat.div_lt_of_lt_mul (by rw[tx];exact jg);have L:t%k<k:=Nat.mod_lt _ S;have e1:t=t / k*k+t%k:=by rw[tx];exact(Nat.div_add_mod t k).symm
    refine⟨?_,?_⟩
    ·rw[get_flatK _ _ _ _ F];unfold l7;simp only[aJ];have:=DQ (t / k) (t%k) u L;rw[<-e1]at this;simpa using this
    ·unfold Ff;simp only[aJ];simp
   have hGl:∀m os (dk:Array α),dk.size=l.toArray.size->Glob G (sortWorldK enc k w blk base m dk os) (fun _=>none) []:=fun m os dk _=>by
    refine⟨fun gg cs e=>(hG.tab gg cs e).mono (fun b' hb' hnb=>⟨Kf hb' fun e2=>hnb ⟨o,_,base,hst,by rw[e2];exact hm⟩,fun⟨o',ob',b2,h3,_⟩=>by simp at h3⟩) ?_,fun gg cc e=>?_,fun gg e=>?_⟩
    ·rw[Br];simp
    ·have⟨U,X,ty,fr,h3⟩:=hG.all gg cc e;refine⟨by rw[Br];simp;omega,fun⟨o',ob',b2,h4,_⟩=>by simp at h4,ty,fr,?_⟩;rw[Kf U fun e2=>X ⟨o,_,base,hst,by rw[e2];exact hm⟩];exact h3
    ·have⟨U,X,m',ty,fr,h3⟩:=hG.int gg e;refine⟨by rw[Br];simp;omega,fun⟨o',ob',b2,h4,_⟩=>by simp at h4,m',ty,fr,?_⟩;rw[Kf U fun e2=>X ⟨o,_,base,hst,by rw[e2];exact hm⟩];exact h3
   refine(Go.Proofs.AnyQ.slices_SortFunc_eq AM k aE zE enc he.ly he.one cf hO g #[] blk base cap l.toArray w (fun args w2=>Ql hg args w2) (i5q he hg hcf hGl) hH hblk (by simpa using hl)).mono fun e w' ⟨iC,m,os,hw⟩=>?_;subst hw;have⟨_,Kg,_⟩:=RF hO l;have hds:(pdq (ltOf cf) l.toArray 0 l.toArray.size (rb l.toArray.size) true true)=(bH cf l).toArray:=by unfold bH;simp
   rw[hds];have key:=jS (w':=sortWorldK enc k w blk base m (bH cf l).toArray os) (μ':=μ) (ob':=.arr gen k b (rows E (bH cf l))) hs hst (fun _ _=>rfl)
    (fun b' hb' hne=>Kf hb' fun e2=>hne base (by rw[e2];exact hm)) (by rw[Br];simp) rfl rfl ⟨rfl,Dr.le (re _ _)⟩
    (fun b' base' e2=>.inl ⟨base',e2⟩) ⟨ae _,fun _=>⟨rfl,rfl,by rw[av,av,Kg],rfl,fun b' base' c2 rK hm2 oI=>by rw[hm]at hm2;cases hm2;rw[aJ]at oI;cases oI;exact⟨_,d2Q aJ,by simp[putCells]⟩⟩⟩
    (fun s=>⟨by rw[av,Kg];simpa[av]using ak.Pc,fun x A=>by
     obtain⟨y,_,rfl⟩:=bj.1 A;exact he.qP y,.inr ⟨blk,base,_,ty,hm,d2Q aJ,by rw[av,Kg];simpa[putCells,av]using hsz',fun i j u L=>by
     have hi2:i<(bH cf l).length:=by rw[av]at u;exact u
     have er:(rows E (bH cf l))[i]=E (bH cf l)[i]:=by simp[rows]
     have hj2:j<k:=by rw[er,he.qP]at L;exact L
     have hlt:i*k+j<(bH cf l).toArray.size*k:=by have:=Nat.mul_le_mul_right k (show i+1<=(bH cf l).toArray.size by simp only[nc];omega);rw[fk,Nat.one_mul]at this;omega
     have q1:(i*k+j) / k=i:=by rw[tx,Nat.mul_add_div S,Nat.div_eq_of_lt hj2,ky]
     have q2:(i*k+j)%k=j:=by rw[tx,Nat.mul_add_mod,Nat.mod_eq_of_lt hj2]
     have K:base+(i*k+j)<c.size:=by
      have h9:base+(rows E l).length*k<=c.size:=hsz';rw[av, <-Kg]at h9;have:i*k+j<(bH cf l).length*k:=by simpa using hlt
      omega
     refine⟨(enc (bH cf l)[i])[j]!, ?_,?_,?_⟩
     ·unfold putCells;rw[xp,dv K,kx,if_pos ⟨by omega,by rw[size_flatK];omega⟩,Nat.add_sub_cancel_left,get_flatK _ _ _ _ hlt,q1,q2];simp[hi2]
     ·have:=he.RI (sortWorldK enc k w blk base m (bH cf l).toArray os) μ (st.set o (some (.arr gen k b (rows E (bH cf l))))) (bH cf l)[i] j (by rw[he.qP];exact hj2);have e4:((rows E (bH cf l))[i])[j]=(E (bH cf l)[i])[j]'(by rw[he.qP];exact hj2):=by simp[er]
      rw[e4];exact this
     ·refine he.one (bH cf l)[i] _ ?_;have hj3:j<(enc (bH cf l)[i]).length:=by rw[he.ly];exact hj2
      rw[List.getElem!_eq_getElem?_getD,b7 hj3];exact bt hj3⟩⟩)
   exact⟨_,.E8 [],_,μ,iC,⟨rfl,rfl⟩,key.1,key.2,.E8 _ _ (fun j h=>absurd h (co _)) (fun j h=>absurd h (co _))⟩
end
end Go.Am
namespace Go.Am
open Go
variable {xx:Type} {x:J} {m:List (J×List J)} {nm:List J} {AD n oM:Nat} {z:Nat->List J} {g:Nat->Nat} {yn yk De l st:St}
theorem RJ{l:List Nat}(h:l.Nodup)(i j:Nat)(u:i<j)(L:j<l.length):((l[i]'(xF u L)=l[j])=False)/\((l[j]=l[i]'(xF u L))=False):=by have:=(pn.1 h) i j (xF u L) L u;exact⟨eq_false this,eq_false fun e=>this e.symm⟩
theorem d2S{d:Option Ob}:∀ {m:List (Nat×Ob)} (_:(m.map (·.1)).Nodup) (j:Nat) (L:j<m.length),qI m (m[j]).1 d=some (m[j]).2
 |(a,y)::m,h,0,_=>by
  show(if a=a then some y else _)=_
  rw[if_pos rfl];rfl
 |(a,y)::m,h,j+1,L=>by
  rw[bv,ia]at h;have L:j<m.length:=by simpa using L
  have hne:¬(m[j]).1=a:=fun e=>h.1 (bj.2 ⟨m[j],bt L,e⟩);show(if(m[j]).1=a then some y else qI m (m[j]).1 d)=some (m[j]).2
  rw[if_neg hne,d2S h.2 j L]
theorem d2T{x:Ob}:∀ {m:List (Nat×Ob)} (_:(m.map (·.1)).Nodup) (j:Nat) (L:j<m.length),qJ m (m[j]).1 x=m.set j ((m[j]).1,x)
 |(a,y)::m,h,0,_=>by
  show(if a=a then(a,x)::m else _)=_
  rw[if_pos rfl];rfl
 |(a,y)::m,h,j+1,L=>by
  rw[bv,ia]at h;have L:j<m.length:=by simpa using L
  have hne:¬(m[j]).1=a:=fun e=>h.1 (bj.2 ⟨m[j],bt L,e⟩);show(if(m[j]).1=a then(a,x)::m else(a,y)::qJ m (m[j]).1 x)=(a,y)::m.set j ((m[j]).1,x)
  rw[if_neg hne,d2T h.2 j L]
abbrev yD(α:Type):=Ob->Ob->Ob->Ob->Ob->Ob->Ob->Ob->Ob->Ob->Ob->Ob->Ob->Ob->Ob->Ob->Ob->Ob->α
@[reducible] def M18(x0 x1 x2 x3 x4 x5 x6 x7 x8 x9 xa xb xc xd xe xf xg xh:Nat)(X0 X1 X2 X3 X4 X5 X6 X7 X8 X9 Xa Xb Xc Xd Xe Xf Xg Xh:Ob):List (Nat×Ob):=[(x0,X0),(x1,X1),(x2,X2),(x3,X3),(x4,X4),(x5,X5),(x6,X6),(x7,X7),(x8,X8),(x9,X9),(xa,Xa),(xb,Xb),(xc,Xc),(xd,Xd),(xe,Xe),(xf,Xf),(xg,Xg),(xh,Xh)]
@[reducible] def gU(st:St)(m:yD (List (Nat×Ob)))(x:Nat)(p:yD Ob)(w:Ob->yD (List (Nat×Ob))):Prop:=
 (∀(l:St)(X0 X1 X2 X3 X4 X5 X6 X7 X8 X9 Xa Xb Xc Xd Xe Xf Xg Xh:Ob),look (C2 st (m X0 X1 X2 X3 X4 X5 X6 X7 X8 X9 Xa Xb Xc Xd Xe Xf Xg Xh)++l) x=some (p X0 X1 X2 X3 X4 X5 X6 X7 X8 X9 Xa Xb Xc Xd Xe Xf Xg Xh))/\(∀(l:St)(X0 X1 X2 X3 X4 X5 X6 X7 X8 X9 Xa Xb Xc Xd Xe Xf Xg Xh y:Ob),(C2 st (m X0 X1 X2 X3 X4 X5 X6 X7 X8 X9 Xa Xb Xc Xd Xe Xf Xg Xh)++l).set x (some y)=C2 st (w y X0 X1 X2 X3 X4 X5 X6 X7 X8 X9 Xa Xb Xc Xd Xe Xf Xg Xh)++l)/\(∀X0 X1 X2 X3 X4 X5 X6 X7 X8 X9 Xa Xb Xc Xd Xe Xf Xg Xh:Ob,look (C2 st (m X0 X1 X2 X3 X4 X5 X6 X7 X8 X9 Xa Xb Xc Xd Xe Xf Xg Xh)) x=some (p X0 X1 X2 X3 X4 X5 X6 X7 X8 X9 Xa Xb Xc Xd Xe Xf Xg Xh))/\∀X0 X1 X2 X3 X4 X5 X6 X7 X8 X9 Xa Xb Xc Xd Xe Xf Xg Xh y:Ob,(C2 st (m X0 X1 X2 X3 X4 X5 X6 X7 X8 X9 Xa Xb Xc Xd Xe Xf Xg Xh)).set x (some y)=C2 st (w y X0 X1 X2 X3 X4 X5 X6 X7 X8 X9 Xa Xb Xc Xd Xe Xf Xg Xh)
theorem iF{m:yD (List (Nat×Ob))}{x:Nat}{p:yD Ob}{w:Ob->yD (List (Nat×Ob))}(A:x<st.length)(j:Nat)(hn:∀X0 X1 X2 X3 X4 X5 X6 X7 X8 X9 Xa Xb Xc Xd Xe Xf Xg Xh,((m X0 X1 X2 X3 X4 X5 X6 X7 X8 X9 Xa Xb Xc Xd Xe Xf Xg Xh).map (·.1)).Nodup)(L:∀X0 X1 X2 X3 X4 X5 X6 X7 X8 X9 Xa Xb Xc Xd Xe Xf Xg Xh,∃h:j<(m X0 X1 X2 X3 X4 X5 X6 X7 X8 X9 Xa Xb Xc Xd Xe Xf Xg Xh).length,(m X0 X1 X2 X3 X4 X5 X6 X7 X8 X9 Xa Xb Xc Xd Xe Xf Xg Xh)[j]=(x,p X0 X1 X2 X3 X4 X5 X6 X7 X8 X9 Xa Xb Xc Xd Xe Xf Xg Xh)/\∀y,(m X0 X1 X2 X3 X4 X5 X6 X7 X8 X9 Xa Xb Xc Xd Xe Xf Xg Xh).set j (x,y)=w y X0 X1 X2 X3 X4 X5 X6 X7 X8 X9 Xa Xb Xc Xd Xe Xf Xg Xh:=by intros;exact⟨by simp,rfl,fun _=>rfl⟩):gU st m x p w:=by
 have a:∀X0 X1 X2 X3 X4 X5 X6 X7 X8 X9 Xa Xb Xc Xd Xe Xf Xg Xh,qI (m X0 X1 X2 X3 X4 X5 X6 X7 X8 X9 Xa Xb Xc Xd Xe Xf Xg Xh) x (look st x)=some (p X0 X1 X2 X3 X4 X5 X6 X7 X8 X9 Xa Xb Xc Xd Xe Xf Xg Xh):=by intro X0 X1 X2 X3 X4 X5 X6 X7 X8 X9 Xa Xb Xc Xd Xe Xf Xg Xh;have⟨U,X,_⟩:=L X0 X1 X2 X3 X4 X5 X6 X7 X8 X9 Xa Xb Xc Xd Xe Xf Xg Xh;have:=d2S (d:=look st x) (hn X0 X1 X2 X3 X4 X5 X6 X7 X8 X9 Xa Xb Xc Xd Xe Xf Xg Xh) j U;rwa[X]at this
 have b:∀X0 X1 X2 X3 X4 X5 X6 X7 X8 X9 Xa Xb Xc Xd Xe Xf Xg Xh y,qJ (m X0 X1 X2 X3 X4 X5 X6 X7 X8 X9 Xa Xb Xc Xd Xe Xf Xg Xh) x y=w y X0 X1 X2 X3 X4 X5 X6 X7 X8 X9 Xa Xb Xc Xd Xe Xf Xg Xh:=by intro X0 X1 X2 X3 X4 X5 X6 X7 X8 X9 Xa Xb Xc Xd Xe Xf Xg Xh y;have⟨U,X,h3⟩:=L X0 X1 X2 X3 X4 X5 X6 X7 X8 X9 Xa Xb Xc Xd Xe Xf Xg Xh;have:=d2T (x:=y) (hn X0 X1 X2 X3 X4 X5 X6 X7 X8 X9 Xa Xb Xc Xd Xe Xf Xg Xh) j U;rw[X]at this;rw[this,h3]
 refine⟨?_,?_,?_,?_⟩
 ·intros;rw[JN A,a]
 ·intros;rw[JO A,b]
 ·intros;rw[d1W A,a]
 ·intros;rw[d1X A,b]
theorem i5u{x0 x1 x2 x3 x4 x5 x6 x7 x8 x9 xa xb xc xd xe xf xg xh:Nat}(h: [x0,x1,x2,x3,x4,x5,x6,x7,x8,x9,xa,xb,xc,xd,xe,xf,xg,xh].Nodup)(h0:x0<st.length)(U:x1<st.length)(X:x2<st.length)(h3:x3<st.length)(h4:x4<st.length)(h5:x5<st.length)(h6:x6<st.length)(h7:x7<st.length)(h8:x8<st.length)(h9:x9<st.length)(RK:xa<st.length)(h11:xb<st.length)(h12:xc<st.length)(h13:xd<st.length)(h14:xe<st.length)(h15:xf<st.length)(h16:xg<st.length)(h17:xh<st.length){m:yD (List (Nat×Ob))}(hm:m=M18 x0 x1 x2 x3 x4 x5 x6 x7 x8 x9 xa xb xc xd xe xf xg xh:=by rfl):
 gU st m x0 (fun X0 _ _ _ _ _ _ _ _ _ _ _ _ _ _ _ _ _=>X0) (fun y _ X1 X2 X3 X4 X5 X6 X7 X8 X9 Xa Xb Xc Xd Xe Xf Xg Xh=>m y X1 X2 X3 X4 X5 X6 X7 X8 X9 Xa Xb Xc Xd Xe Xf Xg Xh)
 /\gU st m x1 (fun _ X1 _ _ _ _ _ _ _ _ _ _ _ _ _ _ _ _=>X1) (fun y X0 _ X2 X3 X4 X5 X6 X7 X8 X9 Xa Xb Xc Xd Xe Xf Xg Xh=>m X0 y X2 X3 X4 X5 X6 X7 X8 X9 Xa Xb Xc Xd Xe Xf Xg Xh)
 /\gU st m x2 (fun _ _ X2 _ _ _ _ _ _ _ _ _ _ _ _ _ _ _=>X2) (fun y X0 X1 _ X3 X4 X5 X6 X7 X8 X9 Xa Xb Xc Xd Xe Xf Xg Xh=>m X0 X1 y X3 X4 X5 X6 X7 X8 X9 Xa Xb Xc Xd Xe Xf Xg Xh)
 /\gU st m x3 (fun _ _ _ X3 _ _ _ _ _ _ _ _ _ _ _ _ _ _=>X3) (fun y X0 X1 X2 _ X4 X5 X6 X7 X8 X9 Xa Xb Xc Xd Xe Xf Xg Xh=>m X0 X1 X2 y X4 X5 X6 X7 X8 X9 Xa Xb Xc Xd Xe Xf Xg Xh)
 /\gU st m x4 (fun _ _ _ _ X4 _ _ _ _ _ _ _ _ _ _ _ _ _=>X4) (fun y X0 X1 X2 X3 _ X5 X6 X7 X8 X9 Xa Xb Xc Xd Xe Xf Xg Xh=>m X0 X1 X2 X3 y X5 X6 X7 X8 X9 Xa Xb Xc Xd Xe Xf Xg Xh)
 /\gU st m x5 (fun _ _ _ _ _ X5 _ _ _ _ _ _ _ _ _ _ _ _=>X5) (fun y X0 X1 X2 X3 X4 _ X6 X7 X8 X9 Xa Xb Xc Xd Xe Xf Xg Xh=>m X0 X1 X2 X3 X4 y X6 X7 X8 X9 Xa Xb Xc Xd Xe Xf Xg Xh)
 /\gU st m x6 (fun _ _ _ _ _ _ X6 _ _ _ _ _ _ _ _ _ _ _=>X6) (fun y X0 X1 X2 X3 X4 X5 _ X7 X8 X9 Xa Xb Xc Xd Xe Xf Xg Xh=>m X0 X1 X2 X3 X4 X5 y X7 X8 X9 Xa Xb Xc Xd Xe Xf Xg Xh)
 /\gU st m x7 (fun _ _ _ _ _ _ _ X7 _ _ _ _ _ _ _ _ _ _=>X7) (fun y X0 X1 X2 X3 X4 X5 X6 _ X8 X9 Xa Xb Xc Xd Xe Xf Xg Xh=>m X0 X1 X2 X3 X4 X5 X6 y X8 X9 Xa Xb Xc Xd Xe Xf Xg Xh)
 /\gU st m x8 (fun _ _ _ _ _ _ _ _ X8 _ _ _ _ _ _ _ _ _=>X8) (fun y X0 X1 X2 X3 X4 X5 X6 X7 _ X9 Xa Xb Xc Xd Xe Xf Xg Xh=>m X0 X1 X2 X3 X4 X5 X6 X7 y X9 Xa Xb Xc Xd Xe Xf Xg Xh)
 /\gU st m x9 (fun _ _ _ _ _ _ _ _ _ X9 _ _ _ _ _ _ _ _=>X9) (fun y X0 X1 X2 X3 X4 X5 X6 X7 X8 _ Xa Xb Xc Xd Xe Xf Xg Xh=>m X0 X1 X2 X3 X4 X5 X6 X7 X8 y Xa Xb Xc Xd Xe Xf Xg Xh)
 /\gU st m xa (fun _ _ _ _ _ _ _ _ _ _ Xa _ _ _ _ _ _ _=>Xa) (fun y X0 X1 X2 X3 X4 X5 X6 X7 X8 X9 _ Xb Xc Xd Xe Xf Xg Xh=>m X0 X1 X2 X3 X4 X5 X6 X7 X8 X9 y Xb Xc Xd Xe Xf Xg Xh)
 /\gU st m xb (fun _ _ _ _ _ _ _ _ _ _ _ Xb _ _ _ _ _ _=>Xb) (fun y X0 X1 X2 X3 X4 X5 X6 X7 X8 X9 Xa _ Xc Xd Xe Xf Xg Xh=>m X0 X1 X2 X3 X4 X5 X6 X7 X8 X9 Xa y Xc Xd Xe Xf Xg Xh)
 /\gU st m xc (fun _ _ _ _ _ _ _ _ _ _ _ _ Xc _ _ _ _ _=>Xc) (fun y X0 X1 X2 X3 X4 X5 X6 X7 X8 X9 Xa Xb _ Xd Xe Xf Xg Xh=>m X0 X1 X2 X3 X4 X5 X6 X7 X8 X9 Xa Xb y Xd Xe Xf Xg Xh)
 /\gU st m xd (fun _ _ _ _ _ _ _ _ _ _ _ _ _ Xd _ _ _ _=>Xd) (fun y X0 X1 X2 X3 X4 X5 X6 X7 X8 X9 Xa Xb Xc _ Xe Xf Xg Xh=>m X0 X1 X2 X3 X4 X5 X6 X7 X8 X9 Xa Xb Xc y Xe Xf Xg Xh)
 /\gU st m xe (fun _ _ _ _ _ _ _ _ _ _ _ _ _ _ Xe _ _ _=>Xe) (fun y X0 X1 X2 X3 X4 X5 X6 X7 X8 X9 Xa Xb Xc Xd _ Xf Xg Xh=>m X0 X1 X2 X3 X4 X5 X6 X7 X8 X9 Xa Xb Xc Xd y Xf Xg Xh)
 /\gU st m xf (fun _ _ _ _ _ _ _ _ _ _ _ _ _ _ _ Xf _ _=>Xf) (fun y X0 X1 X2 X3 X4 X5 X6 X7 X8 X9 Xa Xb Xc Xd Xe _ Xg Xh=>m X0 X1 X2 X3 X4 X5 X6 X7 X8 X9 Xa Xb Xc Xd Xe y Xg Xh)
 /\gU st m xg (fun _ _ _ _ _ _ _ _ _ _ _ _ _ _ _ _ Xg _=>Xg) (fun y X0 X1 X2 X3 X4 X5 X6 X7 X8 X9 Xa Xb Xc Xd Xe Xf _ Xh=>m X0 X1 X2 X3 X4 X5 X6 X7 X8 X9 Xa Xb Xc Xd Xe Xf y Xh)
 /\gU st m xh (fun _ _ _ _ _ _ _ _ _ _ _ _ _ _ _ _ _ Xh=>Xh) (fun y X0 X1 X2 X3 X4 X5 X6 X7 X8 X9 Xa Xb Xc Xd Xe Xf Xg _=>m X0 X1 X2 X3 X4 X5 X6 X7 X8 X9 Xa Xb Xc Xd Xe Xf Xg y):=by
 subst hm
 exact⟨iF h0 0 (by intros;exact h),iF U 1 (by intros;exact h),iF X 2 (by intros;exact h),iF h3 3 (by intros;exact h),iF h4 4 (by intros;exact h),iF h5 5 (by intros;exact h),iF h6 6 (by intros;exact h),iF h7 7 (by intros;exact h),iF h8 8 (by intros;exact h),iF h9 9 (by intros;exact h),iF RK 10 (by intros;exact h),iF h11 11 (by intros;exact h),iF h12 12 (by intros;exact h),iF h13 13 (by intros;exact h),iF h14 14 (by intros;exact h),iF h15 15 (by intros;exact h),iF h16 16 (by intros;exact h),iF h17 17 (by intros;exact h)⟩
theorem i5B{x0 x1 x2 x3 x4 x5 x6 x7 x8 x9 xa xb xc xd xe xf xg xh:Nat}(h: [x0,x1,x2,x3,x4,x5,x6,x7,x8,x9,xa,xb,xc,xd,xe,xf,xg,xh].Nodup): [x8,x9,xa].Nodup:=by have a:=(RJ h 8 9 D5 (show 9<18 by decide)).1;have b:=(RJ h 8 10 D5 (show 10<18 by decide)).1;have c:=(RJ h 9 10 D5 (show 10<18 by decide)).1;have a:(x8=x9)=False:=a;have b:(x8=xa)=False:=b;have c:(x9=xa)=False:=c;simp[a,b,c]
theorem RL{P:Program}{gl:Gl}{f:FuncId}{args:List D}{Y:St}{d0:D}{R:D->St->Prop}(h:Spec P gl f args st (fun d st'=>d=d0/\st'=Y))(k:R d0 Y):Spec P gl f args st R:=h.mono (by rintro _ _ ⟨rfl,rfl⟩;exact k)
section
variable {P:Program} {gl:Gl} {N n0:Nat} {keep:List Nat} {BE:AQ} {fr:Fr} {st:St} {c:Code} {id n:Nat}
theorem i5C{ρ σ:Type}{body:Nat->σ->Option (C1 ρ σ σ)}{Y:σ}{kk:σ->Option ρ}{e:ρ}(tl:Nat->σ->Fr->St->Prop)(qa:σ->Fr->St->Prop)
 (hn:∀k s b,body k s=some b->∃s',b= .B7 s') (h:B3 (K6 body n Y) kk=some e) (h0:∃B' De,O6 n0 B' De fr st/\tl 0 Y B' De)
 (hs:∀k s s' fr st,k<n->body k s=some (.B7 s')->tl k s fr st->F4 P gl N n0 keep c (fun ex fr st=>ex= .normal/\∃B' De,O6 n0 B' De fr st/\tl (k+1) s' B' De) fr st)
 (he:∀s fr st,tl n s fr st->F4 P gl N n0 keep c (fun ex fr st=>ex= .exit id/\∃B' De,O6 n0 B' De fr st/\qa s B' De) fr st)
 (S:∀s B' De fr st,kk s=some e->qa s B' De->O6 n0 B' De fr st->BE .normal fr st):F4 P gl N n0 keep (.block id (.loop c)) BE fr st:=by
 refine rV ?_
 unfold K6 at h
 have key:∀m k s fr st,k+m=n->B3 (mJ body m k s) kk=some e->tl k s fr st->F4 P gl N n0 keep (.loop c) (AQ.block id BE) fr st:=by
  intro m;induction m with
  |zero=>
   intro k s fr st hk' U u;have:k=n:=by omega
   subst this;refine xY (yc (he s fr st u) fun ex fr st hq=>?_);obtain⟨rfl,B',De,H,L⟩:=hq;show AQ.block id BE (.exit id) fr st;simp only[AQ.block,if_true];exact S s B' De fr st U L H
  |succ m ih=>
   intro k s fr st hk' U u;simp only[mJ]at U;cases H:body k s with
   |none=>rw[H]at U;cases U
   |some b=>rw[H]at U;obtain⟨s',rfl⟩:=hn k s b H;refine xY (yc (hs k s s' fr st M H u) fun ex fr st hq=>?_);obtain⟨rfl,B',De,H,hi'⟩:=hq;exact qH H (ih (k+1) s' B' De M U hi')
 have⟨B',De,H,u⟩:=h0
 exact qH H (key n 0 Y B' De M h u)
theorem d2U(a b:Nat):∀(k:Nat) {st:St},F4 P gl N n0 keep c BE fr (st++be k (some (.arr 0 a b [])))->F4 P gl N n0 keep c BE fr st
 |0,st,h=>by simpa using h
 |k+1,st,h=>S9 a b (d2U a b k (by rw[List.append_assoc,List.singleton_append, <-List.replicate_succ];exact h))
end
def fB:List J->J->Nat
 | [],_=>0
 |a::l,x=>if x=a then 0 else fB l x+1
theorem Bt:∀ {l:List J} {x:J},x∈l->fB l x<l.length/\get l (fB l x)=x
 |a::l,x,h=>by
  unfold fB;by_cases e:x=a
  ·rw[if_pos e];exact⟨by simp,e.symm⟩
  ·rw[if_neg e];have⟨U,X⟩:=Bt ((ce.1 h).resolve_left e);exact⟨by simpa using U,X⟩
theorem RN:∀ {l:List J} {k:Nat},l.Nodup->k<l.length->fB l (get l k)=k
 |a::l,0,_,_=>by unfold fB;rw[show get (a::l) 0=a from rfl,if_pos rfl]
 |a::l,k+1,h,S=>by
  have h':=ia.1 h;have hk':k<l.length:=by simpa using S
  have e1:get (a::l) (k+1)=get l k:=rfl;have hm:get l k∈l:=by unfold get;rw[ac,b7 hk'];exact bt hk'
  unfold fB;rw[e1,if_neg (fun e:get l k=a=>h'.1 (e▸hm)),RN h'.2 hk']
def ent(m:List (J×List J))(x:J):List J:=(assoc x m).getD []
theorem Kh{xx:Type}(x y:J)(v:xx):∀m:List (J×xx),assoc y (I4 x v m)=if y=x then some v else assoc y m
 | []=>by simp only[I4,assoc]
 |(a,C')::m=>by
  simp only[I4];by_cases e:x=a
  ·rw[if_pos e];simp only[assoc];by_cases e2:y=x
   ·rw[if_pos e2,if_pos e2]
   ·grind
  ·rw[if_neg e];simp only[assoc];rw[Kh x y v m];by_cases e2:y=a
   ·grind
   ·rw[if_neg e2,if_neg e2]
theorem d2V(x y:J)(l:List J)(m:List (J×List J)):ent (I4 x l m) y=if y=x then l else ent m y:=by unfold ent;rw[Kh];split<;>rfl
theorem d2W{xx:Type}{x:J}{v:xx}:∀ {m:List (J×xx)} {p:J×xx},p∈I4 x v m->p=(x,v)\/p∈m
 | [],p,h=>.inl (by simpa[I4]using h)
 |(a,C')::m,p,h=>by
  simp only[I4]at h;split at h
  ·grind
  ·rcases ce.1 h with h|h
   ·grind
   ·exact(d2W h).imp id (aw _)
theorem d2X{xx:Type}{x:J}:∀ {m:List (J×xx)},assoc x m=none->∀p∈m,p.1≠x
 |(a,C')::m,h,p,hp=>by
  simp only[assoc]at h;split at h
  ·cases h
  ·rename_i hne;rcases ce.1 hp with rfl|hp
   ·exact fun e=>hne e.symm
   ·exact d2X h p hp
theorem d2Y{xx:Type}(x:J)(v:xx):∀m:List (J×xx),(I4 x v m).map (·.1)=if x∈m.map (·.1)then m.map (·.1)else m.map (·.1)++[x]
 | []=>by simp[I4]
 |(a,C')::m=>by
  simp only[I4];by_cases e:x=a
  ·rw[if_pos e];simp[e]
  ·rw[if_neg e,bv,d2Y x v m];by_cases h:x∈m.map (·.1)
   ·grind
   ·grind
theorem i5D{v:xx}{m:List (J×xx)}(h:(m.map (·.1)).Nodup):((I4 x v m).map (·.1)).Nodup:=by
 rw[d2Y];split
 ·exact h
 ·grind
theorem d2Z{xx:Type}:∀ {m:List (J×xx)},(m.map (·.1)).Nodup->∀p∈m,assoc p.1 m=some p.2
 |(a,C')::m,h,p,hp=>by
  rw[bv,ia]at h;simp only[assoc];rcases ce.1 hp with rfl|hp
  ·rw[if_pos rfl]
  ·rw[if_neg (fun e:p.1=a=>h.1 (bj.2 ⟨p,hp,e⟩))];exact d2Z h.2 p hp
def mref(AD:Nat)(nm:List J)(g:Nat->Nat)(m:List (J×List J)):List (J×List D):=m.map fun p=>(p.1,[D.ref false (AD+fB nm p.1) (g (fB nm p.1)) 0 p.2.length])
theorem RO(AD:Nat)(nm:List J)(g:Nat->Nat)(x:J):∀m,assoc x (mref AD nm g m)=(assoc x m).map fun l=>[D.ref false (AD+fB nm x) (g (fB nm x)) 0 l.length]
 | []=>rfl
 |(a,C')::m=>by
  simp only[mref,bv,assoc]at*
  by_cases e:x=a
  ·grind
  ·rw[if_neg e,if_neg e];exact RO AD nm g x m
theorem d3a(AD:Nat)(nm:List J)(g g':Nat->Nat)(x:J)(l:List J):∀m,(∀p∈m,g' (fB nm p.1)=g (fB nm p.1))->I4 x [D.ref false (AD+fB nm x) (g' (fB nm x)) 0 l.length] (mref AD nm g m)=mref AD nm g' (I4 x l m)
 | [],_=>rfl
 |(a,C')::m,hg=>by
  have hr:∀q:List (J×List J),(∀p∈q,g' (fB nm p.1)=g (fB nm p.1))->mref AD nm g q=mref AD nm g' q:=fun q hq=>List.map_congr_left fun p hp=>by rw[hq p hp]
  have ih:=d3a AD nm g g' x l m fun p hp=>hg p (aw _ hp);have h0:=hg (a,C') (az ..);have hm:=hr m fun p hp=>hg p (aw _ hp);simp only[mref,bv,I4]at*
  by_cases e:x=a
  ·grind
  ·grind
structure Fam(yk:St)(oM AD:Nat)(nm:List J)(g:Nat->Nat)(z:Nat->List J)(m:List (J×List J)):Prop where
 mem:∀p∈m,p.1∈nm
 mp:look yk oM=some (.mps false (mref AD nm g m))
 ob:∀k,k<nm.length->look yk (AD+k)=some (.arr (g k) 1 16 (rows B2 (ent m (get nm k)++z k)))
 z0:∀k,k<nm.length->assoc (get nm k) m=none->z k=[]
 nd:(m.map (·.1)).Nodup
structure fC(st yk:St)(oM AD n:Nat):Prop where
 len:yk.length=st.length
 same:∀o,o≠oM->¬(AD<=o/\o<AD+n)->yk[o]? =st[o]?
theorem fC.refl(st:St)(oM AD n:Nat):fC st st oM AD n:=⟨rfl,fun _ _ _=>rfl⟩
theorem fC.trans(h:fC st yk oM AD n)(k:fC yk De oM AD n):fC st De oM AD n:=⟨k.len.trans h.len,fun o U X=>(k.same o U X).trans (h.same o U X)⟩
theorem fC.look{st yk:St}{oM AD n o:Nat}(h:fC st yk oM AD n)(U:o≠oM)(X:o<AD):Am.look yk o=Am.look st o:=by unfold Am.look;rw[h.same o U M]
theorem Fam.sc(hF:Fam yk oM AD nm g z m)(hC:fC st yk oM AD nm.length)(hsc:Q8 st.length st):Q8 yk.length yk:=fun o ob e=>by
 by_cases e1:o=oM
 ·subst e1;have:=V7 hF.mp;rw[e]at this;cases this;intro q hq;obtain⟨p,hp,rfl⟩:=bj.1 hq;have:=E2 (hF.ob _ (Bt (hF.mem p hp)).1);exact⟨this,trivial⟩
 ·by_cases e2:AD<=o/\o<AD+nm.length
  ·have:=V7 (hF.ob (o-AD) M);rw[show AD+(o-AD)=o by omega,e]at this;cases this;intro q hq;exact qF.sc (br _) _ q hq
  ·rw[hC.same o e1 e2]at e;rw[hC.len];exact hsc o ob e
theorem Fam.put{yk De:St}{oM AD k:Nat}{nm:List J}{g:Nat->Nat}{z:Nat->List J}{m:List (J×List J)}{gk:Nat}{x:J}{l zk:List J}(hF:Fam yk oM AD nm g z m)(hnd:nm.Nodup)(S:k<nm.length)(A:get nm k=x)
 (hg:(assoc x m).isSome=true->gk=g k) (hM:look De oM=some (.mps false (I4 x [D.ref false (AD+k) gk 0 l.length] (mref AD nm g m)))) (ho:look De (AD+k)=some (.arr gk 1 16 (rows B2 (l++zk)))) (hT:∀j,j<nm.length->j≠k->look De (AD+j)=look yk (AD+j)):
 Fam De oM AD nm (fun j=>if j=k then gk else g j) (fun j=>if j=k then zk else z j) (I4 x l m):=by
 have hix:fB nm x=k:=by rw[<-A];exact RN hnd S
 have hxm:x∈nm:=by rw[<-A];unfold get;rw[ac,b7 S];exact bt S
 have hne:∀j,j<nm.length->j≠k->get nm j≠x:=fun j L hjk e=>hjk (by rw[<-RN hnd L,e,hix])
 refine⟨fun p hp=>?_,?_,fun j L=>?_,fun j L h0=>?_,?_⟩
 ·rcases d2W hp with rfl|hp
  ·exact hxm
  ·exact hF.mem p hp
 ·rw[hM, <-d3a AD nm g (fun j=>if j=k then gk else g j) x l m fun p hp=>?_,hix,if_pos rfl];by_cases e:fB nm p.1=k
  ·rw[if_pos e,e];have ep:p.1=x:=by rw[<-(Bt (hF.mem p hp)).2,e,A]
   refine hg ?_;cases hs:assoc x m with
   |some v=>rfl
   |none=>exact absurd ep (d2X hs p hp)
  ·rw[if_neg e]
 ·by_cases e:j=k
  ·subst e;rw[if_pos rfl,if_pos rfl,ho,A,d2V,if_pos rfl]
  ·rw[if_neg e,if_neg e,hT j L e,hF.ob j L,d2V,if_neg (hne j L e)]
 ·by_cases e:j=k
  ·subst e;rw[A,Kh,if_pos rfl]at h0;cases h0
  ·rw[if_neg e];rw[Kh,if_neg (hne j L e)]at h0;exact hF.z0 j L h0
 ·exact i5D hF.nd
theorem i5F(h:fC (yn++l) yk oM AD n)(ho:oM<yn.length)(hB:AD+n<=yn.length):∃A',yk=A'++l/\fC yn A' oM AD n:=by
 have hlen:yk.length=yn.length+l.length:=by rw[h.len,aa]
 refine⟨yk.take yn.length,?_,?_,fun o U X=>?_⟩
 ·apply List.ext_getElem?;intro i;by_cases u:i<yn.length
  ·grind
  ·rw[c8 (by rw[db];omega),h.same i M M,c8 M,db,Nat.min_eq_left M]
 ·rw[db];omega
 ·by_cases u:o<yn.length
  ·rw[List.getElem?_take_of_lt u,h.same o U X,cy u]
  ·grind
theorem yE{yn l:St}{o:Nat}(h:o<yn.length):look (yn++l) o=look yn o:=by unfold look;rw[cy h]
theorem Fam.left(h:Fam (yn++l) oM AD nm g z m)(ho:oM<yn.length)(hB:AD+nm.length<=yn.length):Fam yn oM AD nm g z m:=
 ⟨h.mem,by rw[<-yE (l:=l) ho];exact h.mp,fun k S=>by rw[<-yE (l:=l) (show AD+k<yn.length by omega)];exact h.ob k S,h.z0,h.nd⟩
theorem Fam.app(h:Fam yn oM AD nm g z m):Fam (yn++l) oM AD nm g z m:=
 ⟨h.mem,by rw[yE (E2 h.mp)];exact h.mp,fun k S=>by rw[yE (E2 (h.ob k S))];exact h.ob k S,h.z0,h.nd⟩
theorem Fam.ups(h:Fam yk oM AD nm g z m)(hT:∀k,k<nm.length->look De (AD+k)=none):nQ yk De (.mps false (mref AD nm g m)) (.mps false (L5 (slc 1 16 B2) m)):=by
 have key:∀q:List (J×List J),(∀p∈q,p.1∈nm/\assoc p.1 m=some p.2)->oS yk De (mref AD nm g q) (L5 (slc 1 16 B2) q):=fun q=>by
  induction q with
  |nil=>intro _;exact .nil
  |cons p q ih=>intro hq;have⟨U,X⟩:=hq p (az ..);have S:=(Bt U).1;have ho:=h.ob _ S;rw[(Bt U).2]at ho;unfold ent at ho;rw[X]at ho;refine .cons _ _ _ _ _ ?_ (ih fun r hr=>hq r (aw _ hr));refine .ref _ _ _ _ _ 1 16 (rows B2 (p.2++z (fB nm p.1))) _ (V7 ho) (hT _ S) D5 (br _) ?_;rw[lj,i4g,rq rfl]
 exact .mps _ _ (key m fun p hp=>⟨h.mem p hp,d2Z h.nd p hp⟩)
theorem RP{a b c d e f:Nat}(h: [a,b,c,d,e,f].Nodup):(((a=b)=False)/\((b=a)=False))/\(((a=c)=False)/\((c=a)=False))/\(((a=d)=False)/\((d=a)=False))/\(((a=e)=False)/\((e=a)=False))/\(((a=f)=False)/\((f=a)=False))/\(((b=c)=False)/\((c=b)=False))/\(((b=d)=False)/\((d=b)=False))/\(((b=e)=False)/\((e=b)=False))/\(((b=f)=False)/\((f=b)=False))/\(((c=d)=False)/\((d=c)=False))/\(((c=e)=False)/\((e=c)=False))/\(((c=f)=False)/\((f=c)=False))/\(((d=e)=False)/\((e=d)=False))/\(((d=f)=False)/\((f=d)=False))/\((e=f)=False)/\((f=e)=False):=by grind
theorem d3c{α:Type}{E:α->List D}{x ys:List α}{k:Nat}{v:α}{e:List D}(hy:ys=x.set k v)(h:bq st De e (E v)):mC st De ((rows E x).set k e) (rows E ys):=by
 subst hy;refine d2m _ _ (by simp[rows]) fun j U X=>?_;have e2:(rows E (x.set k v))[j]=((rows E x).set k (E v))[j]'(by simpa[rows]using X):=by simp[rows,List.map_set]
 rw[e2];by_cases L:k=j
 ·grind
 ·simp only[List.getElem_set_ne L];exact bq.refl _
