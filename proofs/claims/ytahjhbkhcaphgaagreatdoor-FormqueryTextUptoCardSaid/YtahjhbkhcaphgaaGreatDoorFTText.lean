import Derived.Shelf.Strings.Cut
import Derived.Shelf.Strings.Split
import Derived.Shelf.Strings.BuilderF
import Derived.Shelf.Strings.OnBuilder
import Derived.Test.YtahjhbkhcaphgaaGreatDoorFTBase
set_option linter.unusedVariables false
set_option linter.unusedSimpArgs false
namespace Go.Proofs.YtahjhbkhcaphgaaGreatDoor
open Go Go.Am Go.Shelf Go.RowKit
def DP:Ren:=⟨fun x=>if x=138 then 67 else if x=143 then 68 else if x=145 then 23 else if x=146 then 24 else if x=156 then 16 else if x=165 then 38 else if x=166 then 39 else if x=167 then 62 else if x=169 then 40 else if x=195 then 95 else if x=197 then 96 else if x=217 then 91 else if x=218 then 97 else if x=219 then 65 else if x=220 then 43 else if x=221 then 44 else if x=224 then 93 else if x=225 then 92 else if x=240 then 60 else if x=241 then 61 else if x=260 then 113 else if x=266 then 111 else if x=267 then 94 else if x=268 then 66 else if x=276 then 89 else if x=277 then 90 else if x=314 then 112 else x,
 fun x=>if x=31 then 22 else if x=37 then 81 else if x=46 then 137 else if x=51 then 156 else if x=59 then 63 else if x=70 then 80 else if x=72 then 83 else if x=75 then 86 else if x=76 then 87 else if x=80 then 89 else if x=105 then 144 else if x=119 then 168 else if x=127 then 109 else if x=138 then 170 else if x=139 then 171 else if x=146 then 159 else if x=164 then 138 else x,fun x=>if x=1 then 0 else if x=3 then 1 else if x=4 then 2 else if x=17 then 3 else if x=18 then 4 else if x=19 then 5 else x⟩
theorem FI:Go.Proofs.Lays.n145 Tryz.prog DP where
 mixed:=follows
 f145:=Tryz.func23.trans (by kernel_rfl)
 f217:=Tryz.func91.trans (by kernel_rfl)
 f219:=Tryz.func65.trans (by kernel_rfl)
 f220:=Tryz.func43.trans (by kernel_rfl)
 f224:=Tryz.func93.trans (by kernel_rfl)
 f225:=Tryz.func92.trans (by kernel_rfl)
 f266:=Tryz.func111.trans (by kernel_rfl)
 f267:=Tryz.func94.trans (by kernel_rfl)
 f314:=Tryz.func112.trans (by kernel_rfl)
 t3:=Tryz.underlying3
 a3:=Tryz.isAgg3
 z3:=Tryz.sizeOf3
 v3:=Tryz.zeroValue3
 t4:=Tryz.underlying4
 a4:=Tryz.isAgg4
 z4:=Tryz.sizeOf4
 v4:=Tryz.zeroValue4
 t5:=Tryz.underlying5
 a5:=Tryz.isAgg5
 z5:=Tryz.sizeOf5
 v5:=Tryz.zeroValue5
 t9:=Tryz.underlying9
 a9:=Tryz.isAgg9
 z9:=Tryz.sizeOf9
 v9:=Tryz.zeroValue9
 t46:=Tryz.underlying137
 a46:=Tryz.isAgg137
 z46:=Tryz.sizeOf137
 v46:=Tryz.zeroValue137
 t51:=Tryz.underlying156
 a51:=Tryz.isAgg156
 z51:=Tryz.sizeOf156
 v51:=Tryz.zeroValue156
 t59:=Tryz.underlying63
 a59:=Tryz.isAgg63
 z59:=Tryz.sizeOf63
 v59:=Tryz.zeroValue63
 t146:=Tryz.underlying159
 a146:=Tryz.isAgg159
 z146:=Tryz.sizeOf159
 v146:=Tryz.zeroValue159
 g1:=by kernel_rfl
theorem FJ:Go.Proofs.Lays.n146 Tryz.prog DP where
 mixed:=follows
 f138:=Tryz.func67.trans (by kernel_rfl)
 f143:=Tryz.func68.trans (by kernel_rfl)
 f146:=Tryz.func24.trans (by kernel_rfl)
 f195:=Tryz.func95.trans (by kernel_rfl)
 f197:=Tryz.func96.trans (by kernel_rfl)
 f217:=Tryz.func91.trans (by kernel_rfl)
 f218:=Tryz.func97.trans (by kernel_rfl)
 f219:=Tryz.func65.trans (by kernel_rfl)
 f221:=Tryz.func44.trans (by kernel_rfl)
 f224:=Tryz.func93.trans (by kernel_rfl)
 f225:=Tryz.func92.trans (by kernel_rfl)
 f260:=Tryz.func113.trans (by kernel_rfl)
 f266:=Tryz.func111.trans (by kernel_rfl)
 f267:=Tryz.func94.trans (by kernel_rfl)
 f268:=Tryz.func66.trans (by kernel_rfl)
 f314:=Tryz.func112.trans (by kernel_rfl)
 t0:=Tryz.underlying0
 a0:=Tryz.isAgg0
 z0:=Tryz.sizeOf0
 v0:=Tryz.zeroValue0
 t3:=Tryz.underlying3
 a3:=Tryz.isAgg3
 z3:=Tryz.sizeOf3
 v3:=Tryz.zeroValue3
 t4:=Tryz.underlying4
 a4:=Tryz.isAgg4
 z4:=Tryz.sizeOf4
 v4:=Tryz.zeroValue4
 t5:=Tryz.underlying5
 a5:=Tryz.isAgg5
 z5:=Tryz.sizeOf5
 v5:=Tryz.zeroValue5
 t9:=Tryz.underlying9
 a9:=Tryz.isAgg9
 z9:=Tryz.sizeOf9
 v9:=Tryz.zeroValue9
 t21:=Tryz.underlying21
 a21:=Tryz.isAgg21
 z21:=Tryz.sizeOf21
 v21:=Tryz.zeroValue21
 t31:=Tryz.underlying22
 a31:=Tryz.isAgg22
 z31:=Tryz.sizeOf22
 v31:=Tryz.zeroValue22
 t46:=Tryz.underlying137
 a46:=Tryz.isAgg137
 z46:=Tryz.sizeOf137
 v46:=Tryz.zeroValue137
 t51:=Tryz.underlying156
 a51:=Tryz.isAgg156
 z51:=Tryz.sizeOf156
 v51:=Tryz.zeroValue156
 t105:=Tryz.underlying144
 a105:=Tryz.isAgg144
 z105:=Tryz.sizeOf144
 v105:=Tryz.zeroValue144
 t119:=Tryz.underlying168
 a119:=Tryz.isAgg168
 z119:=Tryz.sizeOf168
 t138:=Tryz.underlying170
 a138:=Tryz.isAgg170
 z138:=Tryz.sizeOf170
 v138:=Tryz.zeroValue170
 t139:=Tryz.underlying171
 a139:=Tryz.isAgg171
 z139:=Tryz.sizeOf171
 v139:=Tryz.zeroValue171
 t146:=Tryz.underlying159
 a146:=Tryz.isAgg159
 z146:=Tryz.sizeOf159
 v146:=Tryz.zeroValue159
 g1:=by kernel_rfl
 g3:=by kernel_rfl
 g4:=by kernel_rfl
theorem Bj:Go.Proofs.Lays.n156 Tryz.prog DP where
 mixed:=follows
 f156:=Tryz.func16.trans (by kernel_rfl)
 f165:=Tryz.func38.trans (by kernel_rfl)
 f166:=Tryz.func39.trans (by kernel_rfl)
 f169:=Tryz.func40.trans (by kernel_rfl)
 f240:=Tryz.func60.trans (by kernel_rfl)
 f241:=Tryz.func61.trans (by kernel_rfl)
 f276:=Tryz.func89.trans (by kernel_rfl)
 f277:=Tryz.func90.trans (by kernel_rfl)
 t0:=Tryz.underlying0
 a0:=Tryz.isAgg0
 z0:=Tryz.sizeOf0
 v0:=Tryz.zeroValue0
 t3:=Tryz.underlying3
 a3:=Tryz.isAgg3
 z3:=Tryz.sizeOf3
 v3:=Tryz.zeroValue3
 t4:=Tryz.underlying4
 a4:=Tryz.isAgg4
 z4:=Tryz.sizeOf4
 v4:=Tryz.zeroValue4
 t9:=Tryz.underlying9
 a9:=Tryz.isAgg9
 z9:=Tryz.sizeOf9
 v9:=Tryz.zeroValue9
 t20:=Tryz.underlying20
 a20:=Tryz.isAgg20
 z20:=Tryz.sizeOf20
 v20:=Tryz.zeroValue20
 t31:=Tryz.underlying22
 a31:=Tryz.isAgg22
 z31:=Tryz.sizeOf22
 v31:=Tryz.zeroValue22
 t37:=Tryz.underlying81
 a37:=Tryz.isAgg81
 z37:=Tryz.sizeOf81
 v37:=Tryz.zeroValue81
 t70:=Tryz.underlying80
 a70:=Tryz.isAgg80
 z70:=Tryz.sizeOf80
 v70:=Tryz.zeroValue80
 t72:=Tryz.underlying83
 a72:=Tryz.isAgg83
 z72:=Tryz.sizeOf83
 v72:=Tryz.zeroValue83
 t75:=Tryz.underlying86
 a75:=Tryz.isAgg86
 z75:=Tryz.sizeOf86
 v75:=Tryz.zeroValue86
 t76:=Tryz.underlying87
 a76:=Tryz.isAgg87
 z76:=Tryz.sizeOf87
 v76:=Tryz.zeroValue87
 t127:=Tryz.underlying109
 a127:=Tryz.isAgg109
 z127:=Tryz.sizeOf109
 v127:=Tryz.zeroValue109
 t164:=Tryz.underlying138
 a164:=Tryz.isAgg138
 z164:=Tryz.sizeOf138
 v164:=Tryz.zeroValue138
theorem FK:Go.Proofs.Lays.n166 Tryz.prog DP where
 mixed:=follows
 f166:=Tryz.func39.trans (by kernel_rfl)
 f240:=Tryz.func60.trans (by kernel_rfl)
 f276:=Tryz.func89.trans (by kernel_rfl)
 t0:=Tryz.underlying0
 a0:=Tryz.isAgg0
 z0:=Tryz.sizeOf0
 v0:=Tryz.zeroValue0
 t3:=Tryz.underlying3
 a3:=Tryz.isAgg3
 z3:=Tryz.sizeOf3
 v3:=Tryz.zeroValue3
 t4:=Tryz.underlying4
 a4:=Tryz.isAgg4
 z4:=Tryz.sizeOf4
 v4:=Tryz.zeroValue4
 t9:=Tryz.underlying9
 a9:=Tryz.isAgg9
 z9:=Tryz.sizeOf9
 v9:=Tryz.zeroValue9
 t20:=Tryz.underlying20
 a20:=Tryz.isAgg20
 z20:=Tryz.sizeOf20
 v20:=Tryz.zeroValue20
 t37:=Tryz.underlying81
 a37:=Tryz.isAgg81
 z37:=Tryz.sizeOf81
 v37:=Tryz.zeroValue81
 t70:=Tryz.underlying80
 a70:=Tryz.isAgg80
 z70:=Tryz.sizeOf80
 v70:=Tryz.zeroValue80
 t72:=Tryz.underlying83
 a72:=Tryz.isAgg83
 z72:=Tryz.sizeOf83
 v72:=Tryz.zeroValue83
 t75:=Tryz.underlying86
 a75:=Tryz.isAgg86
 z75:=Tryz.sizeOf86
 v75:=Tryz.zeroValue86
 t164:=Tryz.underlying138
 a164:=Tryz.isAgg138
 z164:=Tryz.sizeOf138
 v164:=Tryz.zeroValue138
theorem FL:Go.Proofs.Lays.n167 Tryz.prog DP where
 mixed:=follows
 f167:=Tryz.func62.trans (by kernel_rfl)
 f240:=Tryz.func60.trans (by kernel_rfl)
 f276:=Tryz.func89.trans (by kernel_rfl)
 t0:=Tryz.underlying0
 a0:=Tryz.isAgg0
 z0:=Tryz.sizeOf0
 v0:=Tryz.zeroValue0
 t4:=Tryz.underlying4
 a4:=Tryz.isAgg4
 z4:=Tryz.sizeOf4
 v4:=Tryz.zeroValue4
 t5:=Tryz.underlying5
 a5:=Tryz.isAgg5
 z5:=Tryz.sizeOf5
 v5:=Tryz.zeroValue5
 t9:=Tryz.underlying9
 a9:=Tryz.isAgg9
 z9:=Tryz.sizeOf9
 v9:=Tryz.zeroValue9
 t20:=Tryz.underlying20
 a20:=Tryz.isAgg20
 z20:=Tryz.sizeOf20
 v20:=Tryz.zeroValue20
 t37:=Tryz.underlying81
 a37:=Tryz.isAgg81
 z37:=Tryz.sizeOf81
 v37:=Tryz.zeroValue81
 t70:=Tryz.underlying80
 a70:=Tryz.isAgg80
 z70:=Tryz.sizeOf80
 v70:=Tryz.zeroValue80
 t72:=Tryz.underlying83
 a72:=Tryz.isAgg83
 z72:=Tryz.sizeOf83
 v72:=Tryz.zeroValue83
 t75:=Tryz.underlying86
 a75:=Tryz.isAgg86
 z75:=Tryz.sizeOf86
 v75:=Tryz.zeroValue86
 t164:=Tryz.underlying138
 a164:=Tryz.isAgg138
 z164:=Tryz.sizeOf138
 v164:=Tryz.zeroValue138
theorem FM:Go.Proofs.Lays.n169 Tryz.prog DP where
 mixed:=follows
 f169:=Tryz.func40.trans (by kernel_rfl)
 t0:=Tryz.underlying0
 a0:=Tryz.isAgg0
 z0:=Tryz.sizeOf0
 v0:=Tryz.zeroValue0
 t3:=Tryz.underlying3
 a3:=Tryz.isAgg3
 z3:=Tryz.sizeOf3
 v3:=Tryz.zeroValue3
 t9:=Tryz.underlying9
 a9:=Tryz.isAgg9
 z9:=Tryz.sizeOf9
 v9:=Tryz.zeroValue9
 t37:=Tryz.underlying81
 a37:=Tryz.isAgg81
 z37:=Tryz.sizeOf81
 v37:=Tryz.zeroValue81
 t70:=Tryz.underlying80
 a70:=Tryz.isAgg80
 z70:=Tryz.sizeOf80
 v70:=Tryz.zeroValue80
 t72:=Tryz.underlying83
 a72:=Tryz.isAgg83
 z72:=Tryz.sizeOf83
 v72:=Tryz.zeroValue83
 t127:=Tryz.underlying109
 a127:=Tryz.isAgg109
 z127:=Tryz.sizeOf109
 v127:=Tryz.zeroValue109
theorem tK:Go.Proofs.Builder.Extra Tryz.prog DP where
 sizeBuilder:=by kernel_rfl
 liesBuilder:=by kernel_rfl
 t5:=Tryz.underlying5
 a5:=Tryz.isAgg5
 z5:=Tryz.sizeOf5
 v5:=Tryz.zeroValue5
 infoByte:=by kernel_rfl
 cellsByte:=by kernel_rfl
 sizeByte:=by kernel_rfl
 neB5:=by decide
theorem args2{vs:Array Value}(h:vs.size=2):∃a b,vs= #[a,b]:=by
 obtain⟨l⟩:=vs
 match l,h with
 | [a,b],_=>exact⟨a,b,rfl⟩
theorem fG(s:Bs):(bs s).data.toList=s:=by simp[bs]
theorem dI(s:Bs):(bs s).size=s.length:=by simp[bs,ByteArray.size]
theorem DQ{w:World}{μ:Mu}{st:St}(hg:Glob gl w μ st):∃m,w.cell? ⟨0,0,none⟩=some (.int .i64 m):=by
 obtain⟨_,_,m,ty,fr,hm⟩:=hg.int 0 rfl
 exact⟨m,by simp[World.cell?, hm]⟩
def Lc(s sep:Bs):Option (Bs×Bs×Bool):=chk (s.length<4294967281) (some (Lib.cut s sep))
theorem FN(s sep:Bs)(r:Bs×Bs×Bool)(h:Lc s sep=some r):Pure Tryz.prog gl 23 [.str s,.str sep] (.tup [.str r.1,.str r.2.1,.bool r.2.2]):=by
 intro st
 obtain⟨h0,h⟩:=Br h
 cases h
 refine⟨trivial,fun w μ vs hs hg hn hv=>?_⟩
 have e0:=aS (hv 0 (by simp))
 have e1:=aS (hv 1 (by simp))
 obtain⟨a,b,rfl⟩:=args2 (show vs.size=2 by simpa using hn)
 obtain rfl:a= .string (bs s):=e0
 obtain rfl:b= .string (bs sep):=e1
 obtain⟨m,hm⟩:=DQ hg
 refine .inl ⟨by unfold fB;rw[Tryz.func23];kernel_rfl,?_⟩
 refine(Any.strings_Cut FI (bs s) (bs sep) m w (by rw[dI];exact h0) hm).mono fun e w' ⟨h1,n,h2⟩=>?_
 subst h2
 rw[fG,fG]at h1
 have g:=jh (w':=w.drewN n) hs (by simp[World.drewN]) rfl rfl ⟨rfl,Dr.le (by simp[World.drewN])⟩ (fun j hj=>rfl)
 refine⟨_,_,st,μ,h1,⟨rfl,rfl⟩,g.1,g.2,?_⟩
 refine .tup _ _ (fun j hj _=>hj) (fun j hj=>?_)
 match j,hj with
 |0,_=>exact iF _ _ _ _
 |1,_=>exact iF _ _ _ _
 |2,_=>exact O4 _ _ _ _
def qw(s sep:Bs):Option (List Bs):=chk (s.length<4294967281∧1≤sep.length) (some (Lib.split s sep))
theorem tL(s sep:Bs)(r:List Bs)(h:qw s sep=some r):Pure Tryz.prog gl 24 [.str s,.str sep] (.sl false 1 16 (rows w9 r)):=by
 intro st
 obtain⟨⟨h0,h1⟩,h⟩:=Br h
 cases h
 refine⟨trivial,fun w μ vs hs hg hn hv=>?_⟩
 have e0:=aS (hv 0 (by simp))
 have e1:=aS (hv 1 (by simp))
 obtain⟨a,b,rfl⟩:=args2 (show vs.size=2 by simpa using hn)
 obtain rfl:a= .string (bs s):=e0
 obtain rfl:b= .string (bs sep):=e1
 obtain⟨m,hm⟩:=DQ hg
 refine .inl ⟨by unfold fB;rw[Tryz.func24];kernel_rfl,?_⟩
 refine(Any.strings_Split FJ (by kernel_rfl) (bs s) (bs sep) m w (by rw[dI];exact h0) hm (by rw[dI];exact h1)).mono fun e w' ⟨h2,h3⟩=>?_
 obtain⟨xs,hxs⟩:∃xs,xs=Lib.splitB (bs sep) 0 (Lib.countB (bs s) (bs sep)) (bs s):=⟨_,rfl⟩
 have el:xs.map (·.data.toList)=Lib.split s sep:=by rw[hxs,Lib.splitB_data,fG,fG];rfl
 have en:xs.length=Lib.countB (bs s) (bs sep)+1:=by rw[hxs];exact Lib.splitB_all (bs sep) (by rw[dI];exact h1) 0 _ (bs s) rfl
 have hle:=Lib.countB_le (bs sep) (by rw[dI];exact h1) (bs s).size (bs s) (Nat.le_refl _)
 rw[dI]at hle
 rw[←hxs]at h3
 rw[←en]at h2
 subst h3
 have g:=jh (w':=w.alloc (.cells (xs.map Value.string).toArray (DP.t 9))) hs (by simp only[World.alloc,Array.size_push];omega) rfl rfl ⟨rfl,Dr.le (Nat.le_refl _)⟩ (fun j hj=>by simp only[World.alloc,Array.getElem?_push];rw[if_neg (by omega)])
 refine⟨_,_,st,μ,h2,⟨rfl,rfl⟩,g.1,g.2,?_⟩
 rw[←el]
 refine .tr (.sl false 1 16 _ _ _ _ (fun i _=>.string (xs.getD i default)) (by simp[rows]) (Nat.le_refl _) (fun e=>by cases e) (by simp only[rows,List.length_map];unfold top;omega) (by decide) (fun e he=>?_) (.inr ⟨w.heap.size,0,rfl,by simp only[World.alloc,Array.size_push];omega,fun ho=>?_,fun i j hi hj=>?_⟩) (fun i j hi hj=>?_))
 ·obtain⟨x,_,rfl⟩:=List.mem_map.1 he
  rfl
 ·exact Nat.lt_irrefl _ (nA hs ho)
 ·have hi':i<xs.length:=by simpa[rows]using hi
  obtain rfl:j=0:=by omega
  simp only[World.cell?_alloc_new,Nat.zero_add,Nat.mul_one,Nat.add_zero]
  simp[hi']
 ·have hi':i<xs.length:=by simpa[rows]using hi
  have e:(rows w9 (xs.map (·.data.toList)))[i]=[.str (xs[i].data.toList)]:=by simp[rows,w9]
  have hj':j=0:=by rw[e]at hj;simpa using hj
  subst hj'
  have:(rows w9 (xs.map (·.data.toList)))[i][0]= .str (xs[i].data.toList):=by simp[rows,w9]
  rw[this]
  have hx:xs.getD i default=bs (xs[i].data.toList):=by simp[hi',bs]
  rw[hx]
  exact .str _
def xM(l:List Bs)(sep:Bs):Option Bs:=chk ((Lib.join l sep).length≤top) (some (Lib.join l sep))
theorem qy{w:World}{own:Nat→Prop}{a:Value}{l:List Bs}(sep:Bs)(e0:TR w own a (.sl false 1 16 (rows w9 l)))(hL:(Lib.join l sep).length≤top):
 Calls Tryz.prog 16 #[a,.string (bs sep)] w fun e w'=>e= .returned (.string (bs (Lib.join l sep)))∧Below w.heap.size w w':=by
 have em:(l.map bs).map (·.data.toList)=l:=by rw[List.map_map];exact(List.map_congr_left fun x _=>fG x).trans (List.map_id _)
 cases e0 with
 |sl _ _ _ _ ad len cap cv hlen hcap hfull hb hb1 hn ha hc=>
  have Bl:len=(l.map bs).length:=by rw[hlen];simp[rows]
  subst Bl
  rcases ha with ha|⟨blk,off,rfl,hblk,_,ha⟩
  ·obtain rfl:l=[]:=by simpa[rows]using ha
   refine(Any.strings_Join_none Bj tK ad cap (bs sep) w).mono fun e w' ⟨h1,h2⟩=>?_
   subst h2
   exact⟨h1,Below.refl _ _⟩
  ·have hl:l.length≤top:=by
    simp only[rows,List.length_map]at hb
    omega
   refine(Any.strings_Join Bj tK blk off cap (l.map bs) (bs sep) w (fun j x hx=>?_) hblk (by simpa[top]using hl) hcap (by rw[em,fG];simpa[top]using hL)).mono fun e w' ⟨h1,h2⟩=>?_
   ·obtain⟨hj,hx'⟩:=List.getElem?_eq_some_iff.1 hx
    have hj':j<(rows w9 l).length:=by simpa[rows]using hj
    have e1:=ha j 0 hj' (by decide)
    rw[Nat.mul_one,Nat.add_zero]at e1
    rw[e1]
    have e2:=hc j 0 hj' (by simp[rows,w9])
    have e3:(rows w9 l)[j][0]'(by simp[rows,w9])= .str (l[j]'(by simpa using hj)):=by simp[rows,w9]
    rw[e3]at e2
    have e4:cv j 0= .string (bs (l[j]'(by simpa using hj))):=by
     generalize cv j 0=v at e2⊢
     cases e2
     rfl
    rw[e4, ←hx']
    simp
   ·rw[em,fG]at h1
    exact⟨h1,h2⟩
theorem rO(l:List Bs)(sep:Bs)(r:Bs)(h:xM l sep=some r):Pure Tryz.prog gl 16 [.sl false 1 16 (rows w9 l),.str sep] (.str r):=by
 intro st
 obtain⟨hL,h⟩:=Br h
 cases h
 refine⟨trivial,fun w μ vs hs hg hn hv=>?_⟩
 have e0:=hv 0 (by simp)
 have e1:=aS (hv 1 (by simp))
 obtain⟨a,b,rfl⟩:=args2 (show vs.size=2 by simpa using hn)
 replace e0:VR w μ st a (.sl false 1 16 (rows w9 l)):=e0
 obtain rfl:b= .string (bs sep):=e1
 refine .inl ⟨by unfold fB;rw[Tryz.func16];kernel_rfl,?_⟩
 cases e0 with
 |tr e0=>
  refine(qy sep e0 hL).mono fun e w' ⟨h1,h2⟩=>?_
  have g:=jh (w':=w') hs h2.size h2.os h2.output ⟨h2.tape,trivial⟩ (fun j hj=>h2.block j hj)
  exact⟨_,_,st,μ,h1,⟨rfl,rfl⟩,g.1,g.2,iF _ _ _ _⟩
end Go.Proofs.YtahjhbkhcaphgaaGreatDoor
