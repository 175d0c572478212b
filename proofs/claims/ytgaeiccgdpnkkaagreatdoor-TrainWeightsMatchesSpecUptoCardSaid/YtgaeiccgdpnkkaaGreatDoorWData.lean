import GoSem.PinnedTables
import Derived.Test.YtgaeiccgdpnkkaaGreatDoorWAm3
set_option linter.unusedVariables false
set_option linter.unusedSimpArgs false
namespace Go.Proofs.YtgaeiccgdpnkkaaGreatDoor
open Go Go.Am
structure Xf where
 name : Bs
 of_ : Int
 value : Int
instance : Inhabited Xf := ⟨⟨default, default, default⟩⟩
def Xf.cells (x : Xf) : List D := [.str x.name, .int .i64 x.of_, .int .i64 x.value]
instance : d2K Xf.cells 3 := ⟨fun _ => rfl, fun _ => rfl, fun _ => rfl⟩
theorem Xf.XF (x : Xf) : Xf.cells x = [.str x.name, .int .i64 x.of_, .int .i64 x.value] := rfl
theorem Xf.get_eq (l : List Xf) (k : Nat) : (rows Xf.cells l).getD k [.str [], .int .i64 0, .int .i64 0] = Xf.cells (get l k) := Ya (E := Xf.cells) l k
attribute [go_sem] Xf.XF Xf.get_eq
structure WT where
 name : Bs
 parents : (List Int)
instance : Inhabited WT := ⟨⟨default, default⟩⟩
def WT.cells (x : WT) : List D := [.str x.name, .sl false 1 8 (rows XM x.parents)]
instance : d2K WT.cells 2 := ⟨fun _ => rfl, fun _ => rfl, fun _ => rfl⟩
theorem WT.XF (x : WT) : WT.cells x = [.str x.name, .sl false 1 8 (rows XM x.parents)] := rfl
theorem WT.get_eq (l : List WT) (k : Nat) : (rows WT.cells l).getD k [.str [], .sl false 1 8 []] = WT.cells (get l k) := Ya (E := WT.cells) l k
attribute [go_sem] WT.XF WT.get_eq
structure WU where
 types : (List WT)
 Xw : (List Xf)
instance : Inhabited WU := ⟨⟨default, default⟩⟩
def WU.cells (x : WU) : List D := [.sl false 2 40 (rows WT.cells x.types), .sl false 3 32 (rows Xf.cells x.Xw)]
instance : d2K WU.cells 2 := ⟨fun _ => rfl, fun _ => rfl, fun _ => rfl⟩
theorem WU.XF (x : WU) : WU.cells x = [.sl false 2 40 (rows WT.cells x.types), .sl false 3 32 (rows Xf.cells x.Xw)] := rfl
theorem WU.get_eq (l : List WU) (k : Nat) : (rows WU.cells l).getD k [.sl false 2 40 [], .sl false 3 32 []] = WU.cells (get l k) := Ya (E := WU.cells) l k
attribute [go_sem] WU.XF WU.get_eq
structure XL where
 d4T : Int
 to_ : Int
instance : Inhabited XL := ⟨⟨default, default⟩⟩
def XL.cells (x : XL) : List D := [.int .i64 x.d4T, .int .i64 x.to_]
instance : d2K XL.cells 2 := ⟨fun _ => rfl, fun _ => rfl, fun _ => rfl⟩
theorem XL.XF (x : XL) : XL.cells x = [.int .i64 x.d4T, .int .i64 x.to_] := rfl
theorem XL.get_eq (l : List XL) (k : Nat) : (rows XL.cells l).getD k [.int .i64 0, .int .i64 0] = XL.cells (get l k) := Ya (E := XL.cells) l k
attribute [go_sem] XL.XF XL.get_eq
structure WX where
 type : Int
 links : (List XL)
instance : Inhabited WX := ⟨⟨default, default⟩⟩
def WX.cells (x : WX) : List D := [.int .i64 x.type, .sl false 2 16 (rows XL.cells x.links)]
instance : d2K WX.cells 2 := ⟨fun _ => rfl, fun _ => rfl, fun _ => rfl⟩
theorem WX.XF (x : WX) : WX.cells x = [.int .i64 x.type, .sl false 2 16 (rows XL.cells x.links)] := rfl
theorem WX.get_eq (l : List WX) (k : Nat) : (rows WX.cells l).getD k [.int .i64 0, .sl false 2 16 []] = WX.cells (get l k) := Ya (E := WX.cells) l k
attribute [go_sem] WX.XF WX.get_eq
structure Xg where
 nodes : (List WX)
instance : Inhabited Xg := ⟨⟨default⟩⟩
def Xg.cells (x : Xg) : List D := [.sl false 2 32 (rows WX.cells x.nodes)]
instance : d2K Xg.cells 1 := ⟨fun _ => rfl, fun _ => rfl, fun _ => rfl⟩
theorem Xg.XF (x : Xg) : Xg.cells x = [.sl false 2 32 (rows WX.cells x.nodes)] := rfl
theorem Xg.get_eq (l : List Xg) (k : Nat) : (rows Xg.cells l).getD k [.sl false 2 32 []] = Xg.cells (get l k) := Ya (E := Xg.cells) l k
attribute [go_sem] Xg.XF Xg.get_eq
inductive WK where
 | mk (base : Bs) (args : (List WK))
def WK.base : WK → Bs
 | .mk x _ => x
@[simp, go_sem] theorem WK.i4S (base : Bs) (args : (List WK)) : (WK.mk base args).base = base := rfl
def WK.args : WK → (List WK)
 | .mk _ x => x
@[simp, go_sem] theorem WK.i2H (base : Bs) (args : (List WK)) : (WK.mk base args).args = args := rfl
instance : Inhabited WK := ⟨.mk default default⟩
mutual
def WK.cells : WK → List D
 | .mk p8y p4a => [.str p8y, .sl false 2 40 (WK.i0m p4a)]
def WK.i0m : List WK → List (List D)
 | [] => []
 | x :: l => x.cells :: WK.i0m l
end
theorem WK.d5i : ∀ l : List WK, WK.i0m l = rows WK.cells l
 | [] => rfl
 | x :: l => by simp only [WK.i0m, i7d, WK.d5i l]
instance : d2K WK.cells 2 := ⟨fun x => by cases x; rfl, fun x => by cases x; rfl, fun x => by cases x; rfl⟩
theorem WK.XF (x : WK) : WK.cells x = [.str x.base, .sl false 2 40 (rows WK.cells x.args)] := by
 cases x
 simp only [WK.cells, WK.d5i]
 rfl
theorem WK.get_eq (l : List WK) (k : Nat) : (rows WK.cells l).getD k [.str [], .sl false 2 40 []] = WK.cells (get l k) := by
 rw [← Ya (E := WK.cells) l k, WK.XF]; rfl
attribute [go_sem] WK.XF WK.get_eq
inductive WO where
 | mk (kind : Int) (name : Bs) (index : Int) (type : WK) (args : (List WO))
def WO.kind : WO → Int
 | .mk x _ _ _ _ => x
@[simp, go_sem] theorem WO.p8z (kind : Int) (name : Bs) (index : Int) (type : WK) (args : (List WO)) : (WO.mk kind name index type args).kind = kind := rfl
def WO.name : WO → Bs
 | .mk _ x _ _ _ => x
@[simp, go_sem] theorem WO.p8A (kind : Int) (name : Bs) (index : Int) (type : WK) (args : (List WO)) : (WO.mk kind name index type args).name = name := rfl
def WO.index : WO → Int
 | .mk _ _ x _ _ => x
@[simp, go_sem] theorem WO.p7C (kind : Int) (name : Bs) (index : Int) (type : WK) (args : (List WO)) : (WO.mk kind name index type args).index = index := rfl
def WO.type : WO → WK
 | .mk _ _ _ x _ => x
@[simp, go_sem] theorem WO.p8B (kind : Int) (name : Bs) (index : Int) (type : WK) (args : (List WO)) : (WO.mk kind name index type args).type = type := rfl
def WO.args : WO → (List WO)
 | .mk _ _ _ _ x => x
@[simp, go_sem] theorem WO.i2H (kind : Int) (name : Bs) (index : Int) (type : WK) (args : (List WO)) : (WO.mk kind name index type args).args = args := rfl
instance : Inhabited WO := ⟨.mk default default default default default⟩
mutual
def WO.cells : WO → List D
 | .mk p8C p8D p6G p6H p4a => [.int .i64 p8C, .str p8D, .int .i64 p6G, .str p6H.base, .sl false 2 40 (rows WK.cells p6H.args), .sl false 6 96 (WO.i0m p4a)]
def WO.i0m : List WO → List (List D)
 | [] => []
 | x :: l => x.cells :: WO.i0m l
end
theorem WO.d5i : ∀ l : List WO, WO.i0m l = rows WO.cells l
 | [] => rfl
 | x :: l => by simp only [WO.i0m, i7d, WO.d5i l]
instance : d2K WO.cells 6 := ⟨fun x => by cases x; rfl, fun x => by cases x; rfl, fun x => by cases x; rfl⟩
theorem WO.XF (x : WO) : WO.cells x = [.int .i64 x.kind, .str x.name, .int .i64 x.index, .str x.type.base, .sl false 2 40 (rows WK.cells x.type.args), .sl false 6 96 (rows WO.cells x.args)] := by
 cases x
 simp only [WO.cells, WO.d5i]
 rfl
theorem WO.get_eq (l : List WO) (k : Nat) : (rows WO.cells l).getD k [.int .i64 0, .str [], .int .i64 0, .str [], .sl false 2 40 [], .sl false 6 96 []] = WO.cells (get l k) := by
 rw [← Ya (E := WO.cells) l k, WO.XF]; rfl
attribute [go_sem] WO.XF WO.get_eq
structure WQ where
 name : Bs
 graph : Xg
 kids : Int
 weight : Int
 meaning : WO
instance : Inhabited WQ := ⟨⟨default, default, default, default, default⟩⟩
def WQ.cells (x : WQ) : List D := [.str x.name, .sl false 2 32 (rows WX.cells x.graph.nodes), .int .i64 x.kids, .int .i64 x.weight, .int .i64 x.meaning.kind, .str x.meaning.name, .int .i64 x.meaning.index, .str x.meaning.type.base, .sl false 2 40 (rows WK.cells x.meaning.type.args), .sl false 6 96 (rows WO.cells x.meaning.args)]
instance : d2K WQ.cells 10 := ⟨fun _ => rfl, fun _ => rfl, fun _ => rfl⟩
theorem WQ.XF (x : WQ) : WQ.cells x = [.str x.name, .sl false 2 32 (rows WX.cells x.graph.nodes), .int .i64 x.kids, .int .i64 x.weight, .int .i64 x.meaning.kind, .str x.meaning.name, .int .i64 x.meaning.index, .str x.meaning.type.base, .sl false 2 40 (rows WK.cells x.meaning.type.args), .sl false 6 96 (rows WO.cells x.meaning.args)] := rfl
theorem WQ.get_eq (l : List WQ) (k : Nat) : (rows WQ.cells l).getD k [.str [], .sl false 2 32 [], .int .i64 0, .int .i64 0, .int .i64 0, .str [], .int .i64 0, .str [], .sl false 2 40 [], .sl false 6 96 []] = WQ.cells (get l k) := Ya (E := WQ.cells) l k
attribute [go_sem] WQ.XF WQ.get_eq
structure XE where
 word : Bs
 graph : Xg
 weight : Int
 meaning : WO
instance : Inhabited XE := ⟨⟨default, default, default, default⟩⟩
def XE.cells (x : XE) : List D := [.str x.word, .sl false 2 32 (rows WX.cells x.graph.nodes), .int .i64 x.weight, .int .i64 x.meaning.kind, .str x.meaning.name, .int .i64 x.meaning.index, .str x.meaning.type.base, .sl false 2 40 (rows WK.cells x.meaning.type.args), .sl false 6 96 (rows WO.cells x.meaning.args)]
instance : d2K XE.cells 9 := ⟨fun _ => rfl, fun _ => rfl, fun _ => rfl⟩
theorem XE.XF (x : XE) : XE.cells x = [.str x.word, .sl false 2 32 (rows WX.cells x.graph.nodes), .int .i64 x.weight, .int .i64 x.meaning.kind, .str x.meaning.name, .int .i64 x.meaning.index, .str x.meaning.type.base, .sl false 2 40 (rows WK.cells x.meaning.type.args), .sl false 6 96 (rows WO.cells x.meaning.args)] := rfl
theorem XE.get_eq (l : List XE) (k : Nat) : (rows XE.cells l).getD k [.str [], .sl false 2 32 [], .int .i64 0, .int .i64 0, .str [], .int .i64 0, .str [], .sl false 2 40 [], .sl false 6 96 []] = XE.cells (get l k) := Ya (E := XE.cells) l k
attribute [go_sem] XE.XF XE.get_eq
structure Xa where
 hierarchy : WU
 rules : (List WQ)
 Xj : (List XE)
 start : Xg
instance : Inhabited Xa := ⟨⟨default, default, default, default⟩⟩
def Xa.cells (x : Xa) : List D := [.sl false 2 40 (rows WT.cells x.hierarchy.types), .sl false 3 32 (rows Xf.cells x.hierarchy.Xw), .sl false 10 152 (rows WQ.cells x.rules), .sl false 9 144 (rows XE.cells x.Xj), .sl false 2 32 (rows WX.cells x.start.nodes)]
instance : d2K Xa.cells 5 := ⟨fun _ => rfl, fun _ => rfl, fun _ => rfl⟩
theorem Xa.XF (x : Xa) : Xa.cells x = [.sl false 2 40 (rows WT.cells x.hierarchy.types), .sl false 3 32 (rows Xf.cells x.hierarchy.Xw), .sl false 10 152 (rows WQ.cells x.rules), .sl false 9 144 (rows XE.cells x.Xj), .sl false 2 32 (rows WX.cells x.start.nodes)] := rfl
theorem Xa.get_eq (l : List Xa) (k : Nat) : (rows Xa.cells l).getD k [.sl false 2 40 [], .sl false 3 32 [], .sl false 10 152 [], .sl false 9 144 [], .sl false 2 32 []] = Xa.cells (get l k) := Ya (E := Xa.cells) l k
attribute [go_sem] Xa.XF Xa.get_eq
structure ZK where
 keep : Int
 drop : Int
 put : (List WQ)
instance : Inhabited ZK := ⟨⟨default, default, default⟩⟩
def ZK.cells (x : ZK) : List D := [.int .i64 x.keep, .int .i64 x.drop, .sl false 10 152 (rows WQ.cells x.put)]
instance : d2K ZK.cells 3 := ⟨fun _ => rfl, fun _ => rfl, fun _ => rfl⟩
theorem ZK.XF (x : ZK) : ZK.cells x = [.int .i64 x.keep, .int .i64 x.drop, .sl false 10 152 (rows WQ.cells x.put)] := rfl
theorem ZK.get_eq (l : List ZK) (k : Nat) : (rows ZK.cells l).getD k [.int .i64 0, .int .i64 0, .sl false 10 152 []] = ZK.cells (get l k) := Ya (E := ZK.cells) l k
attribute [go_sem] ZK.XF ZK.get_eq
structure d0A where
 keep : Int
 drop : Int
 put : (List XE)
instance : Inhabited d0A := ⟨⟨default, default, default⟩⟩
def d0A.cells (x : d0A) : List D := [.int .i64 x.keep, .int .i64 x.drop, .sl false 9 144 (rows XE.cells x.put)]
instance : d2K d0A.cells 3 := ⟨fun _ => rfl, fun _ => rfl, fun _ => rfl⟩
theorem d0A.XF (x : d0A) : d0A.cells x = [.int .i64 x.keep, .int .i64 x.drop, .sl false 9 144 (rows XE.cells x.put)] := rfl
theorem d0A.get_eq (l : List d0A) (k : Nat) : (rows d0A.cells l).getD k [.int .i64 0, .int .i64 0, .sl false 9 144 []] = d0A.cells (get l k) := Ya (E := d0A.cells) l k
attribute [go_sem] d0A.XF d0A.get_eq
structure d1s where
 hierarchy : (List WU)
 start : (List Xg)
 rules : (List ZK)
 Xj : (List d0A)
instance : Inhabited d1s := ⟨⟨default, default, default, default⟩⟩
def d1s.cells (x : d1s) : List D := [.sl false 2 48 (rows WU.cells x.hierarchy), .sl false 1 24 (rows Xg.cells x.start), .sl false 3 40 (rows ZK.cells x.rules), .sl false 3 40 (rows d0A.cells x.Xj)]
instance : d2K d1s.cells 4 := ⟨fun _ => rfl, fun _ => rfl, fun _ => rfl⟩
theorem d1s.XF (x : d1s) : d1s.cells x = [.sl false 2 48 (rows WU.cells x.hierarchy), .sl false 1 24 (rows Xg.cells x.start), .sl false 3 40 (rows ZK.cells x.rules), .sl false 3 40 (rows d0A.cells x.Xj)] := rfl
theorem d1s.get_eq (l : List d1s) (k : Nat) : (rows d1s.cells l).getD k [.sl false 2 48 [], .sl false 1 24 [], .sl false 3 40 [], .sl false 3 40 []] = d1s.cells (get l k) := Ya (E := d1s.cells) l k
attribute [go_sem] d1s.XF d1s.get_eq
structure WM where
 code : Int
 index : Int
instance : Inhabited WM := ⟨⟨default, default⟩⟩
def WM.cells (x : WM) : List D := [.int .i64 x.code, .int .i64 x.index]
instance : d2K WM.cells 2 := ⟨fun _ => rfl, fun _ => rfl, fun _ => rfl⟩
theorem WM.XF (x : WM) : WM.cells x = [.int .i64 x.code, .int .i64 x.index] := rfl
theorem WM.get_eq (l : List WM) (k : Nat) : (rows WM.cells l).getD k [.int .i64 0, .int .i64 0] = WM.cells (get l k) := Ya (E := WM.cells) l k
attribute [go_sem] WM.XF WM.get_eq
structure Xt where
 rules : (List Int)
 Xj : (List Int)
instance : Inhabited Xt := ⟨⟨default, default⟩⟩
def Xt.cells (x : Xt) : List D := [.sl false 1 8 (rows XM x.rules), .sl false 1 8 (rows XM x.Xj)]
instance : d2K Xt.cells 2 := ⟨fun _ => rfl, fun _ => rfl, fun _ => rfl⟩
theorem Xt.XF (x : Xt) : Xt.cells x = [.sl false 1 8 (rows XM x.rules), .sl false 1 8 (rows XM x.Xj)] := rfl
theorem Xt.get_eq (l : List Xt) (k : Nat) : (rows Xt.cells l).getD k [.sl false 1 8 [], .sl false 1 8 []] = Xt.cells (get l k) := Ya (E := Xt.cells) l k
attribute [go_sem] Xt.XF Xt.get_eq
inductive Xn where
 | mk (rule : Int) (lex : Int) (kids : (List Xn))
def Xn.rule : Xn → Int
 | .mk x _ _ => x
@[simp, go_sem] theorem Xn.p8E (rule : Int) (lex : Int) (kids : (List Xn)) : (Xn.mk rule lex kids).rule = rule := rfl
def Xn.lex : Xn → Int
 | .mk _ x _ => x
@[simp, go_sem] theorem Xn.p9t (rule : Int) (lex : Int) (kids : (List Xn)) : (Xn.mk rule lex kids).lex = lex := rfl
def Xn.kids : Xn → (List Xn)
 | .mk _ _ x => x
@[simp, go_sem] theorem Xn.p8F (rule : Int) (lex : Int) (kids : (List Xn)) : (Xn.mk rule lex kids).kids = kids := rfl
instance : Inhabited Xn := ⟨.mk default default default⟩
mutual
def Xn.cells : Xn → List D
 | .mk p8G r0v p8H => [.int .i64 p8G, .int .i64 r0v, .sl false 3 40 (Xn.i0m p8H)]
def Xn.i0m : List Xn → List (List D)
 | [] => []
 | x :: l => x.cells :: Xn.i0m l
end
theorem Xn.d5i : ∀ l : List Xn, Xn.i0m l = rows Xn.cells l
 | [] => rfl
 | x :: l => by simp only [Xn.i0m, i7d, Xn.d5i l]
instance : d2K Xn.cells 3 := ⟨fun x => by cases x; rfl, fun x => by cases x; rfl, fun x => by cases x; rfl⟩
theorem Xn.XF (x : Xn) : Xn.cells x = [.int .i64 x.rule, .int .i64 x.lex, .sl false 3 40 (rows Xn.cells x.kids)] := by
 cases x
 simp only [Xn.cells, Xn.d5i]
 rfl
theorem Xn.get_eq (l : List Xn) (k : Nat) : (rows Xn.cells l).getD k [.int .i64 0, .int .i64 0, .sl false 3 40 []] = Xn.cells (get l k) := by
 rw [← Ya (E := Xn.cells) l k, Xn.XF]; rfl
attribute [go_sem] Xn.XF Xn.get_eq
structure WZ where
 num : Int
 den : Int
instance : Inhabited WZ := ⟨⟨default, default⟩⟩
def WZ.cells (x : WZ) : List D := [.int .i64 x.num, .int .i64 x.den]
instance : d2K WZ.cells 2 := ⟨fun _ => rfl, fun _ => rfl, fun _ => rfl⟩
theorem WZ.XF (x : WZ) : WZ.cells x = [.int .i64 x.num, .int .i64 x.den] := rfl
theorem WZ.get_eq (l : List WZ) (k : Nat) : (rows WZ.cells l).getD k [.int .i64 0, .int .i64 0] = WZ.cells (get l k) := Ya (E := WZ.cells) l k
attribute [go_sem] WZ.XF WZ.get_eq
structure Xi where
 up : (List Int)
 down : (List Int)
instance : Inhabited Xi := ⟨⟨default, default⟩⟩
def Xi.cells (x : Xi) : List D := [.sl false 1 8 (rows d2a x.up), .sl false 1 8 (rows d2a x.down)]
instance : d2K Xi.cells 2 := ⟨fun _ => rfl, fun _ => rfl, fun _ => rfl⟩
theorem Xi.XF (x : Xi) : Xi.cells x = [.sl false 1 8 (rows d2a x.up), .sl false 1 8 (rows d2a x.down)] := rfl
theorem Xi.get_eq (l : List Xi) (k : Nat) : (rows Xi.cells l).getD k [.sl false 1 8 [], .sl false 1 8 []] = Xi.cells (get l k) := Ya (E := Xi.cells) l k
attribute [go_sem] Xi.XF Xi.get_eq
structure WL where
 hi : Int
 lo : Int
instance : Inhabited WL := ⟨⟨default, default⟩⟩
def WL.cells (x : WL) : List D := [.int .u64 x.hi, .int .u64 x.lo]
instance : d2K WL.cells 2 := ⟨fun _ => rfl, fun _ => rfl, fun _ => rfl⟩
theorem WL.XF (x : WL) : WL.cells x = [.int .u64 x.hi, .int .u64 x.lo] := rfl
theorem WL.get_eq (l : List WL) (k : Nat) : (rows WL.cells l).getD k [.int .u64 0, .int .u64 0] = WL.cells (get l k) := Ya (E := WL.cells) l k
attribute [go_sem] WL.XF WL.get_eq
structure WR where
 t : WO
 depth : Int
 bound : Int
instance : Inhabited WR := ⟨⟨default, default, default⟩⟩
def WR.cells (x : WR) : List D := [.int .i64 x.t.kind, .str x.t.name, .int .i64 x.t.index, .str x.t.type.base, .sl false 2 40 (rows WK.cells x.t.type.args), .sl false 6 96 (rows WO.cells x.t.args), .int .i64 x.depth, .int .i64 x.bound]
instance : d2K WR.cells 8 := ⟨fun _ => rfl, fun _ => rfl, fun _ => rfl⟩
theorem WR.XF (x : WR) : WR.cells x = [.int .i64 x.t.kind, .str x.t.name, .int .i64 x.t.index, .str x.t.type.base, .sl false 2 40 (rows WK.cells x.t.type.args), .sl false 6 96 (rows WO.cells x.t.args), .int .i64 x.depth, .int .i64 x.bound] := rfl
theorem WR.get_eq (l : List WR) (k : Nat) : (rows WR.cells l).getD k [.int .i64 0, .str [], .int .i64 0, .str [], .sl false 2 40 [], .sl false 6 96 [], .int .i64 0, .int .i64 0] = WR.cells (get l k) := Ya (E := WR.cells) l k
attribute [go_sem] WR.XF WR.get_eq
structure Xp where
 lo : Int
 hi : Int
instance : Inhabited Xp := ⟨⟨default, default⟩⟩
def Xp.cells (x : Xp) : List D := [.int .u8 x.lo, .int .u8 x.hi]
instance : d2K Xp.cells 2 := ⟨fun _ => rfl, fun _ => rfl, fun _ => rfl⟩
theorem Xp.XF (x : Xp) : Xp.cells x = [.int .u8 x.lo, .int .u8 x.hi] := rfl
theorem Xp.get_eq (l : List Xp) (k : Nat) : (rows Xp.cells l).getD k [.int .u8 0, .int .u8 0] = Xp.cells (get l k) := Ya (E := Xp.cells) l k
attribute [go_sem] Xp.XF Xp.get_eq
structure WW where
 s : WK
 depth : Int
instance : Inhabited WW := ⟨⟨default, default⟩⟩
def WW.cells (x : WW) : List D := [.str x.s.base, .sl false 2 40 (rows WK.cells x.s.args), .int .i64 x.depth]
instance : d2K WW.cells 3 := ⟨fun _ => rfl, fun _ => rfl, fun _ => rfl⟩
theorem WW.XF (x : WW) : WW.cells x = [.str x.s.base, .sl false 2 40 (rows WK.cells x.s.args), .int .i64 x.depth] := rfl
theorem WW.get_eq (l : List WW) (k : Nat) : (rows WW.cells l).getD k [.str [], .sl false 2 40 [], .int .i64 0] = WW.cells (get l k) := Ya (E := WW.cells) l k
attribute [go_sem] WW.XF WW.get_eq
structure Xo where
 kind : Int
 name : Bs
 typ : WK
 index : Int
 kids : (List Int)
 up : Int
instance : Inhabited Xo := ⟨⟨default, default, default, default, default, default⟩⟩
def Xo.cells (x : Xo) : List D := [.int .i64 x.kind, .str x.name, .str x.typ.base, .sl false 2 40 (rows WK.cells x.typ.args), .int .i64 x.index, .sl false 1 8 (rows XM x.kids), .int .i64 x.up]
instance : d2K Xo.cells 7 := ⟨fun _ => rfl, fun _ => rfl, fun _ => rfl⟩
theorem Xo.XF (x : Xo) : Xo.cells x = [.int .i64 x.kind, .str x.name, .str x.typ.base, .sl false 2 40 (rows WK.cells x.typ.args), .int .i64 x.index, .sl false 1 8 (rows XM x.kids), .int .i64 x.up] := rfl
theorem Xo.get_eq (l : List Xo) (k : Nat) : (rows Xo.cells l).getD k [.int .i64 0, .str [], .str [], .sl false 2 40 [], .int .i64 0, .sl false 1 8 [], .int .i64 0] = Xo.cells (get l k) := Ya (E := Xo.cells) l k
attribute [go_sem] Xo.XF Xo.get_eq
def p1p : (List Int) := [0, 1, 56, 2, 57, 49, 28, 3, 61, 58, 42, 50, 38, 29, 17, 4, 62, 47, 59, 36, 45, 43, 51, 22, 53, 39, 33, 30, 24, 18, 12, 5, 63, 55, 48, 27, 60, 41, 37, 16, 46, 35, 44, 21, 52, 32, 23, 11, 54, 26, 40, 15, 34, 20, 31, 10, 25, 14, 19, 9, 13, 8, 7, 6]
set_option maxRecDepth 100000 in
theorem p2n : p1p.length = 64 := by rfl
def d7y : (List Int) := (Go.Pinned.utf8FirstZ.map fun (n : Nat) => (n : Int))
set_option maxRecDepth 100000 in
theorem p2o : d7y.length = 256 := by rfl
def d9H : (List Xp) := [Xp.mk 128 191, Xp.mk 160 191, Xp.mk 128 159, Xp.mk 144 191, Xp.mk 128 143, Xp.mk 0 0, Xp.mk 0 0, Xp.mk 0 0, Xp.mk 0 0, Xp.mk 0 0, Xp.mk 0 0, Xp.mk 0 0, Xp.mk 0 0, Xp.mk 0 0, Xp.mk 0 0, Xp.mk 0 0]
set_option maxRecDepth 100000 in
theorem i8m : d9H.length = 16 := by rfl
end Go.Proofs.YtgaeiccgdpnkkaaGreatDoor
