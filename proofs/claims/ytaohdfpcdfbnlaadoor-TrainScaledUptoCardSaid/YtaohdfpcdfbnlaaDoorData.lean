/-
  The data that the values of the Go types read as.
-/
import GoSem.PinnedTables
import Derived.Test.YtaohdfpcdfbnlaaDoorAm3
set_option linter.unusedVariables false
set_option linter.unusedSimpArgs false
namespace Go.Proofs.YtaohdfpcdfbnlaaDoor
open Go Go.Am

structure ApiFeat where
  name : Bs
  of_ : Int
  value : Int
instance : Inhabited ApiFeat := ⟨⟨default, default, default⟩⟩
def ApiFeat.cells (x : ApiFeat) : List D := [.str x.name, .int .i64 x.of_, .int .i64 x.value]
instance : EncOk ApiFeat.cells 3 := ⟨fun _ => rfl, fun _ => rfl, fun _ => rfl⟩
theorem ApiFeat.cells_eq (x : ApiFeat) : ApiFeat.cells x = [.str x.name, .int .i64 x.of_, .int .i64 x.value] := rfl
theorem ApiFeat.get_eq (l : List ApiFeat) (k : Nat) : (rows ApiFeat.cells l).getD k [.str [], .int .i64 0, .int .i64 0] = ApiFeat.cells (get l k) := rows_getD (E := ApiFeat.cells) l k
attribute [go_sem] ApiFeat.cells_eq ApiFeat.get_eq
structure ApiType where
  name : Bs
  parents : (List Int)
instance : Inhabited ApiType := ⟨⟨default, default⟩⟩
def ApiType.cells (x : ApiType) : List D := [.str x.name, .sl false 1 8 (rows i64c x.parents)]
instance : EncOk ApiType.cells 2 := ⟨fun _ => rfl, fun _ => rfl, fun _ => rfl⟩
theorem ApiType.cells_eq (x : ApiType) : ApiType.cells x = [.str x.name, .sl false 1 8 (rows i64c x.parents)] := rfl
theorem ApiType.get_eq (l : List ApiType) (k : Nat) : (rows ApiType.cells l).getD k [.str [], .sl false 1 8 []] = ApiType.cells (get l k) := rows_getD (E := ApiType.cells) l k
attribute [go_sem] ApiType.cells_eq ApiType.get_eq
structure ApiHierarchy where
  types : (List ApiType)
  feats : (List ApiFeat)
instance : Inhabited ApiHierarchy := ⟨⟨default, default⟩⟩
def ApiHierarchy.cells (x : ApiHierarchy) : List D := [.sl false 2 40 (rows ApiType.cells x.types), .sl false 3 32 (rows ApiFeat.cells x.feats)]
instance : EncOk ApiHierarchy.cells 2 := ⟨fun _ => rfl, fun _ => rfl, fun _ => rfl⟩
theorem ApiHierarchy.cells_eq (x : ApiHierarchy) : ApiHierarchy.cells x = [.sl false 2 40 (rows ApiType.cells x.types), .sl false 3 32 (rows ApiFeat.cells x.feats)] := rfl
theorem ApiHierarchy.get_eq (l : List ApiHierarchy) (k : Nat) : (rows ApiHierarchy.cells l).getD k [.sl false 2 40 [], .sl false 3 32 []] = ApiHierarchy.cells (get l k) := rows_getD (E := ApiHierarchy.cells) l k
attribute [go_sem] ApiHierarchy.cells_eq ApiHierarchy.get_eq
structure ApiLink where
  feat : Int
  to_ : Int
instance : Inhabited ApiLink := ⟨⟨default, default⟩⟩
def ApiLink.cells (x : ApiLink) : List D := [.int .i64 x.feat, .int .i64 x.to_]
instance : EncOk ApiLink.cells 2 := ⟨fun _ => rfl, fun _ => rfl, fun _ => rfl⟩
theorem ApiLink.cells_eq (x : ApiLink) : ApiLink.cells x = [.int .i64 x.feat, .int .i64 x.to_] := rfl
theorem ApiLink.get_eq (l : List ApiLink) (k : Nat) : (rows ApiLink.cells l).getD k [.int .i64 0, .int .i64 0] = ApiLink.cells (get l k) := rows_getD (E := ApiLink.cells) l k
attribute [go_sem] ApiLink.cells_eq ApiLink.get_eq
structure ApiNode where
  type : Int
  links : (List ApiLink)
instance : Inhabited ApiNode := ⟨⟨default, default⟩⟩
def ApiNode.cells (x : ApiNode) : List D := [.int .i64 x.type, .sl false 2 16 (rows ApiLink.cells x.links)]
instance : EncOk ApiNode.cells 2 := ⟨fun _ => rfl, fun _ => rfl, fun _ => rfl⟩
theorem ApiNode.cells_eq (x : ApiNode) : ApiNode.cells x = [.int .i64 x.type, .sl false 2 16 (rows ApiLink.cells x.links)] := rfl
theorem ApiNode.get_eq (l : List ApiNode) (k : Nat) : (rows ApiNode.cells l).getD k [.int .i64 0, .sl false 2 16 []] = ApiNode.cells (get l k) := rows_getD (E := ApiNode.cells) l k
attribute [go_sem] ApiNode.cells_eq ApiNode.get_eq
structure ApiGraph where
  nodes : (List ApiNode)
instance : Inhabited ApiGraph := ⟨⟨default⟩⟩
def ApiGraph.cells (x : ApiGraph) : List D := [.sl false 2 32 (rows ApiNode.cells x.nodes)]
instance : EncOk ApiGraph.cells 1 := ⟨fun _ => rfl, fun _ => rfl, fun _ => rfl⟩
theorem ApiGraph.cells_eq (x : ApiGraph) : ApiGraph.cells x = [.sl false 2 32 (rows ApiNode.cells x.nodes)] := rfl
theorem ApiGraph.get_eq (l : List ApiGraph) (k : Nat) : (rows ApiGraph.cells l).getD k [.sl false 2 32 []] = ApiGraph.cells (get l k) := rows_getD (E := ApiGraph.cells) l k
attribute [go_sem] ApiGraph.cells_eq ApiGraph.get_eq
inductive ApiSimple where
  | mk (base : Bs) (args : (List ApiSimple))
def ApiSimple.base : ApiSimple → Bs
  | .mk x _ => x
@[simp, go_sem] theorem ApiSimple.base_mk (base : Bs) (args : (List ApiSimple)) : (ApiSimple.mk base args).base = base := rfl
def ApiSimple.args : ApiSimple → (List ApiSimple)
  | .mk _ x => x
@[simp, go_sem] theorem ApiSimple.args_mk (base : Bs) (args : (List ApiSimple)) : (ApiSimple.mk base args).args = args := rfl
instance : Inhabited ApiSimple := ⟨.mk default default⟩
mutual
def ApiSimple.cells : ApiSimple → List D
  | .mk xbase xargs => [.str xbase, .sl false 2 40 (ApiSimple.rowsL xargs)]
def ApiSimple.rowsL : List ApiSimple → List (List D)
  | [] => []
  | x :: l => x.cells :: ApiSimple.rowsL l
end
theorem ApiSimple.rowsL_eq : ∀ l : List ApiSimple, ApiSimple.rowsL l = rows ApiSimple.cells l
  | [] => rfl
  | x :: l => by simp only [ApiSimple.rowsL, rows_co, ApiSimple.rowsL_eq l]
instance : EncOk ApiSimple.cells 2 := ⟨fun x => by cases x; rfl, fun x => by cases x; rfl, fun x => by cases x; rfl⟩
theorem ApiSimple.cells_eq (x : ApiSimple) : ApiSimple.cells x = [.str x.base, .sl false 2 40 (rows ApiSimple.cells x.args)] := by
  cases x
  simp only [ApiSimple.cells, ApiSimple.rowsL_eq]
  rfl
theorem ApiSimple.get_eq (l : List ApiSimple) (k : Nat) : (rows ApiSimple.cells l).getD k [.str [], .sl false 2 40 []] = ApiSimple.cells (get l k) := by
  rw [← rows_getD (E := ApiSimple.cells) l k, ApiSimple.cells_eq]; rfl
attribute [go_sem] ApiSimple.cells_eq ApiSimple.get_eq
inductive ApiTerm where
  | mk (kind : Int) (name : Bs) (index : Int) (type : ApiSimple) (args : (List ApiTerm))
def ApiTerm.kind : ApiTerm → Int
  | .mk x _ _ _ _ => x
@[simp, go_sem] theorem ApiTerm.kind_mk (kind : Int) (name : Bs) (index : Int) (type : ApiSimple) (args : (List ApiTerm)) : (ApiTerm.mk kind name index type args).kind = kind := rfl
def ApiTerm.name : ApiTerm → Bs
  | .mk _ x _ _ _ => x
@[simp, go_sem] theorem ApiTerm.name_mk (kind : Int) (name : Bs) (index : Int) (type : ApiSimple) (args : (List ApiTerm)) : (ApiTerm.mk kind name index type args).name = name := rfl
def ApiTerm.index : ApiTerm → Int
  | .mk _ _ x _ _ => x
@[simp, go_sem] theorem ApiTerm.index_mk (kind : Int) (name : Bs) (index : Int) (type : ApiSimple) (args : (List ApiTerm)) : (ApiTerm.mk kind name index type args).index = index := rfl
def ApiTerm.type : ApiTerm → ApiSimple
  | .mk _ _ _ x _ => x
@[simp, go_sem] theorem ApiTerm.type_mk (kind : Int) (name : Bs) (index : Int) (type : ApiSimple) (args : (List ApiTerm)) : (ApiTerm.mk kind name index type args).type = type := rfl
def ApiTerm.args : ApiTerm → (List ApiTerm)
  | .mk _ _ _ _ x => x
@[simp, go_sem] theorem ApiTerm.args_mk (kind : Int) (name : Bs) (index : Int) (type : ApiSimple) (args : (List ApiTerm)) : (ApiTerm.mk kind name index type args).args = args := rfl
instance : Inhabited ApiTerm := ⟨.mk default default default default default⟩
mutual
def ApiTerm.cells : ApiTerm → List D
  | .mk xkind xname xindex xtype xargs => [.int .i64 xkind, .str xname, .int .i64 xindex, .str xtype.base, .sl false 2 40 (rows ApiSimple.cells xtype.args), .sl false 6 96 (ApiTerm.rowsL xargs)]
def ApiTerm.rowsL : List ApiTerm → List (List D)
  | [] => []
  | x :: l => x.cells :: ApiTerm.rowsL l
end
theorem ApiTerm.rowsL_eq : ∀ l : List ApiTerm, ApiTerm.rowsL l = rows ApiTerm.cells l
  | [] => rfl
  | x :: l => by simp only [ApiTerm.rowsL, rows_co, ApiTerm.rowsL_eq l]
instance : EncOk ApiTerm.cells 6 := ⟨fun x => by cases x; rfl, fun x => by cases x; rfl, fun x => by cases x; rfl⟩
theorem ApiTerm.cells_eq (x : ApiTerm) : ApiTerm.cells x = [.int .i64 x.kind, .str x.name, .int .i64 x.index, .str x.type.base, .sl false 2 40 (rows ApiSimple.cells x.type.args), .sl false 6 96 (rows ApiTerm.cells x.args)] := by
  cases x
  simp only [ApiTerm.cells, ApiTerm.rowsL_eq]
  rfl
theorem ApiTerm.get_eq (l : List ApiTerm) (k : Nat) : (rows ApiTerm.cells l).getD k [.int .i64 0, .str [], .int .i64 0, .str [], .sl false 2 40 [], .sl false 6 96 []] = ApiTerm.cells (get l k) := by
  rw [← rows_getD (E := ApiTerm.cells) l k, ApiTerm.cells_eq]; rfl
attribute [go_sem] ApiTerm.cells_eq ApiTerm.get_eq
structure ApiRule where
  name : Bs
  graph : ApiGraph
  kids : Int
  weight : Int
  meaning : ApiTerm
instance : Inhabited ApiRule := ⟨⟨default, default, default, default, default⟩⟩
def ApiRule.cells (x : ApiRule) : List D := [.str x.name, .sl false 2 32 (rows ApiNode.cells x.graph.nodes), .int .i64 x.kids, .int .i64 x.weight, .int .i64 x.meaning.kind, .str x.meaning.name, .int .i64 x.meaning.index, .str x.meaning.type.base, .sl false 2 40 (rows ApiSimple.cells x.meaning.type.args), .sl false 6 96 (rows ApiTerm.cells x.meaning.args)]
instance : EncOk ApiRule.cells 10 := ⟨fun _ => rfl, fun _ => rfl, fun _ => rfl⟩
theorem ApiRule.cells_eq (x : ApiRule) : ApiRule.cells x = [.str x.name, .sl false 2 32 (rows ApiNode.cells x.graph.nodes), .int .i64 x.kids, .int .i64 x.weight, .int .i64 x.meaning.kind, .str x.meaning.name, .int .i64 x.meaning.index, .str x.meaning.type.base, .sl false 2 40 (rows ApiSimple.cells x.meaning.type.args), .sl false 6 96 (rows ApiTerm.cells x.meaning.args)] := rfl
theorem ApiRule.get_eq (l : List ApiRule) (k : Nat) : (rows ApiRule.cells l).getD k [.str [], .sl false 2 32 [], .int .i64 0, .int .i64 0, .int .i64 0, .str [], .int .i64 0, .str [], .sl false 2 40 [], .sl false 6 96 []] = ApiRule.cells (get l k) := rows_getD (E := ApiRule.cells) l k
attribute [go_sem] ApiRule.cells_eq ApiRule.get_eq
structure ApiLex where
  word : Bs
  graph : ApiGraph
  weight : Int
  meaning : ApiTerm
instance : Inhabited ApiLex := ⟨⟨default, default, default, default⟩⟩
def ApiLex.cells (x : ApiLex) : List D := [.str x.word, .sl false 2 32 (rows ApiNode.cells x.graph.nodes), .int .i64 x.weight, .int .i64 x.meaning.kind, .str x.meaning.name, .int .i64 x.meaning.index, .str x.meaning.type.base, .sl false 2 40 (rows ApiSimple.cells x.meaning.type.args), .sl false 6 96 (rows ApiTerm.cells x.meaning.args)]
instance : EncOk ApiLex.cells 9 := ⟨fun _ => rfl, fun _ => rfl, fun _ => rfl⟩
theorem ApiLex.cells_eq (x : ApiLex) : ApiLex.cells x = [.str x.word, .sl false 2 32 (rows ApiNode.cells x.graph.nodes), .int .i64 x.weight, .int .i64 x.meaning.kind, .str x.meaning.name, .int .i64 x.meaning.index, .str x.meaning.type.base, .sl false 2 40 (rows ApiSimple.cells x.meaning.type.args), .sl false 6 96 (rows ApiTerm.cells x.meaning.args)] := rfl
theorem ApiLex.get_eq (l : List ApiLex) (k : Nat) : (rows ApiLex.cells l).getD k [.str [], .sl false 2 32 [], .int .i64 0, .int .i64 0, .str [], .int .i64 0, .str [], .sl false 2 40 [], .sl false 6 96 []] = ApiLex.cells (get l k) := rows_getD (E := ApiLex.cells) l k
attribute [go_sem] ApiLex.cells_eq ApiLex.get_eq
structure ApiGrammar where
  hierarchy : ApiHierarchy
  rules : (List ApiRule)
  lexes : (List ApiLex)
  start : ApiGraph
instance : Inhabited ApiGrammar := ⟨⟨default, default, default, default⟩⟩
def ApiGrammar.cells (x : ApiGrammar) : List D := [.sl false 2 40 (rows ApiType.cells x.hierarchy.types), .sl false 3 32 (rows ApiFeat.cells x.hierarchy.feats), .sl false 10 152 (rows ApiRule.cells x.rules), .sl false 9 144 (rows ApiLex.cells x.lexes), .sl false 2 32 (rows ApiNode.cells x.start.nodes)]
instance : EncOk ApiGrammar.cells 5 := ⟨fun _ => rfl, fun _ => rfl, fun _ => rfl⟩
theorem ApiGrammar.cells_eq (x : ApiGrammar) : ApiGrammar.cells x = [.sl false 2 40 (rows ApiType.cells x.hierarchy.types), .sl false 3 32 (rows ApiFeat.cells x.hierarchy.feats), .sl false 10 152 (rows ApiRule.cells x.rules), .sl false 9 144 (rows ApiLex.cells x.lexes), .sl false 2 32 (rows ApiNode.cells x.start.nodes)] := rfl
theorem ApiGrammar.get_eq (l : List ApiGrammar) (k : Nat) : (rows ApiGrammar.cells l).getD k [.sl false 2 40 [], .sl false 3 32 [], .sl false 10 152 [], .sl false 9 144 [], .sl false 2 32 []] = ApiGrammar.cells (get l k) := rows_getD (E := ApiGrammar.cells) l k
attribute [go_sem] ApiGrammar.cells_eq ApiGrammar.get_eq
inductive ApiTree where
  | mk (rule : Int) (lex : Int) (kids : (List ApiTree))
def ApiTree.rule : ApiTree → Int
  | .mk x _ _ => x
@[simp, go_sem] theorem ApiTree.rule_mk (rule : Int) (lex : Int) (kids : (List ApiTree)) : (ApiTree.mk rule lex kids).rule = rule := rfl
def ApiTree.lex : ApiTree → Int
  | .mk _ x _ => x
@[simp, go_sem] theorem ApiTree.lex_mk (rule : Int) (lex : Int) (kids : (List ApiTree)) : (ApiTree.mk rule lex kids).lex = lex := rfl
def ApiTree.kids : ApiTree → (List ApiTree)
  | .mk _ _ x => x
@[simp, go_sem] theorem ApiTree.kids_mk (rule : Int) (lex : Int) (kids : (List ApiTree)) : (ApiTree.mk rule lex kids).kids = kids := rfl
instance : Inhabited ApiTree := ⟨.mk default default default⟩
mutual
def ApiTree.cells : ApiTree → List D
  | .mk xrule xlex xkids => [.int .i64 xrule, .int .i64 xlex, .sl false 3 40 (ApiTree.rowsL xkids)]
def ApiTree.rowsL : List ApiTree → List (List D)
  | [] => []
  | x :: l => x.cells :: ApiTree.rowsL l
end
theorem ApiTree.rowsL_eq : ∀ l : List ApiTree, ApiTree.rowsL l = rows ApiTree.cells l
  | [] => rfl
  | x :: l => by simp only [ApiTree.rowsL, rows_co, ApiTree.rowsL_eq l]
instance : EncOk ApiTree.cells 3 := ⟨fun x => by cases x; rfl, fun x => by cases x; rfl, fun x => by cases x; rfl⟩
theorem ApiTree.cells_eq (x : ApiTree) : ApiTree.cells x = [.int .i64 x.rule, .int .i64 x.lex, .sl false 3 40 (rows ApiTree.cells x.kids)] := by
  cases x
  simp only [ApiTree.cells, ApiTree.rowsL_eq]
  rfl
theorem ApiTree.get_eq (l : List ApiTree) (k : Nat) : (rows ApiTree.cells l).getD k [.int .i64 0, .int .i64 0, .sl false 3 40 []] = ApiTree.cells (get l k) := by
  rw [← rows_getD (E := ApiTree.cells) l k, ApiTree.cells_eq]; rfl
attribute [go_sem] ApiTree.cells_eq ApiTree.get_eq
structure ApiCounts where
  rules : (List Int)
  lexes : (List Int)
instance : Inhabited ApiCounts := ⟨⟨default, default⟩⟩
def ApiCounts.cells (x : ApiCounts) : List D := [.sl false 1 8 (rows i64c x.rules), .sl false 1 8 (rows i64c x.lexes)]
instance : EncOk ApiCounts.cells 2 := ⟨fun _ => rfl, fun _ => rfl, fun _ => rfl⟩
theorem ApiCounts.cells_eq (x : ApiCounts) : ApiCounts.cells x = [.sl false 1 8 (rows i64c x.rules), .sl false 1 8 (rows i64c x.lexes)] := rfl
theorem ApiCounts.get_eq (l : List ApiCounts) (k : Nat) : (rows ApiCounts.cells l).getD k [.sl false 1 8 [], .sl false 1 8 []] = ApiCounts.cells (get l k) := rows_getD (E := ApiCounts.cells) l k
attribute [go_sem] ApiCounts.cells_eq ApiCounts.get_eq
structure ApiFault where
  code : Int
  index : Int
instance : Inhabited ApiFault := ⟨⟨default, default⟩⟩
def ApiFault.cells (x : ApiFault) : List D := [.int .i64 x.code, .int .i64 x.index]
instance : EncOk ApiFault.cells 2 := ⟨fun _ => rfl, fun _ => rfl, fun _ => rfl⟩
theorem ApiFault.cells_eq (x : ApiFault) : ApiFault.cells x = [.int .i64 x.code, .int .i64 x.index] := rfl
theorem ApiFault.get_eq (l : List ApiFault) (k : Nat) : (rows ApiFault.cells l).getD k [.int .i64 0, .int .i64 0] = ApiFault.cells (get l k) := rows_getD (E := ApiFault.cells) l k
attribute [go_sem] ApiFault.cells_eq ApiFault.get_eq
structure ApiFrac where
  num : Int
  den : Int
instance : Inhabited ApiFrac := ⟨⟨default, default⟩⟩
def ApiFrac.cells (x : ApiFrac) : List D := [.int .i64 x.num, .int .i64 x.den]
instance : EncOk ApiFrac.cells 2 := ⟨fun _ => rfl, fun _ => rfl, fun _ => rfl⟩
theorem ApiFrac.cells_eq (x : ApiFrac) : ApiFrac.cells x = [.int .i64 x.num, .int .i64 x.den] := rfl
theorem ApiFrac.get_eq (l : List ApiFrac) (k : Nat) : (rows ApiFrac.cells l).getD k [.int .i64 0, .int .i64 0] = ApiFrac.cells (get l k) := rows_getD (E := ApiFrac.cells) l k
attribute [go_sem] ApiFrac.cells_eq ApiFrac.get_eq
structure HierarchyTable where
  up : (List Int)
  down : (List Int)
instance : Inhabited HierarchyTable := ⟨⟨default, default⟩⟩
def HierarchyTable.cells (x : HierarchyTable) : List D := [.sl false 1 8 (rows u64c x.up), .sl false 1 8 (rows u64c x.down)]
instance : EncOk HierarchyTable.cells 2 := ⟨fun _ => rfl, fun _ => rfl, fun _ => rfl⟩
theorem HierarchyTable.cells_eq (x : HierarchyTable) : HierarchyTable.cells x = [.sl false 1 8 (rows u64c x.up), .sl false 1 8 (rows u64c x.down)] := rfl
theorem HierarchyTable.get_eq (l : List HierarchyTable) (k : Nat) : (rows HierarchyTable.cells l).getD k [.sl false 1 8 [], .sl false 1 8 []] = HierarchyTable.cells (get l k) := rows_getD (E := HierarchyTable.cells) l k
attribute [go_sem] HierarchyTable.cells_eq HierarchyTable.get_eq
structure Utf8AcceptRange where
  lo : Int
  hi : Int
instance : Inhabited Utf8AcceptRange := ⟨⟨default, default⟩⟩
def Utf8AcceptRange.cells (x : Utf8AcceptRange) : List D := [.int .u8 x.lo, .int .u8 x.hi]
instance : EncOk Utf8AcceptRange.cells 2 := ⟨fun _ => rfl, fun _ => rfl, fun _ => rfl⟩
theorem Utf8AcceptRange.cells_eq (x : Utf8AcceptRange) : Utf8AcceptRange.cells x = [.int .u8 x.lo, .int .u8 x.hi] := rfl
theorem Utf8AcceptRange.get_eq (l : List Utf8AcceptRange) (k : Nat) : (rows Utf8AcceptRange.cells l).getD k [.int .u8 0, .int .u8 0] = Utf8AcceptRange.cells (get l k) := rows_getD (E := Utf8AcceptRange.cells) l k
attribute [go_sem] Utf8AcceptRange.cells_eq Utf8AcceptRange.get_eq

/-- math/bits.deBruijn64tab -/
def tab0 : (List Int) := [0, 1, 56, 2, 57, 49, 28, 3, 61, 58, 42, 50, 38, 29, 17, 4, 62, 47, 59, 36, 45, 43, 51, 22, 53, 39, 33, 30, 24, 18, 12, 5, 63, 55, 48, 27, 60, 41, 37, 16, 46, 35, 44, 21, 52, 32, 23, 11, 54, 26, 40, 15, 34, 20, 31, 10, 25, 14, 19, 9, 13, 8, 7, 6]
set_option maxRecDepth 100000 in
theorem tab0_len : tab0.length = 64 := by rfl
/-- unicode/utf8.first -/
def tab1 : (List Int) := (Go.Pinned.utf8FirstZ.map fun (n : Nat) => (n : Int))
set_option maxRecDepth 100000 in
theorem tab1_len : tab1.length = 256 := by rfl
/-- unicode/utf8.acceptRanges -/
def tab2 : (List Utf8AcceptRange) := [Utf8AcceptRange.mk 128 191, Utf8AcceptRange.mk 160 191, Utf8AcceptRange.mk 128 159, Utf8AcceptRange.mk 144 191, Utf8AcceptRange.mk 128 143, Utf8AcceptRange.mk 0 0, Utf8AcceptRange.mk 0 0, Utf8AcceptRange.mk 0 0, Utf8AcceptRange.mk 0 0, Utf8AcceptRange.mk 0 0, Utf8AcceptRange.mk 0 0, Utf8AcceptRange.mk 0 0, Utf8AcceptRange.mk 0 0, Utf8AcceptRange.mk 0 0, Utf8AcceptRange.mk 0 0, Utf8AcceptRange.mk 0 0]
set_option maxRecDepth 100000 in
theorem tab2_len : tab2.length = 16 := by rfl

end Go.Proofs.YtaohdfpcdfbnlaaDoor

